import PyProof.Rows.All
import Wide.All
import OpenK.AllK
import Wide.FinOn
import HandS.ForMost
import HandS.ForExc
import HandS.CallSlots
import HandS.AnyAll
import HandS.Wide
import HandS.Deep
import HandS.TupAny
import HandS.Text
import HandS.Rev
import HandS.RevRange
import HandS.IsInst
import HandS.Flt
import HandS.Codes
import PySem.Challenge.RW_cubesums_k08_tokens
set_option Elab.async false
set_option linter.all false
set_option maxRecDepth 100000
set_option maxHeartbeats 4000000
/-! VL1: pure data, slots, the relation to the heap. -/
namespace VL
open PySem PySem.Spec PyProof.Rows L2

/-- pure data -/
inductive D where
  | non
  | bl (b : Bool)
  | int (i : Int)
  | str (x : Str)
  | tup (ds : List D)
  | lst (ds : List D)
  | obj (C : Addr) (fs : List (Str × D))
  | scr (ds : List D)

mutual
inductive Rp (K : PySem.W.Frag) (H : Hp) : D → V → Prop
  | non : Rp K H .non .non
  | bl (b : Bool) : Rp K H (.bl b) (.bl b)
  | int (i : Int) : Rp K H (.int i) (.int i)
  | str (x : Str) : Rp K H (.str x) (.str x)
  | tup {a : Addr} {vs : List V} {ds : List D} : SqT K H a vs → RpL K H ds vs → Rp K H (.tup ds) (.ref a)
  | lst {a : Addr} {vs : List V} {ds : List D} : H a = some (.lst vs) → RpL K H ds vs → Rp K H (.lst ds) (.ref a)
  | obj {a C dx : Addr} {fs : List (Str × D)} {gs : List (Str × V)} : H a = some (.ins C dx gs) → RpF K H fs gs → Rp K H (.obj C fs) (.ref a)
  | scr {a : Addr} {vs : List V} {ds : List D} : SqL K H a vs → RpL K H ds vs → Rp K H (.scr ds) (.ref a)
inductive RpL (K : PySem.W.Frag) (H : Hp) : List D → List V → Prop
  | nil : RpL K H [] []
  | cons {d : D} {v : V} {ds : List D} {vs : List V} : Rp K H d v → RpL K H ds vs → RpL K H (d :: ds) (v :: vs)
inductive RpF (K : PySem.W.Frag) (H : Hp) : List (Str × D) → List (Str × V) → Prop
  | nil : RpF K H [] []
  | cons {n : Str} {d : D} {v : V} {fs : List (Str × D)} {gs : List (Str × V)} : Rp K H d v → RpF K H fs gs → RpF K H ((n, d) :: fs) ((n, v) :: gs)
end

theorem same_seqT {K : PySem.W.Frag} {H H' : Hp} {a : Addr} {xs : List V} (e : Same H H') (h : SqT K H a xs) : SqT K H' a xs := by
  rcases h with (h | ⟨o, h⟩) | h
  · exact .inl (.inl (e _ _ h))
  · exact .inl (.inr ⟨o, e _ _ h⟩)
  · exact .inr h

section
variable {K : PySem.W.Frag} {H H' Hb Hb' : Hp}
mutual
theorem Rp.mono (e : Same H H') : ∀ (d : D) (v : V), Rp K H d v → Rp K H' d v
  | .non, _, h => by cases h; exact .non
  | .bl b, _, h => by cases h; exact .bl b
  | .int i, _, h => by cases h; exact .int i
  | .str x, _, h => by cases h; exact .str x
  | .tup ds, _, h => by cases h with | tup s r => exact .tup (same_seqT e s) (RpL.mono e ds _ r)
  | .lst ds, _, h => by cases h with | lst s r => exact .lst (e _ _ s) (RpL.mono e ds _ r)
  | .scr ds, _, h => by cases h with | scr s r => exact .scr (e.seq s) (RpL.mono e ds _ r)
  | .obj C fs, _, h => by cases h with | obj s r => exact .obj (e _ _ s) (RpF.mono e fs _ r)
theorem RpL.mono (e : Same H H') : ∀ (ds : List D) (vs : List V), RpL K H ds vs → RpL K H' ds vs
  | [], _, h => by cases h; exact .nil
  | d :: ds, _, h => by cases h with | cons a r => exact .cons (Rp.mono e d _ a) (RpL.mono e ds _ r)
theorem RpF.mono (e : Same H H') : ∀ (fs : List (Str × D)) (gs : List (Str × V)), RpF K H fs gs → RpF K H' fs gs
  | [], _, h => by cases h; exact .nil
  | (n, d) :: fs, _, h => by cases h with | cons a r => exact .cons (Rp.mono e d _ a) (RpF.mono e fs _ r)
end
theorem Rp.mn {d : D} {v : V} (h : Rp K H d v) (e : Same H H') : Rp K H' d v := Rp.mono e d v h
theorem RpL.mn {d : List D} {v : List V} (h : RpL K H d v) (e : Same H H') : RpL K H' d v := RpL.mono e d v h
theorem RpF.mn {d : List (Str × D)} {v : List (Str × V)} (h : RpF K H d v) (e : Same H H') : RpF K H' d v := RpF.mono e d v h

theorem RpL.length : ∀ {ds : List D} {vs : List V}, RpL K H ds vs → vs.length = ds.length
  | [], _, h => by cases h; rfl
  | d :: ds, _, h => by cases h with | cons a r => simp [RpL.length r]
theorem RpL.get : ∀ {ds : List D} {vs : List V} {i : Nat} {d : D}, RpL K H ds vs → ds[i]? = some d → ∃ v, vs[i]? = some v ∧ Rp K H d v
  | [], _, _, _, _, e => by simp at e
  | d :: ds, _, 0, _, h, e => by cases h with | cons a r => simp at e; subst e; exact ⟨_, rfl, a⟩
  | d :: ds, _, i + 1, _, h, e => by
    cases h with
    | cons a r =>
      obtain ⟨v, h1, h2⟩ := RpL.get (i := i) r (by simpa using e)
      exact ⟨v, by simpa using h1, h2⟩
theorem RpL.get' : ∀ {ds : List D} {vs : List V} {i : Nat} {v : V}, RpL K H ds vs → vs[i]? = some v → ∃ d, ds[i]? = some d ∧ Rp K H d v := fun {ds vs i v} h e => by
  have hl := h.length
  have hi : i < ds.length := by
    have := (List.getElem?_eq_some_iff.mp e).1
    omega
  obtain ⟨w, h1, h2⟩ := h.get (List.getElem?_eq_getElem hi)
  rw [e] at h1; cases h1
  exact ⟨_, List.getElem?_eq_getElem hi, h2⟩
theorem RpL.app : ∀ {ds es : List D} {vs ws : List V}, RpL K H ds vs → RpL K H es ws → RpL K H (ds ++ es) (vs ++ ws)
  | [], _, _, _, h, g => by cases h; exact g
  | d :: ds, _, _, _, h, g => by cases h with | cons a r => exact .cons a (RpL.app r g)
theorem RpL.one {d : D} {v : V} (h : Rp K H d v) : RpL K H [d] [v] := .cons h .nil
theorem RpL.take : ∀ {ds : List D} {vs : List V} (n : Nat), RpL K H ds vs → RpL K H (ds.take n) (vs.take n)
  | _, _, 0, _ => by simp; exact .nil
  | [], _, n + 1, h => by cases h; exact .nil
  | d :: ds, _, n + 1, h => by cases h with | cons a r => exact .cons a (RpL.take n r)
theorem RpL.drop : ∀ {ds : List D} {vs : List V} (n : Nat), RpL K H ds vs → RpL K H (ds.drop n) (vs.drop n)
  | _, _, 0, h => h
  | [], _, n + 1, h => by cases h; exact .nil
  | d :: ds, _, n + 1, h => by cases h with | cons a r => exact RpL.drop n r
theorem RpL.set : ∀ {ds : List D} {vs : List V} {d : D} {v : V} (n : Nat), Rp K H d v → RpL K H ds vs → RpL K H (ds.set n d) (vs.set n v)
  | [], _, _, _, _, _, h => by cases h; exact .nil
  | x :: ds, _, _, _, 0, g, h => by cases h with | cons a r => exact .cons g r
  | x :: ds, _, _, _, n + 1, g, h => by cases h with | cons a r => exact .cons a (RpL.set n g r)
theorem RpL.rev : ∀ {ds : List D} {vs : List V}, RpL K H ds vs → RpL K H ds.reverse vs.reverse
  | [], _, h => by cases h; exact .nil
  | d :: ds, _, h => by cases h with | cons a r => simp only [List.reverse_cons]; exact (RpL.rev r).app (.one a)
theorem RpF.look : ∀ {fs : List (Str × D)} {gs : List (Str × V)} {n : Str} {d : D}, RpF K H fs gs → fs.lookup n = some d → ∃ v, gs.lookup n = some v ∧ Rp K H d v
  | [], _, _, _, _, e => by simp at e
  | (m, x) :: fs, _, n, d, h, e => by
    cases h with
    | cons a r =>
      simp only [List.lookup_cons] at e ⊢
      cases hx : n == m with
      | true => rw [hx] at e; cases e; exact ⟨_, rfl, a⟩
      | false => rw [hx] at e; exact RpF.look r e
theorem RpF.none : ∀ {fs : List (Str × D)} {gs : List (Str × V)} {n : Str}, RpF K H fs gs → fs.lookup n = none → gs.lookup n = none
  | [], _, _, h, _ => by cases h; rfl
  | (m, x) :: fs, _, n, h, e => by
    cases h with
    | cons a r =>
      simp only [List.lookup_cons] at e ⊢
      cases hx : n == m with
      | true => rw [hx] at e; cases e
      | false => rw [hx] at e; exact RpF.none r e
end

/-! ### a thing that is read: itself in H, what it holds in Hb -/
inductive RR (K : PySem.W.Frag) (Hb H : Hp) : D → V → Prop
  | non : RR K Hb H .non .non
  | bl (b : Bool) : RR K Hb H (.bl b) (.bl b)
  | int (i : Int) : RR K Hb H (.int i) (.int i)
  | str (x : Str) : RR K Hb H (.str x) (.str x)
  | tup {a : Addr} {vs : List V} {ds : List D} : SqT K Hb a vs → RpL K Hb ds vs → RR K Hb H (.tup ds) (.ref a)
  | lst {a : Addr} {vs : List V} {ds : List D} : H a = some (.lst vs) → RpL K Hb ds vs → RR K Hb H (.lst ds) (.ref a)
  | scr {a : Addr} {vs : List V} {ds : List D} : SqL K H a vs → RpL K Hb ds vs → RR K Hb H (.scr ds) (.ref a)
  | obj {a C dx : Addr} {fs : List (Str × D)} {gs : List (Str × V)} : H a = some (.ins C dx gs) → RpF K Hb fs gs → RR K Hb H (.obj C fs) (.ref a)
theorem Rp.rr {K : PySem.W.Frag} {Hb H : Hp} {d : D} {v : V} (h : Rp K Hb d v) (e : Same Hb H) : RR K Hb H d v := by
  cases h with
  | non => exact .non
  | bl b => exact .bl b
  | int i => exact .int i
  | str x => exact .str x
  | tup s r => exact .tup s r
  | lst s r => exact .lst (e _ _ s) r
  | scr s r => exact .scr (e.seq s) r
  | obj s r => exact .obj (e _ _ s) r
theorem RR.up {K : PySem.W.Frag} {Hb H : Hp} {d : D} {v : V} (h : RR K Hb H d v) (e : Same Hb H) : Rp K H d v := by
  cases h with
  | non => exact .non
  | bl b => exact .bl b
  | int i => exact .int i
  | str x => exact .str x
  | tup s r => exact .tup (same_seqT e s) (r.mn e)
  | lst s r => exact .lst s (r.mn e)
  | scr s r => exact .scr s (r.mn e)
  | obj s r => exact .obj s (r.mn e)

/-- what one slot alone owns -/
inductive OC where
  | lst (ds : List D)
  | ins (C : Addr) (fs : List (Str × D))
@[simp] def OC.fz : OC → D
  | .lst ds => .lst ds
  | .ins C fs => .obj C fs
def Cont (K : PySem.W.Frag) (Hb H : Hp) (a : Addr) : OC → Prop
  | .lst ds => ∃ vs, H a = some (.lst vs) ∧ RpL K Hb ds vs
  | .ins C fs => ∃ dx gs, H a = some (.ins C dx gs) ∧ RpF K Hb fs gs
theorem Cont.there {K : PySem.W.Frag} {Hb H : Hp} {a : Addr} {oc : OC} (h : Cont K Hb H a oc) : ∃ o, H a = some o := by
  cases oc with
  | lst ds => obtain ⟨vs, e, _⟩ := h; exact ⟨_, e⟩
  | ins C fs => obtain ⟨dx, gs, e, _⟩ := h; exact ⟨_, e⟩
theorem Cont.notab {K : PySem.W.Frag} {Hb H : Hp} {a : Addr} {oc : OC} (h : Cont K Hb H a oc) {P : Addr} (t : GxR.TabG H P) : P ≠ a := by
  rintro rfl
  obtain ⟨ps, e, _⟩ := t
  cases oc with
  | lst ds => obtain ⟨vs, e', _⟩ := h; rw [e] at e'; cases e'
  | ins C fs => obtain ⟨dx, gs, e', _⟩ := h; rw [e] at e'; cases e'
theorem Cont.rr {K : PySem.W.Frag} {Hb H : Hp} {a : Addr} {oc : OC} (h : Cont K Hb H a oc) : RR K Hb H oc.fz (.ref a) := by
  cases oc with
  | lst ds => obtain ⟨vs, e, r⟩ := h; exact .lst e r
  | ins C fs => obtain ⟨dx, gs, e, r⟩ := h; exact .obj e r
theorem Cont.mn {K : PySem.W.Frag} {Hb Hb' H H' : Hp} {a : Addr} {oc : OC} (h : Cont K Hb H a oc) (s : Same Hb Hb') (e : ∀ o, H a = some o → H' a = some o) : Cont K Hb' H' a oc := by
  cases oc with
  | lst ds => obtain ⟨vs, q, r⟩ := h; exact ⟨vs, e _ q, r.mn s⟩
  | ins C fs => obtain ⟨dx, gs, q, r⟩ := h; exact ⟨dx, gs, e _ q, r.mn s⟩

/-- what a slot holds -/
inductive M where
  | val (d : D)
  | own (c : OC)
@[simp] def M.view : M → D
  | .val d => d
  | .own c => c.fz
abbrev Env := List (Option M)
/-- what an expression gives -/
inductive W where
  | val (d : D)
  | cel (i : Nat)
  | tmp (c : OC)
def view (w : W) (env : Env) : Option D := match w with
  | .val d => some d
  | .cel i => match env[i]? with
    | some (some m) => some m.view
    | _ => none
  | .tmp c => some c.fz

structure VC where
  T : List Addr
  fx : List Nat
structure Fm where
  Fr : Hp
  B : Hp
  fv : Nat → V
structure Rl (K : PySem.W.Frag) (c : VC) (f : Fm) (Hb : Hp) (env : Env) (σ : L2.St) (H : Hp) : Prop where
  len : σ.length = env.length
  val : ∀ {i : Nat} {d : D}, env[i]? = some (some (.val d)) → ∃ v, σ[i]? = some (some v) ∧ Rp K Hb d v
  own : ∀ {i : Nat} {oc : OC}, env[i]? = some (some (.own oc)) → ∃ a, σ[i]? = some (some (.ref a)) ∧ Hb a = none ∧ f.Fr a = none ∧ Cont K Hb H a oc
  inj : ∀ {i j : Nat} {oc oc' : OC} {a : Addr}, env[i]? = some (some (.own oc)) → env[j]? = some (some (.own oc')) → σ[i]? = some (some (.ref a)) → σ[j]? = some (some (.ref a)) → i = j
  sub : Same Hb H
  frm : Same f.Fr H
  frb : ∀ b o, f.Fr b = some o → Hb b = f.B b
  tab : ∀ P ∈ c.T, GxR.TabG H P ∧ Hb P = none ∧ f.Fr P = none
  fix : ∀ i ∈ c.fx, σ[i]? = some (some (f.fv i))
def RW (K : PySem.W.Frag) (f : Fm) (Hb : Hp) (env : Env) (σ : L2.St) (H : Hp) (w : W) (v : V) : Prop := match w with
  | .val d => Rp K Hb d v
  | .cel i => σ[i]? = some (some v)
  | .tmp oc => ∃ a, v = .ref a ∧ Hb a = none ∧ f.Fr a = none ∧ Cont K Hb H a oc ∧ ∀ (i : Nat) (oc' : OC), env[i]? = some (some (.own oc')) → σ[i]? ≠ some (some (.ref a))

/-- a stable thing -/
def RS (K : PySem.W.Frag) (Hb : Hp) (σ : L2.St) (w : W) (v : V) : Prop := match w with
  | .val d => Rp K Hb d v
  | .cel i => σ[i]? = some (some v)
  | .tmp _ => False
def fzv : W → W
  | .tmp oc => .val oc.fz
  | w => w

section
variable {K : PySem.W.Frag} {c : VC} {f : Fm} {Hb Hb' H H' : Hp} {env : Env} {σ : L2.St} {w : W} {v : V} {d : D}
theorem RS.mn (h : RS K Hb σ w v) (e : Same Hb Hb') : RS K Hb' σ w v := by
  cases w with
  | val d => exact Rp.mn h e
  | cel i => exact h
  | tmp _ => exact h
/-- a slot's thing is read -/
theorem Rl.cel (R : Rl K c f Hb env σ H) {i : Nat} {m : M} (e : env[i]? = some (some m)) : ∃ v, σ[i]? = some (some v) ∧ RR K Hb H m.view v := by
  cases m with
  | val d =>
    obtain ⟨v, h1, h2⟩ := R.val e
    exact ⟨v, h1, h2.rr R.sub⟩
  | own oc =>
    obtain ⟨a, h1, _, _, h2⟩ := R.own e
    exact ⟨_, h1, h2.rr⟩
theorem Rl.rd (R : Rl K c f Hb env σ H) (h : RW K f Hb env σ H w v) (e : view w env = some d) : RR K Hb H d v := by
  cases w with
  | val d' =>
    have e' : d' = d := Option.some.inj e
    subst e'
    exact Rp.rr h R.sub
  | cel i =>
    have h : σ[i]? = some (some v) := h
    unfold view at e
    split at e
    · rename_i d' he; cases he
    · rename_i j he
      cases he
      split at e
      · rename_i m hm
        obtain ⟨v', h1, h2⟩ := R.cel hm
        rw [h] at h1; cases h1
        cases e
        exact h2
      · cases e
    · rename_i j he; cases he
  | tmp oc =>
    have e' : oc.fz = d := Option.some.inj e
    subst e'
    obtain ⟨a, rfl, _, _, h2, _⟩ := h
    exact h2.rr
theorem RS.rw (h : RS K Hb σ w v) : RW K f Hb env σ H w v := by
  cases w with
  | val d => exact h
  | cel i => exact h
  | tmp _ => exact h.elim

/-- the heaps have grown -/
structure ExtH (Hb H Hb' H' : Hp) : Prop where
  b : Same Hb Hb'
  h : Same H H'
  n : ∀ a o, H a = some o → Hb' a = Hb a
  s : Same Hb' H'
theorem ExtH.refl (s : Same Hb H) : ExtH Hb H Hb H := ⟨Same.refl _, Same.refl _, fun _ _ _ => rfl, s⟩
theorem TabG.mn {P : Addr} (t : GxR.TabG H P) (e : Same H H') : GxR.TabG H' P := by
  obtain ⟨ps, h1, h2⟩ := t
  exact ⟨ps, e _ _ h1, h2⟩
theorem Rl.ext (R : Rl K c f Hb env σ H) (x : ExtH Hb H Hb' H') : Rl K c f Hb' env σ H' where
  len := R.len
  val := fun e => by
    obtain ⟨v, h1, h2⟩ := R.val e
    exact ⟨v, h1, h2.mn x.b⟩
  own := fun e => by
    obtain ⟨a, h1, h2, h3, h4⟩ := R.own e
    obtain ⟨o, ho⟩ := h4.there
    exact ⟨a, h1, by rw [x.n a o ho]; exact h2, h3, h4.mn x.b fun o q => x.h _ _ q⟩
  inj := R.inj
  sub := x.s
  frm := R.frm.trans x.h
  frb := fun b o e => by rw [x.n b o (R.frm b o e)]; exact R.frb b o e
  tab := fun P hP => by
    obtain ⟨h1, h2, h3⟩ := R.tab P hP
    obtain ⟨ps, e, _⟩ := id h1
    exact ⟨TabG.mn h1 x.h, by rw [x.n P _ e]; exact h2, h3⟩
  fix := R.fix
/-- a new frozen object -/
theorem ExtH.new {p : Addr} {o : HO} (s : Same Hb H) (n : H p = none) : ExtH Hb H (upd Hb p o) (upd H p o) := by
  have nb : Hb p = none := s.free n
  refine ⟨fun b u e => ?_, fun b u e => ?_, fun a u e => ?_, fun b u e => ?_⟩
  · rw [upd_ne (ne_of_none e nb)]; exact e
  · rw [upd_ne (ne_of_none e n)]; exact e
  · rw [upd_ne (ne_of_none e n)]
  · by_cases hb : b = p
    · subst hb; rw [upd_same] at e ⊢; exact e
    · rw [upd_ne hb] at e ⊢; exact s _ _ e
/-- a new object, not frozen -/
theorem ExtH.newT {p : Addr} {o : HO} (s : Same Hb H) (n : H p = none) : ExtH Hb H Hb (upd H p o) := by
  have k : Same H (upd H p o) := fun b u e => by rw [upd_ne (ne_of_none e n)]; exact e
  exact ⟨Same.refl _, k, fun _ _ _ => rfl, s.trans k⟩
/-- what an operation gives -/
def RO (K : PySem.W.Frag) (Hb' H H' : Hp) (w : W) (v : V) : Prop := match w with
  | .val d => Rp K Hb' d v
  | .cel _ => False
  | .tmp oc => ∃ a, v = .ref a ∧ Hb' a = none ∧ H a = none ∧ Cont K Hb' H' a oc
theorem Rl.ro (R : Rl K c f Hb env σ H) (h : RO K Hb' H H' w v) : RW K f Hb' env σ H' w v := by
  cases w with
  | val d => exact h
  | cel i => exact h.elim
  | tmp oc =>
    obtain ⟨a, e, h1, h2, h3⟩ := h
    refine ⟨a, e, h1, R.frm.free h2, h3, fun i oc' hi q => ?_⟩
    obtain ⟨a', q', _, _, h4⟩ := R.own hi
    rw [q] at q'; cases q'
    obtain ⟨o, ho⟩ := h4.there
    rw [h2] at ho; cases ho

/-- the base grows by an object that nothing owns -/
theorem Rl.freeze (R : Rl K c f Hb env σ H) {a : Addr} {oc : OC} (hb : Hb a = none) (hf : f.Fr a = none) (hc : Cont K Hb H a oc) (hn : ∀ (i : Nat) (oc' : OC), env[i]? = some (some (.own oc')) → σ[i]? ≠ some (some (.ref a))) :
    ∃ Hb', Same Hb Hb' ∧ Rl K c f Hb' env σ H ∧ Rp K Hb' oc.fz (.ref a) := by
  obtain ⟨o, ho⟩ := hc.there
  have s : Same Hb (upd Hb a o) := fun b u e => by rw [upd_ne (ne_of_none e hb)]; exact e
  refine ⟨upd Hb a o, s, ⟨R.len, fun e => ?_, fun {i oc'} e => ?_, R.inj, fun b u e => ?_, R.frm, fun b u e => ?_, fun P hP => ?_, R.fix⟩, ?_⟩
  · obtain ⟨v, h1, h2⟩ := R.val e
    exact ⟨v, h1, h2.mn s⟩
  · obtain ⟨a', h1, h2, h3, h4⟩ := R.own e
    have ne : a' ≠ a := by rintro rfl; exact hn i oc' e h1
    exact ⟨a', h1, by rw [upd_ne ne]; exact h2, h3, h4.mn s fun _ q => q⟩
  · by_cases hba : b = a
    · subst hba; rw [upd_same] at e; cases e; exact ho
    · rw [upd_ne hba] at e; exact R.sub _ _ e
  · rw [upd_ne (ne_of_none e hf)]; exact R.frb b u e
  · obtain ⟨h1, h2, h3⟩ := R.tab P hP
    exact ⟨h1, by rw [upd_ne (hc.notab h1)]; exact h2, h3⟩
  · cases oc with
    | lst ds =>
      obtain ⟨vs, e, r⟩ := hc
      rw [ho] at e; cases e
      exact .lst upd_same (r.mn s)
    | ins C fs =>
      obtain ⟨dx, gs, e, r⟩ := hc
      rw [ho] at e; cases e
      exact .obj upd_same (r.mn s)
theorem Rl.fzv (R : Rl K c f Hb env σ H) (h : RW K f Hb env σ H w v) : ∃ Hb', Same Hb Hb' ∧ Rl K c f Hb' env σ H ∧ RS K Hb' σ (fzv w) v := by
  cases w with
  | val d => exact ⟨Hb, Same.refl _, R, h⟩
  | cel i => exact ⟨Hb, Same.refl _, R, h⟩
  | tmp oc =>
    obtain ⟨a, rfl, h1, h2, h3, h4⟩ := h
    exact R.freeze h1 h2 h3 h4
/-- the frozen thing, as it stands in a structure -/
def fz (w : W) (env : Env) (k : D → Env → Prop) : Prop := match w with
  | .val d => k d env
  | .tmp oc => k oc.fz env
  | .cel i => match env[i]? with
    | some (some (.val d)) => k d env
    | some (some (.own oc)) => k oc.fz (env.set i (some (.val oc.fz)))
    | _ => False
@[simp] theorem fz_val {d : D} {env : Env} {k : D → Env → Prop} : fz (.val d) env k = k d env := rfl
@[simp] theorem fz_tmp {oc : OC} {env : Env} {k : D → Env → Prop} : fz (.tmp oc) env k = k oc.fz env := rfl
def fzC (o : Option (Option M)) (i : Nat) (env : Env) (k : D → Env → Prop) : Prop := match o with
  | some (some (.val d)) => k d env
  | some (some (.own oc)) => k oc.fz (env.set i (some (.val oc.fz)))
  | _ => False
@[simp] theorem fz_cel {i : Nat} {env : Env} {k : D → Env → Prop} : fz (.cel i) env k = fzC env[i]? i env k := rfl
@[simp] theorem fzC_val {i : Nat} {d : D} {env : Env} {k : D → Env → Prop} : fzC (some (some (.val d))) i env k = k d env := rfl
@[simp] theorem fzC_own {i : Nat} {oc : OC} {env : Env} {k : D → Env → Prop} : fzC (some (some (.own oc))) i env k = k oc.fz (env.set i (some (.val oc.fz))) := rfl
@[simp] theorem fzC_n {i : Nat} {env : Env} {k : D → Env → Prop} : fzC (some none) i env k = False := rfl
@[simp] theorem fzC_0 {i : Nat} {env : Env} {k : D → Env → Prop} : fzC none i env k = False := rfl
@[simp] theorem fzv_val {d : D} : fzv (.val d) = .val d := rfl
@[simp] theorem fzv_cel {i : Nat} : fzv (.cel i) = .cel i := rfl
@[simp] theorem fzv_tmp {oc : OC} : fzv (.tmp oc) = .val oc.fz := rfl
@[simp] theorem view_val {d : D} {env : Env} : view (.val d) env = some d := rfl
@[simp] theorem view_tmp {oc : OC} {env : Env} : view (.tmp oc) env = some oc.fz := rfl
def viewC (o : Option (Option M)) : Option D := match o with
  | some (some m) => some m.view
  | _ => none
@[simp] theorem view_cel {i : Nat} {env : Env} : view (.cel i) env = viewC env[i]? := rfl
@[simp] theorem viewC_m {m : M} : viewC (some (some m)) = some m.view := rfl
@[simp] theorem viewC_n : viewC (some none) = none := rfl
@[simp] theorem viewC_0 : viewC none = none := rfl
theorem set_get {α : Type} {l : List α} {i j : Nat} {x y : α} (h : (l.set i x)[j]? = some y) : (i = j ∧ y = x) ∨ (i ≠ j ∧ l[j]? = some y) := by
  by_cases e : i = j
  · subst e
    by_cases hl : i < l.length
    · rw [List.getElem?_set_self hl] at h; cases h; exact .inl ⟨rfl, rfl⟩
    · rw [List.getElem?_eq_none (by simpa using hl)] at h; cases h
  · rw [List.getElem?_set_ne e] at h; exact .inr ⟨e, h⟩
theorem Rl.fz (R : Rl K c f Hb env σ H) (h : RW K f Hb env σ H w v) {k : D → Env → Prop} (q : fz w env k) : ∃ d env' Hb', Same Hb Hb' ∧ Rl K c f Hb' env' σ H ∧ Rp K Hb' d v ∧ k d env' := by
  cases w with
  | val d => exact ⟨d, env, Hb, Same.refl _, R, h, q⟩
  | tmp oc =>
    obtain ⟨a, rfl, h1, h2, h3, h4⟩ := h
    obtain ⟨Hb', s, R', r⟩ := R.freeze h1 h2 h3 h4
    exact ⟨_, env, Hb', s, R', r, q⟩
  | cel i =>
    have h : σ[i]? = some (some v) := h
    unfold VL.fz at q
    split at q
    · rename_i e; cases e
    · rename_i e; cases e
    · rename_i j e
      cases e
      split at q
      · rename_i d hd
        obtain ⟨v', h1, h2⟩ := R.val hd
        rw [h] at h1; cases h1
        exact ⟨d, env, Hb, Same.refl _, R, h2, q⟩
      · rename_i oc hd
        obtain ⟨a, h1, h2, h3, h4⟩ := R.own hd
        rw [h] at h1; cases h1
        -- the slot becomes a value's
        have R0 : Rl K c f Hb (env.set i none) σ H := by
          refine ⟨by simpa using R.len, fun {j d} e => ?_, fun {j oc'} e => ?_, fun {j k o1 o2 b} e1 e2 e3 e4 => ?_, R.sub, R.frm, R.frb, R.tab, R.fix⟩
          · rcases set_get e with ⟨_, e⟩ | ⟨_, e⟩
            · cases e
            · exact R.val e
          · rcases set_get e with ⟨_, e⟩ | ⟨_, e⟩
            · cases e
            · exact R.own e
          · rcases set_get e1 with ⟨_, e1⟩ | ⟨_, e1⟩
            · cases e1
            · rcases set_get e2 with ⟨_, e2⟩ | ⟨_, e2⟩
              · cases e2
              · exact R.inj e1 e2 e3 e4
        obtain ⟨Hb', s, R', r⟩ := R0.freeze h2 h3 h4 (fun j oc' e z => by
          rcases set_get e with ⟨_, e⟩ | ⟨ne, e⟩
          · cases e
          · exact ne (R.inj hd e h z))
        refine ⟨_, _, Hb', s, ⟨by simpa using R.len, fun {j d} e => ?_, fun {j oc'} e => ?_, fun {j k o1 o2 b} e1 e2 e3 e4 => ?_, R'.sub, R'.frm, R'.frb, R'.tab, R'.fix⟩, r, q⟩
        · rcases set_get e with ⟨ee, e2⟩ | ⟨ne, e2⟩
          · cases e2; subst ee; exact ⟨_, h, r⟩
          · exact R'.val (by rw [List.getElem?_set_ne ne]; exact e2)
        · rcases set_get e with ⟨ee, e⟩ | ⟨ne, e⟩
          · cases e
          · exact R'.own (by rw [List.getElem?_set_ne ne]; exact e)
        · rcases set_get e1 with ⟨_, e1⟩ | ⟨ne1, e1⟩
          · cases e1
          · rcases set_get e2 with ⟨_, e2⟩ | ⟨ne2, e2⟩
            · cases e2
            · exact R.inj e1 e2 e3 e4
      · exact q.elim
end
end VL

set_option Elab.async false
set_option linter.all false
set_option maxRecDepth 100000
set_option maxHeartbeats 4000000
/-! VL2: expressions. -/
namespace VL
open PySem PySem.Spec PyProof.Rows L2

abbrev VQ := W → Env → Prop
abbrev VX := Addr → List (Str × D) → Env → Prop
abbrev VT := Env → VQ → VX → Prop
abbrev VTT := Env → (Bool → Env → Prop) → VX → Prop
abbrev VTA := Env → (List W → Env → Prop) → VX → Prop

def XR (K : PySem.W.Frag) (Hb H : Hp) (d : Option Addr) (fs : List (Str × D)) : Prop :=
  (d = none ∧ fs = []) ∨ ∃ dd gs, d = some dd ∧ H dd = some (.xd gs) ∧ RpF K Hb fs gs
/-- what is wished of exceptions -/
def PX (K : PySem.W.Frag) (c : VC) (f : Fm) (Wx : WX) (Hb : Hp) (σ : L2.St) (QX : VX) : Prop :=
  ∀ C fs env' d H' Hb', Same Hb Hb' → Rl K c f Hb' env' σ H' → XR K Hb' H' d fs → QX C fs env' → Wx (.ref C) d σ H'
theorem PX.mn {K : PySem.W.Frag} {c : VC} {f : Fm} {Wx : WX} {Hb Hb' : Hp} {σ : L2.St} {QX : VX} (h : PX K c f Wx Hb σ QX) (s : Same Hb Hb') : PX K c f Wx Hb' σ QX :=
  fun C fs env' d H' Hb2 s2 R x q => h C fs env' d H' Hb2 (s.trans s2) R x q
def SimE (K : PySem.W.Frag) (c : VC) (Wx : WX) (te : TE) (t : VT) : Prop := ∀ (f : Fm) (Hb : Hp) (env : Env) (σ : L2.St) (H : Hp) (Q : VQ) (QX : VX) (Q' : VK), Rl K c f Hb env σ H → t env Q QX → PX K c f Wx Hb σ QX →
  (∀ w env' v H' Hb', Same Hb Hb' → Rl K c f Hb' env' σ H' → RW K f Hb' env' σ H' w v → Q w env' → Q' v H') → te σ H Q'
def SimT (K : PySem.W.Frag) (c : VC) (Wx : WX) (te : TT) (t : VTT) : Prop := ∀ (f : Fm) (Hb : Hp) (env : Env) (σ : L2.St) (H : Hp) (Q : Bool → Env → Prop) (QX : VX) (Q' : Bool → Hp → Prop), Rl K c f Hb env σ H → t env Q QX → PX K c f Wx Hb σ QX →
  (∀ b env' H' Hb', Same Hb Hb' → Rl K c f Hb' env' σ H' → Q b env' → Q' b H') → te σ H Q'
abbrev RSs (K : PySem.W.Frag) (Hb : Hp) (σ : L2.St) : List W → List V → Prop := Paired (RS K Hb σ)
def SimA (K : PySem.W.Frag) (c : VC) (Wx : WX) (te : TA) (t : VTA) : Prop := ∀ (f : Fm) (Hb : Hp) (env : Env) (σ : L2.St) (H : Hp) (Q : List W → Env → Prop) (QX : VX) (Q' : List V → Hp → Prop), Rl K c f Hb env σ H → t env Q QX → PX K c f Wx Hb σ QX →
  (∀ ws env' vs H' Hb', Same Hb Hb' → Rl K c f Hb' env' σ H' → RSs K Hb' σ ws vs → Q ws env' → Q' vs H') → te σ H Q'
structure VE (X : Cx) (c : VC) (Wx : WX) (e : Expr) (te : TE) (t : VT) : Prop where
  pe : PE X e te
  sim : SimE X.K c Wx te t
structure VTe (X : Cx) (c : VC) (Wx : WX) (e : Expr) (te : TT) (t : VTT) : Prop where
  pt : PT X e te
  sim : SimT X.K c Wx te t
structure VW (X : Cx) (c : VC) (Wx : WX) (e : Expr) (te : TT) (t : VTT) : Prop where
  pw : PW X e te
  sim : SimT X.K c Wx te t
structure VA (X : Cx) (c : VC) (Wx : WX) (es : List Expr) (te : TA) (t : VTA) : Prop where
  pa : PA X es te
  sim : SimA X.K c Wx te t

theorem RSs.mn {K : PySem.W.Frag} {Hb Hb' : Hp} {σ : L2.St} : ∀ {ws : List W} {vs : List V}, RSs K Hb σ ws vs → Same Hb Hb' → RSs K Hb' σ ws vs
  | [], _, h, _ => by cases h; exact .nil
  | w :: ws, _, h, s => by cases h with | cons a r => exact .cons (RS.mn a s) (RSs.mn r s)

def rd (w : W) (env : Env) (k : D → Prop) : Prop := match view w env with
  | some d => k d
  | none => False
@[simp] theorem rd_val {d : D} {env : Env} {k : D → Prop} : rd (.val d) env k = k d := rfl
@[simp] theorem rd_tmp {oc : OC} {env : Env} {k : D → Prop} : rd (.tmp oc) env k = k oc.fz := rfl
def rdC (o : Option (Option M)) (k : D → Prop) : Prop := match o with
  | some (some m) => k m.view
  | _ => False
@[simp] theorem rd_cel {i : Nat} {env : Env} {k : D → Prop} : rd (.cel i) env k = rdC env[i]? k := by
  show (match (match env[i]? with | some (some m) => some m.view | _ => none) with | some d => k d | none => False) = rdC env[i]? k
  generalize env[i]? = o
  rcases o with _ | _ | m <;> rfl
@[simp] theorem rdC_m {m : M} {k : D → Prop} : rdC (some (some m)) k = k m.view := rfl
@[simp] theorem rdC_n {k : D → Prop} : rdC (some none) k = False := rfl
@[simp] theorem rdC_0 {k : D → Prop} : rdC none k = False := rfl
theorem rd_of {w : W} {env : Env} {k : D → Prop} (h : rd w env k) : ∃ d, view w env = some d ∧ k d := by
  unfold rd at h
  split at h
  · rename_i d e; exact ⟨d, e, h⟩
  · exact h.elim

section
variable {K : PySem.W.Frag} {c : VC} {Wx : WX} {X : Cx}

/-! ### names and constants -/
@[simp] def vName (i : Nat) : VT := fun env Q _ => match env[i]? with
  | some (some (.val d)) => Q (.val d) env
  | some (some (.own _)) => Q (.cel i) env
  | _ => False
theorem sim_name {i : Nat} : SimE K c Wx (tVar i) (vName i) := by
  intro f Hb env σ H Q QX Q' R q px k
  unfold vName at q
  split at q
  · rename_i d e
    obtain ⟨v, h1, h2⟩ := R.val e
    exact ⟨v, h1, k (.val d) _ _ _ _ (Same.refl _) R h2 q⟩
  · rename_i oc e
    obtain ⟨a, h1, _⟩ := R.own e
    exact ⟨_, h1, k (.cel i) _ _ _ _ (Same.refl _) R h1 q⟩
  · exact q.elim
@[simp] def vC (d : D) : VT := fun env Q _ => Q (.val d) env
theorem sim_c {v : V} {d : D} (h : ∀ H, Rp K H d v) : SimE K c Wx (tC v) (vC d) := fun f Hb env σ H Q QX Q' R q px k => k (.val d) _ _ _ _ (Same.refl _) R (h Hb) q
theorem ve_name (i : Nat) {x : Str} {pos : Pos} (hN : X.N[i]? = some x := by rfl) (hv : Vis X.env.scope x := by first | exact Or.inl rfl | exact Or.inr (Or.inl rfl) | exact Or.inr (Or.inr rfl)) (hd : (x == ("__debug__" : Str)) = false := by decide)
    (hcd : (x == ("__classdict__" : Str)) = false := by decide) : VE X c Wx (.Name x pos) (tVar i) (vName i) := ⟨pe_var hN hv hd hcd, sim_name⟩
theorem ve_int {i : Int} {j pos} : VE X c Wx (.Constant (.int i) j pos) (tC (.int i)) (vC (.int i)) := ⟨pe_int, sim_c fun _ => .int i⟩
theorem ve_bl {b : Bool} {j pos} : VE X c Wx (.Constant (.bool b) j pos) (tC (.bl b)) (vC (.bl b)) := ⟨pe_bl, sim_c fun _ => .bl b⟩
theorem ve_non {j pos} : VE X c Wx (.Constant .none j pos) (tC .non) (vC .non) := ⟨pe_non, sim_c fun _ => .non⟩
theorem ve_str {x : Str} {j pos} : VE X c Wx (.Constant (.str x) j pos) (tC (.str x)) (vC (.str x)) := ⟨pe_str, sim_c fun _ => .str x⟩
/-- a constant of the module -/
structure GlobC (X : Cx) (x : Str) (d : D) (v : V) : Prop where
  at_ : ∃ u, X.mg x = some u ∧ RelV v u
  rp : ∀ H, Rp X.K H d v
theorem ve_glob {x : Str} {d : D} {v : V} {pos : Pos} (G : GlobC X x d v) (hg : Gl X x := by rfl) (hd : (x == ("__debug__" : Str)) = false := by decide) : VE X c Wx (.Name x pos) (tC v) (vC d) := by
  obtain ⟨u, h1, h2⟩ := G.at_
  exact ⟨pe_glob hg h1 h2 hd, sim_c G.rp⟩

/-! ### operations -/
abbrev G2 := D → D → (W → Prop) → Prop
def OpS (K : PySem.W.Frag) (r : R2) (g : G2) : Prop := ∀ (Hb H : Hp) (d1 d2 : D) (v1 v2 : V) (Q : W → Prop) (Q' : VK), Same Hb H → RR K Hb H d1 v1 → RR K Hb H d2 v2 → g d1 d2 Q →
  (∀ w v H' Hb', ExtH Hb H Hb' H' → RO K Hb' H H' w v → Q w → Q' v H') → r v1 v2 H Q'
@[simp] def vOp (g : G2) (ta tb : VT) : VT := fun env Q QX => ta env (fun w1 env1 => tb env1 (fun w2 env2 => rd (fzv w1) env2 fun d1 => rd w2 env2 fun d2 => g d1 d2 fun w => Q w env2) QX) QX
theorem sim_op {r : R2} {g : G2} {ta tb : TE} {va vb : VT} (ho : OpS K r g) (ha : SimE K c Wx ta va) (hb : SimE K c Wx tb vb) : SimE K c Wx (tOp r ta tb) (vOp g va vb) := by
  intro f Hb env σ H Q QX Q' R q px k
  refine ha f Hb env σ H _ QX _ R q px fun w1 env1 v1 H1 Hb1 s1 R1 r1 q1 => ?_
  obtain ⟨Hb1', s1', R1', r1'⟩ := R1.fzv r1
  refine hb f Hb1' env1 σ H1 _ QX _ R1' q1 (px.mn (s1.trans s1')) fun w2 env2 v2 H2 Hb2 s2 R2 r2 q2 => ?_
  obtain ⟨d1, e1, q2⟩ := rd_of q2
  obtain ⟨d2, e2, q2⟩ := rd_of q2
  have rr1 := R2.rd (RS.rw (r1'.mn s2)) e1
  have rr2 := R2.rd r2 e2
  exact ho Hb2 H2 d1 d2 v1 v2 _ Q' R2.sub rr1 rr2 q2 fun w v H' Hb' x ro qw => k w env2 v H' Hb' (((s1.trans s1').trans s2).trans x.b) (R2.ext x) (R2.ro ro) qw
theorem ve_op {op : Operator} {r : R2} {g : G2} {a b : Expr} {ta tb : TE} {va vb : VT} {pos : Pos} (ho : OpR X (binaryOp op) r) (hs : OpS X.K r g) (ha : VE X c Wx a ta va) (hb : VE X c Wx b tb vb) : VE X c Wx (.BinOp a op b pos) (tOp r ta tb) (vOp g va vb) :=
  ⟨pe_op ho ha.pe hb.pe, sim_op hs ha.sim hb.sim⟩
theorem OpR.or {f : Value → Value → Sem Value} {r r' : R2} (h : OpR X f r) (h' : OpR X f r') : OpR X f (fun x y H Q => r x y H Q ∨ r' x y H Q) := by
  intro pins s σ H x y v u Q I rx ry q
  rcases q with q | q
  · exact h pins s σ H x y v u Q I rx ry q
  · exact h' pins s σ H x y v u Q I rx ry q

theorem Rp.tupN {Hb H : Hp} {p : Addr} {ds : List D} {vs : List V} (s : Same Hb H) (n : H p = none) (r : RpL K Hb ds vs) : Rp K (upd Hb p (.tup vs)) (.tup ds) (.ref p) :=
  .tup (.of upd_same) (r.mn (ExtH.new (o := .tup vs) s n).b)
theorem RO.lstN {Hb H : Hp} {p : Addr} {ds : List D} {vs : List V} (s : Same Hb H) (n : H p = none) (r : RpL K Hb ds vs) : RO K Hb H (upd H p (.lst vs)) (.tmp (.lst ds)) (.ref p) :=
  ⟨p, rfl, s.free n, n, vs, upd_same, r⟩
/-- a + b -/
@[simp] def dAdd : G2
  | .int i, .int j, Q => Q (.val (.int (i + j)))
  | .str x, .str y, Q => x.length + y.length ≤ sizeLine ∧ Q (.val (.str (x ++ y)))
  | .tup xs, .tup ys, Q => xs.length + ys.length ≤ sizeLine ∧ Q (.val (.tup (xs ++ ys)))
  | .lst xs, .lst ys, Q => xs.length + ys.length ≤ sizeLine ∧ Q (.tmp (.lst (xs ++ ys)))
  | _, _, _ => False
def rAdd (K : PySem.W.Frag) : R2 := fun x y H Q => rI0 (fun i j => .int (i + j)) x y H Q ∨ ((∃ i j, x = .str i ∧ y = .str j ∧ i.length + j.length ≤ sizeLine ∧ Q (.str (i ++ j)) H) ∨ (rCatA K x y H Q ∨ rCat x y H Q))
theorem opr_add : OpR X (binaryOp .Add) (rAdd X.K) := OpR.or op_add (OpR.or op_add_str (OpR.or op_catA op_cat))
theorem ops_add : OpS K (rAdd K) dAdd := by
  intro Hb H d1 d2 v1 v2 Q Q' s r1 r2 g k
  unfold dAdd at g
  split at g
  · cases r1; cases r2
    exact .inl ⟨_, _, rfl, rfl, k (.val _) _ _ _ (.refl s) (.int _) g⟩
  · cases r1; cases r2
    exact .inr (.inl ⟨_, _, rfl, rfl, g.1, k (.val _) _ _ _ (.refl s) (.str _) g.2⟩)
  · rename_i xs ys
    cases r1 with
    | tup s1 p1 =>
      cases r2 with
      | tup s2 p2 =>
        refine .inr (.inr (.inl ⟨_, _, _, _, rfl, rfl, same_seqT s s1, same_seqT s s2, by rw [p1.length, p2.length]; exact g.1, fun e => ?_, fun e1 e2 => ?_, fun e1 e2 p np => ?_⟩))
        · subst e
          cases p1
          exact k (.val _) _ _ _ (.refl s) (.tup s2 p2) g.2
        · subst e2
          cases p2
          have g2 := g.2
          rw [List.append_nil] at g2
          exact k (.val _) _ _ _ (.refl s) (.tup s1 p1) g2
        · exact k (.val _) _ _ _ (ExtH.new s np) (Rp.tupN s np (p1.app p2)) g.2
  · cases r1 with
    | lst s1 p1 =>
      cases r2 with
      | lst s2 p2 =>
        refine .inr (.inr (.inr ⟨_, _, _, _, rfl, rfl, s1, s2, by rw [p1.length, p2.length]; exact g.1, fun p np => ?_⟩))
        exact k (.tmp (.lst _)) _ _ _ (ExtH.newT s np) (RO.lstN s np (p1.app p2)) g.2
  · exact g.elim
/-- a - b -/
@[simp] def dSub : G2
  | .int i, .int j, Q => Q (.val (.int (i - j)))
  | _, _, _ => False
theorem ops_sub : OpS K (rI0 fun i j => .int (i - j)) dSub := by
  intro Hb H d1 d2 v1 v2 Q Q' s r1 r2 g k
  unfold dSub at g
  split at g
  · cases r1; cases r2
    exact ⟨_, _, rfl, rfl, k (.val _) _ _ _ (.refl s) (.int _) g⟩
  · exact g.elim
/-- a * b -/
@[simp] def dMul : G2
  | .int i, .int j, Q => (CMul i j ∨ CMulW i j) ∧ Q (.val (.int (i * j)))
  | .lst xs, .int n, Q => -(2 ^ 63) ≤ n ∧ n < 2 ^ 63 ∧ xs.length * n.toNat ≤ sizeLine ∧ Q (.tmp (.lst (List.replicate n.toNat xs).flatten))
  | _, _, _ => False
theorem RpL.rep {Hb : Hp} {ds : List D} {vs : List V} (h : RpL K Hb ds vs) : ∀ n : Nat, RpL K Hb (List.replicate n ds).flatten (List.replicate n vs).flatten
  | 0 => .nil
  | n + 1 => by
    simp only [List.replicate_succ, List.flatten_cons]
    exact h.app (RpL.rep h n)
abbrev rMulA : R2 := fun x y H Q => rI CMul (fun i j => .int (i * j)) x y H Q ∨ (rI CMulW (fun i j => .int (i * j)) x y H Q ∨ rRep x y H Q)
theorem ops_mul : OpS K rMulA dMul := by
  intro Hb H d1 d2 v1 v2 Q Q' s r1 r2 g k
  unfold dMul at g
  split at g
  · cases r1; cases r2
    rcases g.1 with z | z
    · exact .inl ⟨_, _, rfl, rfl, z, k (.val _) _ _ _ (.refl s) (.int _) g.2⟩
    · exact .inr (.inl ⟨_, _, rfl, rfl, z, k (.val _) _ _ _ (.refl s) (.int _) g.2⟩)
  · cases r2
    cases r1 with
    | lst s1 p1 =>
      refine .inr <| .inr ⟨_, _, _, rfl, rfl, s1, g.1, g.2.1, by rw [p1.length]; exact g.2.2.1, fun p np => ?_⟩
      exact k (.tmp (.lst _)) _ _ _ (ExtH.newT s np) (RO.lstN s np (RpL.rep p1 _)) g.2.2.2
  · exact g.elim
theorem opr_mul : OpR X (binaryOp .Mult) rMulA := OpR.or op_mul (OpR.or op_mulW op_rep)
/-- a // b, b positive or small -/
@[simp] def dDiv : G2
  | .int i, .int j, Q => (CDivW i j ∨ CDivN i j) ∧ Q (.val (.int (i.fdiv j)))
  | _, _, _ => False
theorem opr_div : OpR X (binaryOp .FloorDiv) (fun x y H Q => rI CDivW (fun i j => .int (i / j)) x y H Q ∨ rI CDivN (fun i j => .int (i.fdiv j)) x y H Q) := OpR.or op_fdivW op_fdivN
theorem ops_div : OpS K (fun x y H Q => rI CDivW (fun i j => .int (i / j)) x y H Q ∨ rI CDivN (fun i j => .int (i.fdiv j)) x y H Q) dDiv := by
  intro Hb H d1 d2 v1 v2 Q Q' s r1 r2 g k
  unfold dDiv at g
  split at g
  · cases r1; cases r2
    rcases g.1 with z | z
    · refine .inl ⟨_, _, rfl, rfl, z, k (.val _) _ _ _ (.refl s) (.int _) ?_⟩
      rw [← Int.fdiv_eq_ediv_of_nonneg _ (Int.le_of_lt z.1)]
      exact g.2
    · exact .inr ⟨_, _, rfl, rfl, z, k (.val _) _ _ _ (.refl s) (.int _) g.2⟩
  · exact g.elim
@[simp] def dMod : G2
  | .int i, .int j, Q => j ≠ 0 ∧ Q (.val (.int (i.fmod j)))
  | _, _, _ => False
theorem ops_mod : OpS K (rI (fun _ j => j ≠ 0) fun i j => .int (i.fmod j)) dMod := by
  intro Hb H d1 d2 v1 v2 Q Q' s r1 r2 g k
  unfold dMod at g
  split at g
  · cases r1; cases r2
    exact ⟨_, _, rfl, rfl, g.1, k (.val _) _ _ _ (.refl s) (.int _) g.2⟩
  · exact g.elim
@[simp] def dPow : G2
  | .int i, .int j, Q => CPow i j ∧ Q (.val (.int (i ^ j.toNat)))
  | _, _, _ => False
theorem ops_pow : OpS K (rI CPow fun i j => .int (i ^ j.toNat)) dPow := by
  intro Hb H d1 d2 v1 v2 Q Q' s r1 r2 g k
  unfold dPow at g
  split at g
  · cases r1; cases r2
    exact ⟨_, _, rfl, rfl, g.1, k (.val _) _ _ _ (.refl s) (.int _) g.2⟩
  · exact g.elim
theorem ve_add {a b : Expr} {ta tb : TE} {va vb : VT} {pos : Pos} (ha : VE X c Wx a ta va) (hb : VE X c Wx b tb vb) : VE X c Wx (.BinOp a .Add b pos) (tOp (rAdd X.K) ta tb) (vOp dAdd va vb) := ve_op opr_add ops_add ha hb
theorem ve_sub {a b : Expr} {ta tb : TE} {va vb : VT} {pos : Pos} (ha : VE X c Wx a ta va) (hb : VE X c Wx b tb vb) : VE X c Wx (.BinOp a .Sub b pos) (tOp (rI0 fun i j => .int (i - j)) ta tb) (vOp dSub va vb) := ve_op op_sub ops_sub ha hb
theorem ve_mul {a b : Expr} {ta tb : TE} {va vb : VT} {pos : Pos} (ha : VE X c Wx a ta va) (hb : VE X c Wx b tb vb) : VE X c Wx (.BinOp a .Mult b pos) (tOp rMulA ta tb) (vOp dMul va vb) := ve_op opr_mul ops_mul ha hb
theorem ve_div {a b : Expr} {ta tb : TE} {va vb : VT} {pos : Pos} (ha : VE X c Wx a ta va) (hb : VE X c Wx b tb vb) : VE X c Wx (.BinOp a .FloorDiv b pos) (tOp (fun x y H Q => rI CDivW (fun i j => .int (i / j)) x y H Q ∨ rI CDivN (fun i j => .int (i.fdiv j)) x y H Q) ta tb) (vOp dDiv va vb) := ve_op opr_div ops_div ha hb
theorem ve_mod {a b : Expr} {ta tb : TE} {va vb : VT} {pos : Pos} (ha : VE X c Wx a ta va) (hb : VE X c Wx b tb vb) : VE X c Wx (.BinOp a .Mod b pos) (tOp (rI (fun _ j => j ≠ 0) fun i j => .int (i.fmod j)) ta tb) (vOp dMod va vb) := ve_op op_modN ops_mod ha hb
theorem ve_pow {a b : Expr} {ta tb : TE} {va vb : VT} {pos : Pos} (ha : VE X c Wx a ta va) (hb : VE X c Wx b tb vb) : VE X c Wx (.BinOp a .Pow b pos) (tOp (rI CPow fun i j => .int (i ^ j.toNat)) ta tb) (vOp dPow va vb) := ve_op op_pow ops_pow ha hb

/-- -a -/
@[simp] def vUn (g : D → (W → Prop) → Prop) (ta : VT) : VT := fun env Q QX => ta env (fun w1 env1 => rd w1 env1 fun d1 => g d1 fun w => Q w env1) QX
@[simp] def dNeg : D → (W → Prop) → Prop
  | .int i, Q => Q (.val (.int (-i)))
  | _, _ => False
theorem ve_neg {a : Expr} {ta : TE} {va : VT} {pos : Pos} (ha : VE X c Wx a ta va) : VE X c Wx (.UnaryOp .USub a pos) (tUn (rU fun i => .int (-i)) ta) (vUn dNeg va) := by
  refine ⟨pe_un un_neg ha.pe, fun f Hb env σ H Q QX Q' R q px k => ?_⟩
  refine ha.sim f Hb env σ H _ QX _ R q px fun w1 env1 v1 H1 Hb1 s1 R1 r1 q1 => ?_
  obtain ⟨d1, e1, q1⟩ := rd_of q1
  have rr := R1.rd r1 e1
  unfold dNeg at q1
  split at q1
  · cases rr
    exact ⟨_, rfl, k (.val (.int _)) _ _ _ _ s1 R1 (.int _) q1⟩
  · exact q1.elim

/-! ### comparisons -/
theorem ve_cmp {op : CmpOp} {r : R2} {g : G2} {a b : Expr} {ta tb : TE} {va vb : VT} {pos : Pos} (ho : OpR X (compareOp op) r) (hs : OpS X.K r g) (hm : behindInMarks op b = false) (ha : VE X c Wx a ta va) (hb : VE X c Wx b tb vb) : VE X c Wx (.Compare a [op] [b] pos) (tOp r ta tb) (vOp g va vb) :=
  ⟨pe_cmpR ho ha.pe hb.pe hm, sim_op hs ha.sim hb.sim⟩
@[simp] def vTest (t : VT) : VTT := fun env Q QX => t env (fun w env1 => match w with
  | .val (.bl b) => Q b env1
  | _ => False) QX
theorem sim_test {te : TE} {t : VT} (h : SimE K c Wx te t) : SimT K c Wx (tTest te) (vTest t) := by
  intro f Hb env σ H Q QX Q' R q px k
  refine h f Hb env σ H _ QX _ R q px fun w env1 v1 H1 Hb1 s1 R1 r1 q1 => ?_
  split at q1
  · cases r1
    exact ⟨_, rfl, k _ _ _ _ s1 R1 q1⟩
  · exact q1.elim
theorem vt_cmp {op : CmpOp} {r : R2} {g : G2} {a b : Expr} {ta tb : TE} {va vb : VT} {pos : Pos} (ho : OpR X (compareOp op) r) (hs : OpS X.K r g) (hm : behindInMarks op b = false) (ha : VE X c Wx a ta va) (hb : VE X c Wx b tb vb) : VTe X c Wx (.Compare a [op] [b] pos) (tTest (tOp r ta tb)) (vTest (vOp g va vb)) :=
  ⟨pt_cmpR ho ha.pe hb.pe hm, sim_test (sim_op hs ha.sim hb.sim)⟩
/-- a call or a name that gives a bool, as a test -/
theorem vt_val {e : Expr} {te : TE} {t : VT} (h : VE X c Wx e te t) (he : ∀ whole, isTrue e X.env whole = (do let v ← whole; standAt e.pos; holding [v] (truthy v)) := by intro _; rfl) : VTe X c Wx e (tB te) (vTest t) :=
  ⟨pt_val h.pe he, sim_test h.sim⟩

@[simp] def cI (p : Int → Int → Bool) : G2
  | .int i, .int j, Q => Q (.val (.bl (p i j)))
  | _, _, _ => False
theorem ops_cI {p : Int → Int → Bool} : OpS K (rI0 fun i j => .bl (p i j)) (cI p) := by
  intro Hb H d1 d2 v1 v2 Q Q' s r1 r2 g k
  unfold cI at g
  split at g
  · cases r1; cases r2
    exact ⟨_, _, rfl, rfl, k (.val _) _ _ _ (.refl s) (.bl _) g⟩
  · exact g.elim

/-! == -/
mutual
def toPy : D → Option PyData
  | .non => some .none
  | .bl b => some (.bool b)
  | .int i => some (.int i)
  | .str x => some (.str x)
  | .tup ds => (toPys ds).map .tuple
  | .lst ds => (toPys ds).map .list
  | .obj _ _ => none
  | .scr _ => none
def toPys : List D → Option (List PyData)
  | [] => some []
  | d :: ds => match toPy d, toPys ds with
    | some x, some xs => some (x :: xs)
    | _, _ => none
end
mutual
theorem Rp.dp {H : Hp} : ∀ (d : D) (v : V) (p : PyData), Rp K H d v → toPy d = some p → Dp K H v p
  | .non, _, _, h, e => by cases h; unfold toPy at e; cases e; exact .non
  | .bl b, _, _, h, e => by cases h; unfold toPy at e; cases e; exact .bl b
  | .int i, _, _, h, e => by cases h; unfold toPy at e; cases e; exact .int i
  | .str x, _, _, h, e => by cases h; unfold toPy at e; cases e; exact .str x
  | .tup ds, _, _, h, e => by
    cases h with
    | tup s r =>
      unfold toPy at e
      cases q : toPys ds with
      | none => rw [q] at e; cases e
      | some ps => rw [q] at e; cases e; exact .tup s (RpL.dp ds _ ps r q)
  | .lst ds, _, _, h, e => by
    cases h with
    | lst s r =>
      unfold toPy at e
      cases q : toPys ds with
      | none => rw [q] at e; cases e
      | some ps => rw [q] at e; cases e; exact .lst (.of s) (RpL.dp ds _ ps r q)
  | .obj _ _, _, _, _, e => by unfold toPy at e; cases e
  | .scr _, _, _, _, e => by unfold toPy at e; cases e
theorem RpL.dp {H : Hp} : ∀ (ds : List D) (vs : List V) (ps : List PyData), RpL K H ds vs → toPys ds = some ps → DpAll K H vs ps
  | [], _, _, h, e => by cases h; unfold toPys at e; cases e; exact .nil
  | d :: ds, _, _, h, e => by
    cases h with
    | cons a r =>
      unfold toPys at e
      split at e
      · rename_i x xs e1 e2
        cases e
        exact .cons (Rp.dp d _ x a e1) (RpL.dp ds _ xs r e2)
      · cases e
end
def dEqG (neg : Bool) (a b : D) (Q : W → Prop) : Prop := match toPy a, toPy b with
  | some x, some y => SeqAt.shaped x = true ∧ SeqAt.shaped y = true ∧ Q (.val (.bl (if neg then !PyData.eqv x y else PyData.eqv x y)))
  | _, _ => False
@[simp] def dEq (neg : Bool) : G2
  | .int i, .int j, Q => Q (.val (.bl (neg ^^ decide (i = j))))
  | .str i, .str j, Q => Q (.val (.bl (neg ^^ decide (i = j))))
  | .bl i, .bl j, Q => Q (.val (.bl (neg ^^ decide (i = j))))
  | .non, .non, Q => Q (.val (.bl (neg ^^ true)))
  | .int _, .non, Q => Q (.val (.bl neg))
  | .non, .int _, Q => Q (.val (.bl neg))
  | .str _, .non, Q => Q (.val (.bl neg))
  | .non, .str _, Q => Q (.val (.bl neg))
  | .int _, .str _, Q => Q (.val (.bl neg))
  | .str _, .int _, Q => Q (.val (.bl neg))
  | a, b, Q => dEqG neg a b Q
def rEqA (K : PySem.W.Frag) : R2 := fun x y H Q => rEq x y H Q ∨ rEqD K x y H Q
def rNeA (K : PySem.W.Frag) : R2 := fun x y H Q => rNe x y H Q ∨ rNeD K x y H Q
theorem ops_eq : OpS K (rEqA K) (dEq false) := by
  intro Hb H d1 d2 v1 v2 Q Q' s r1 r2 g k
  have gen : dEqG false d1 d2 Q → rEqA K v1 v2 H Q' := fun g => by
    unfold dEqG at g
    split at g
    · rename_i x y e1 e2
      exact .inr ⟨x, y, Rp.dp _ _ _ (r1.up s) e1, Rp.dp _ _ _ (r2.up s) e2, g.1, g.2.1, k (.val _) _ _ _ (.refl s) (.bl _) g.2.2⟩
    · exact g.elim
  unfold dEq at g
  split at g
  · cases r1; cases r2
    refine .inl ⟨rfl, k (.val _) _ _ _ (.refl s) (.bl _) ?_⟩
    simpa using g
  · cases r1; cases r2
    refine .inl ⟨rfl, k (.val _) _ _ _ (.refl s) (.bl _) ?_⟩
    simpa using g
  · cases r1; cases r2
    refine .inl ⟨rfl, k (.val _) _ _ _ (.refl s) (.bl _) ?_⟩
    simpa using g
  all_goals first
    | (cases r1; cases r2; exact .inl ⟨rfl, k (.val _) _ _ _ (.refl s) (.bl _) (by simpa using g)⟩)
    | exact gen g
theorem ops_ne : OpS K (rNeA K) (dEq true) := by
  intro Hb H d1 d2 v1 v2 Q Q' s r1 r2 g k
  have gen : dEqG true d1 d2 Q → rNeA K v1 v2 H Q' := fun g => by
    unfold dEqG at g
    split at g
    · rename_i x y e1 e2
      exact .inr ⟨x, y, Rp.dp _ _ _ (r1.up s) e1, Rp.dp _ _ _ (r2.up s) e2, g.1, g.2.1, k (.val _) _ _ _ (.refl s) (.bl _) g.2.2⟩
    · exact g.elim
  unfold dEq at g
  split at g
  · cases r1; cases r2
    refine .inl ⟨rfl, k (.val _) _ _ _ (.refl s) (.bl _) ?_⟩
    simpa using g
  · cases r1; cases r2
    refine .inl ⟨rfl, k (.val _) _ _ _ (.refl s) (.bl _) ?_⟩
    simpa using g
  · cases r1; cases r2
    refine .inl ⟨rfl, k (.val _) _ _ _ (.refl s) (.bl _) ?_⟩
    simpa using g
  all_goals first
    | (cases r1; cases r2; exact .inl ⟨rfl, k (.val _) _ _ _ (.refl s) (.bl _) (by simpa using g)⟩)
    | exact gen g
end
end VL

set_option Elab.async false
set_option linter.all false
set_option maxRecDepth 100000
set_option maxHeartbeats 4000000
/-! VL3: tests, displays, arguments, subscripts, calls. -/
namespace VL
open PySem PySem.Spec PyProof.Rows L2
section
variable {K : PySem.W.Frag} {c : VC} {Wx : WX} {X : Cx}

/-! ### and, or, not, if -/
@[simp] def vAndT (a b : VTT) : VTT := fun env Q QX => a env (fun k env1 => if k = true then b env1 Q QX else Q false env1) QX
@[simp] def vOrT (a b : VTT) : VTT := fun env Q QX => a env (fun k env1 => if k = true then Q true env1 else b env1 Q QX) QX
@[simp] def vNotT (a : VTT) : VTT := fun env Q QX => a env (fun k env1 => Q (!k) env1) QX
theorem sim_andT {ta tb : TT} {va vb : VTT} (ha : SimT K c Wx ta va) (hb : SimT K c Wx tb vb) : SimT K c Wx (tAnd ta tb) (vAndT va vb) := by
  intro f Hb env σ H Q QX Q' R q px k
  refine ha f Hb env σ H _ QX _ R q px fun b env1 H1 Hb1 s1 R1 q1 => ?_
  cases b with
  | true =>
    rw [if_pos rfl] at q1 ⊢
    exact hb f Hb1 env1 σ H1 Q QX Q' R1 q1 (px.mn s1) fun b env2 H2 Hb2 s2 R2 q2 => k b env2 H2 Hb2 (s1.trans s2) R2 q2
  | false =>
    rw [if_neg Bool.false_ne_true] at q1 ⊢
    exact k _ _ _ _ s1 R1 q1
theorem sim_orT {ta tb : TT} {va vb : VTT} (ha : SimT K c Wx ta va) (hb : SimT K c Wx tb vb) : SimT K c Wx (tOr ta tb) (vOrT va vb) := by
  intro f Hb env σ H Q QX Q' R q px k
  refine ha f Hb env σ H _ QX _ R q px fun b env1 H1 Hb1 s1 R1 q1 => ?_
  cases b with
  | true =>
    rw [if_pos rfl] at q1 ⊢
    exact k _ _ _ _ s1 R1 q1
  | false =>
    rw [if_neg Bool.false_ne_true] at q1 ⊢
    exact hb f Hb1 env1 σ H1 Q QX Q' R1 q1 (px.mn s1) fun b env2 H2 Hb2 s2 R2 q2 => k b env2 H2 Hb2 (s1.trans s2) R2 q2
theorem sim_notT {ta : TT} {va : VTT} (ha : SimT K c Wx ta va) : SimT K c Wx (tNot ta) (vNotT va) := by
  intro f Hb env σ H Q QX Q' R q px k
  exact ha f Hb env σ H _ QX _ R q px fun b env1 H1 Hb1 s1 R1 q1 => k _ _ _ _ s1 R1 q1
theorem vw_and1 {a : Expr} {ta : TT} {va : VTT} {pos : Pos} (h : VTe X c Wx a ta va) : VW X c Wx (.BoolOp .And [a] pos) ta va := ⟨pw_and1 h.pt, h.sim⟩
theorem vw_or1 {a : Expr} {ta : TT} {va : VTT} {pos : Pos} (h : VTe X c Wx a ta va) : VW X c Wx (.BoolOp .Or [a] pos) ta va := ⟨pw_or1 h.pt, h.sim⟩
theorem vw_and {a b : Expr} {rest : List Expr} {ta tb : TT} {va vb : VTT} {pos : Pos} (ha : VTe X c Wx a ta va) (hb : VW X c Wx (.BoolOp .And (b :: rest) pos) tb vb) : VW X c Wx (.BoolOp .And (a :: b :: rest) pos) (tAnd ta tb) (vAndT va vb) := ⟨pw_and ha.pt hb.pw, sim_andT ha.sim hb.sim⟩
theorem vw_or {a b : Expr} {rest : List Expr} {ta tb : TT} {va vb : VTT} {pos : Pos} (ha : VTe X c Wx a ta va) (hb : VW X c Wx (.BoolOp .Or (b :: rest) pos) tb vb) : VW X c Wx (.BoolOp .Or (a :: b :: rest) pos) (tOr ta tb) (vOrT va vb) := ⟨pw_or ha.pt hb.pw, sim_orT ha.sim hb.sim⟩
theorem VW.vt {e : Expr} {ta : TT} {va : VTT} (h : VW X c Wx e ta va) : VTe X c Wx e ta va := ⟨h.pw.pt, h.sim⟩
theorem vt_not {a : Expr} {ta : TT} {va : VTT} {pos : Pos} (h : VTe X c Wx a ta va) : VTe X c Wx (.UnaryOp .Not a pos) (tNot ta) (vNotT va) := ⟨pt_not h.pt, sim_notT h.sim⟩

/-- as values, of bools -/
def asB (w : W) (k : Bool → Prop) : Prop := match w with
  | .val (.bl b) => k b
  | _ => False
@[simp] theorem asB_bl {b : Bool} {k : Bool → Prop} : asB (.val (.bl b)) k = k b := rfl
theorem asB_of {w : W} {k : Bool → Prop} (h : asB w k) : ∃ b, w = .val (.bl b) ∧ k b := by
  unfold asB at h
  split at h
  · exact ⟨_, rfl, h⟩
  · exact h.elim
@[simp] def vAndV (a b : VT) : VT := fun env Q QX => a env (fun w env1 => asB w fun k => if k = true then b env1 Q QX else Q (.val (.bl false)) env1) QX
@[simp] def vOrV (a b : VT) : VT := fun env Q QX => a env (fun w env1 => asB w fun k => if k = true then Q (.val (.bl true)) env1 else b env1 Q QX) QX
@[simp] def vNotV (a : VT) : VT := fun env Q QX => a env (fun w env1 => asB w fun k => Q (.val (.bl (!k))) env1) QX
theorem ve_one {op : BoolOp} {a : Expr} {ta : TE} {va : VT} {pos : Pos} (h : VE X c Wx a ta va) : VE X c Wx (.BoolOp op [a] pos) ta va := ⟨pe_one h.pe, h.sim⟩
theorem ve_and {a b : Expr} {rest : List Expr} {ta tb : TE} {va vb : VT} {pos : Pos} (ha : VE X c Wx a ta va) (hb : VE X c Wx (.BoolOp .And (b :: rest) pos) tb vb) : VE X c Wx (.BoolOp .And (a :: b :: rest) pos) (tAndV ta tb) (vAndV va vb) := by
  refine ⟨pe_and ha.pe hb.pe, fun f Hb env σ H Q QX Q' R q px k => ?_⟩
  refine ha.sim f Hb env σ H _ QX _ R q px fun w1 env1 v1 H1 Hb1 s1 R1 r1 q1 => ?_
  obtain ⟨b, rfl, q0⟩ := asB_of q1
  cases r1
  refine ⟨b, rfl, ?_⟩
  cases b with
  | true =>
    rw [if_pos rfl] at q0 ⊢
    exact hb.sim f Hb1 env1 σ H1 Q QX Q' R1 q0 (px.mn s1) fun w env2 v H2 Hb2 s2 R2 r2 q2 => k w env2 v H2 Hb2 (s1.trans s2) R2 r2 q2
  | false =>
    rw [if_neg Bool.false_ne_true] at q0 ⊢
    exact k (.val (.bl false)) _ _ _ _ s1 R1 (.bl false) q0
theorem ve_or {a b : Expr} {rest : List Expr} {ta tb : TE} {va vb : VT} {pos : Pos} (ha : VE X c Wx a ta va) (hb : VE X c Wx (.BoolOp .Or (b :: rest) pos) tb vb) : VE X c Wx (.BoolOp .Or (a :: b :: rest) pos) (tOrV ta tb) (vOrV va vb) := by
  refine ⟨pe_or ha.pe hb.pe, fun f Hb env σ H Q QX Q' R q px k => ?_⟩
  refine ha.sim f Hb env σ H _ QX _ R q px fun w1 env1 v1 H1 Hb1 s1 R1 r1 q1 => ?_
  obtain ⟨b, rfl, q0⟩ := asB_of q1
  cases r1
  refine ⟨b, rfl, ?_⟩
  cases b with
  | true =>
    rw [if_pos rfl] at q0 ⊢
    exact k (.val (.bl true)) _ _ _ _ s1 R1 (.bl true) q0
  | false =>
    rw [if_neg Bool.false_ne_true] at q0 ⊢
    exact hb.sim f Hb1 env1 σ H1 Q QX Q' R1 q0 (px.mn s1) fun w env2 v H2 Hb2 s2 R2 r2 q2 => k w env2 v H2 Hb2 (s1.trans s2) R2 r2 q2
theorem ve_not {a : Expr} {ta : TE} {va : VT} {pos : Pos} (ha : VE X c Wx a ta va) : VE X c Wx (.UnaryOp .Not a pos) (tNotV ta) (vNotV va) := by
  refine ⟨pe_not ha.pe, fun f Hb env σ H Q QX Q' R q px k => ?_⟩
  refine ha.sim f Hb env σ H _ QX _ R q px fun w1 env1 v1 H1 Hb1 s1 R1 r1 q1 => ?_
  obtain ⟨b, rfl, q0⟩ := asB_of q1
  cases r1
  exact ⟨b, rfl, k (.val (.bl _)) _ _ _ _ s1 R1 (.bl _) q0⟩
@[simp] def vIf (t : VTT) (a b : VT) : VT := fun env Q QX => t env (fun k env1 => if k = true then a env1 Q QX else b env1 Q QX) QX
theorem ve_if {t a b : Expr} {tt : TT} {ta tb : TE} {vt : VTT} {va vb : VT} {pos : Pos} (ht : VTe X c Wx t tt vt) (ha : VE X c Wx a ta va) (hb : VE X c Wx b tb vb) : VE X c Wx (.IfExp t a b pos) (tIf tt ta tb) (vIf vt va vb) := by
  refine ⟨pe_ifExp ht.pt ha.pe hb.pe, fun f Hb env σ H Q QX Q' R q px k => ?_⟩
  refine ht.sim f Hb env σ H _ QX _ R q px fun b env1 H1 Hb1 s1 R1 q1 => ?_
  cases b with
  | true =>
    rw [if_pos rfl] at q1 ⊢
    exact ha.sim f Hb1 env1 σ H1 Q QX Q' R1 q1 (px.mn s1) fun w env2 v H2 Hb2 s2 R2 r2 q2 => k w env2 v H2 Hb2 (s1.trans s2) R2 r2 q2
  | false =>
    rw [if_neg Bool.false_ne_true] at q1 ⊢
    exact hb.sim f Hb1 env1 σ H1 Q QX Q' R1 q1 (px.mn s1) fun w env2 v H2 Hb2 s2 R2 r2 q2 => k w env2 v H2 Hb2 (s1.trans s2) R2 r2 q2

/-! ### arguments and displays -/
@[simp] def vNil : VTA := fun env Q _ => Q [] env
@[simp] def vCons (ta : VT) (tr : VTA) : VTA := fun env Q QX => ta env (fun w env1 => tr env1 (fun ws env2 => Q (fzv w :: ws) env2) QX) QX
theorem va_nil : VA X c Wx [] tNil vNil := ⟨pa_nil, fun f Hb env σ H Q QX Q' R q px k => k _ _ _ _ _ (Same.refl _) R .nil q⟩
theorem va_cons {e : Expr} {es : List Expr} {te : TE} {t : TA} {ve : VT} {v : VTA} (h : VE X c Wx e te ve) (hr : VA X c Wx es t v) (hs : starEach (e :: es) X.env = (false, eval e X.env) :: starEach es X.env := by rfl) : VA X c Wx (e :: es) (tCons te t) (vCons ve v) := by
  refine ⟨pa_cons h.pe hr.pa hs, fun f Hb env σ H Q QX Q' R q px k => ?_⟩
  refine h.sim f Hb env σ H _ QX _ R q px fun w1 env1 v1 H1 Hb1 s1 R1 r1 q1 => ?_
  obtain ⟨Hb1', s1', R1', r1'⟩ := R1.fzv r1
  exact hr.sim f Hb1' env1 σ H1 _ QX _ R1' q1 (px.mn (s1.trans s1')) fun ws env2 vs H2 Hb2 s2 R2 r2 q2 => k _ _ _ _ _ ((s1.trans s1').trans s2) R2 (.cons (r1'.mn s2) r2) q2
@[simp] def fzs : List W → Env → (List D → Env → Prop) → Prop
  | [], env, k => k [] env
  | w :: ws, env, k => fz w env fun d env1 => fzs ws env1 fun ds env2 => k (d :: ds) env2
theorem Rl.fzs {f : Fm} {σ : L2.St} {H : Hp} : ∀ {ws : List W} {vs : List V} {Hb : Hp} {env : Env} {k : List D → Env → Prop}, Rl K c f Hb env σ H → RSs K Hb σ ws vs → fzs ws env k → ∃ ds env' Hb', Same Hb Hb' ∧ Rl K c f Hb' env' σ H ∧ RpL K Hb' ds vs ∧ k ds env'
  | [], _, Hb, env, k, R, h, q => by cases h; exact ⟨[], env, Hb, Same.refl _, R, .nil, q⟩
  | w :: ws, _, Hb, env, k, R, h, q => by
    cases h with
    | cons a r =>
      obtain ⟨d, env1, Hb1, s1, R1, p1, q1⟩ := R.fz (RS.rw a) q
      obtain ⟨ds, env2, Hb2, s2, R2, p2, q2⟩ := Rl.fzs R1 (RSs.mn r s1) q1
      exact ⟨d :: ds, env2, Hb2, s1.trans s2, R2, .cons (p1.mn s2) p2, q2⟩
theorem Rl.newL {f : Fm} {Hb H : Hp} {env : Env} {σ : L2.St} {p : Addr} {ds : List D} {vs : List V} (R : Rl K c f Hb env σ H) (np : H p = none) (r : RpL K Hb ds vs) : Rl K c f Hb env σ (upd H p (.lst vs)) ∧ RW K f Hb env σ (upd H p (.lst vs)) (.tmp (.lst ds)) (.ref p) :=
  ⟨R.ext (ExtH.newT R.sub np), R.ro (RO.lstN R.sub np r)⟩
@[simp] def vTup (t : VTA) : VT := fun env Q QX => t env (fun ws env1 => fzs ws env1 fun ds env2 => ds.length ≤ sizeLine ∧ Q (.val (.tup ds)) env2) QX
@[simp] def vLst (t : VTA) : VT := fun env Q QX => t env (fun ws env1 => fzs ws env1 fun ds env2 => ds.length ≤ sizeLine ∧ Q (.tmp (.lst ds)) env2) QX
theorem ve_tup {es : List Expr} {t : TA} {v : VTA} {x1 : Nat} {pos : Pos} (h : VA X c Wx es t v) : VE X c Wx (.Tuple es x1 pos) (tTup t) (vTup v) := by
  refine ⟨pe_tup h.pa, fun f Hb env σ H Q QX Q' R q px k => ?_⟩
  refine h.sim f Hb env σ H _ QX _ R q px fun ws env1 vs H1 Hb1 s1 R1 r1 q1 => ?_
  obtain ⟨ds, env2, Hb2, s2, R2, p2, hz, q2⟩ := R1.fzs r1 q1
  refine ⟨by rw [p2.length]; exact hz, fun p np => ?_⟩
  have x : ExtH Hb2 H1 (upd Hb2 p (.tup vs)) (upd H1 p (.tup vs)) := ExtH.new R2.sub np
  exact k (.val (.tup ds)) _ _ _ _ ((s1.trans s2).trans x.b) (R2.ext x) (Rp.tupN R2.sub np p2) q2
theorem ve_lst {es : List Expr} {t : TA} {v : VTA} {pos : Pos} (h : VA X c Wx es t v) : VE X c Wx (.List es pos) (tLst t) (vLst v) := by
  refine ⟨pe_lst h.pa, fun f Hb env σ H Q QX Q' R q px k => ?_⟩
  refine h.sim f Hb env σ H _ QX _ R q px fun ws env1 vs H1 Hb1 s1 R1 r1 q1 => ?_
  obtain ⟨ds, env2, Hb2, s2, R2, p2, hz, q2⟩ := R1.fzs r1 q1
  refine ⟨by rw [p2.length]; exact hz, fun p np => ?_⟩
  have x : ExtH Hb2 H1 Hb2 (upd H1 p (.lst vs)) := ExtH.newT R2.sub np
  have R3 := R2.ext x
  exact k (.tmp (.lst ds)) _ _ _ _ (s1.trans s2) R3 (R2.ro (RO.lstN R2.sub np p2)) q2

/-! ### subscripts -/
theorem atI_rel {Hb : Hp} {ds : List D} {vs : List V} {i : Int} {d : D} (h : RpL K Hb ds vs) (e : atI ds i = some d) : ∃ v, atI vs i = some v ∧ Rp K Hb d v := by
  unfold atI at e ⊢
  rw [h.length]
  cases q : ixN ds.length i with
  | none => rw [q] at e; cases e
  | some j => rw [q] at e; exact h.get e
@[simp] def dIx : G2
  | .lst ds, .int i, Q => ∃ d, atI ds i = some d ∧ Q (.val d)
  | .tup ds, .int i, Q => ∃ d, atI ds i = some d ∧ Q (.val d)
  | .scr ds, .int i, Q => ∃ d, atI ds i = some d ∧ Q (.val d)
  | .str z, .int i, Q => z.length ≤ sizeLine ∧ ∃ n, atI z.cps.toList i = some n ∧ Q (.val (.str ⟨#[n]⟩))
  | _, _, _ => False
theorem ops_ix : OpS K (rIx K) dIx := by
  intro Hb H d1 d2 v1 v2 Q Q' s r1 r2 g k
  unfold dIx at g
  split at g
  · cases r2
    obtain ⟨d, e, g⟩ := g
    cases r1 with
    | lst s1 p1 =>
      obtain ⟨v, e', p⟩ := atI_rel p1 e
      exact .inl ⟨_, _, _, _, rfl, rfl, .of s1, e', k (.val d) _ _ _ (.refl s) p g⟩
  · cases r2
    obtain ⟨d, e, g⟩ := g
    cases r1 with
    | tup s1 p1 =>
      obtain ⟨v, e', p⟩ := atI_rel p1 e
      exact .inr (.inl ⟨_, _, _, _, rfl, rfl, same_seqT s s1, e', k (.val d) _ _ _ (.refl s) p g⟩)
  · cases r2
    obtain ⟨d, e, g⟩ := g
    cases r1 with
    | scr s1 p1 =>
      obtain ⟨v, e', p⟩ := atI_rel p1 e
      exact .inl ⟨_, _, _, _, rfl, rfl, s1, e', k (.val d) _ _ _ (.refl s) p g⟩
  · cases r1; cases r2
    obtain ⟨hz, n, e, g⟩ := g
    exact .inr (.inr ⟨_, _, _, rfl, rfl, hz, e, k (.val (.str _)) _ _ _ (.refl s) (.str _) g⟩)
  · exact g.elim
theorem ve_ix {a b : Expr} {ta tb : TE} {va vb : VT} {pos : Pos} (ha : VE X c Wx a ta va) (hb : VE X c Wx b tb vb) (hs : PlainIx b := by intro _ _; rfl) : VE X c Wx (.Subscript a b pos) (tOp (rIx X.K) ta tb) (vOp dIx va vb) :=
  ⟨pe_ix ix_seq ha.pe hb.pe hs, sim_op ops_ix ha.sim hb.sim⟩

/-- a part of a slice -/
abbrev VTO := Env → (Option Int → Env → Prop) → VX → Prop
def SimO (K : PySem.W.Frag) (c : VC) (Wx : WX) (te : TO) (t : VTO) : Prop := ∀ (f : Fm) (Hb : Hp) (env : Env) (σ : L2.St) (H : Hp) (Q : Option Int → Env → Prop) (QX : VX) (Q' : Option Int → Hp → Prop), Rl K c f Hb env σ H → t env Q QX → PX K c f Wx Hb σ QX →
  (∀ b env' H' Hb', Same Hb Hb' → Rl K c f Hb' env' σ H' → Q b env' → Q' b H') → te σ H Q'
structure VO (X : Cx) (c : VC) (Wx : WX) (e : Option Expr) (te : TO) (t : VTO) : Prop where
  po : PO X e te
  sim : SimO X.K c Wx te t
@[simp] def vNoPart : VTO := fun env Q _ => Q none env
@[simp] def vPart (t : VT) : VTO := fun env Q QX => t env (fun w env1 => match w with
  | .val (.int i) => Q (some i) env1
  | _ => False) QX
theorem vo_none : VO X c Wx none tNoPart vNoPart := ⟨po_none, fun f Hb env σ H Q QX Q' R q px k => k _ _ _ _ (Same.refl _) R q⟩
theorem vo_some {e : Expr} {te : TE} {t : VT} (h : VE X c Wx e te t) : VO X c Wx (some e) (tPart te) (vPart t) := by
  refine ⟨po_some h.pe, fun f Hb env σ H Q QX Q' R q px k => ?_⟩
  refine h.sim f Hb env σ H _ QX _ R q px fun w1 env1 v1 H1 Hb1 s1 R1 r1 q1 => ?_
  split at q1
  · cases r1
    exact ⟨_, rfl, k _ _ _ _ s1 R1 q1⟩
  · exact q1.elim
def cutD (xs : List D) (lo hi : Option Int) : List D := (xs.drop (HT.sIx xs.length 0 lo)).take (HT.sIx xs.length xs.length hi - HT.sIx xs.length 0 lo)
theorem cut_rel {Hb : Hp} {ds : List D} {vs : List V} {lo hi : Option Int} (h : RpL K Hb ds vs) : RpL K Hb (cutD ds lo hi) (cutV vs lo hi) := by
  unfold cutD cutV
  rw [h.length]
  exact (h.drop _).take _
theorem cutV_whole {vs : List V} {lo hi : Option Int} (h : HT.sIx vs.length 0 lo = 0 ∧ HT.sIx vs.length vs.length hi = vs.length) : cutV vs lo hi = vs := by
  unfold cutV
  rw [h.1, h.2]
  simp
@[simp] def dSl (d : D) (lo hi : Option Int) (Q : W → Prop) : Prop := match d with
  | .lst ds => Q (.tmp (.lst (cutD ds lo hi)))
  | .tup ds => Q (.val (.tup (cutD ds lo hi)))
  | .str z => z.length ≤ sizeLine ∧ Q (.val (.str (cutS z lo hi)))
  | _ => False
@[simp] def vSl (te : VT) (tl th : VTO) : VT := fun env Q QX => te env (fun w env1 => tl env1 (fun lo env2 => th env2 (fun hi env3 => rd (fzv w) env3 fun d => dSl d lo hi fun w' => Q w' env3) QX) QX) QX
abbrev rSlAll (K : PySem.W.Frag) : V → Option Int → Option Int → Hp → VK → Prop := fun x lo hi H Q => rSlL K x lo hi H Q ∨ (rSlA K x lo hi H Q ∨ rSlS x lo hi H Q)
theorem SlR.or {r r' : V → Option Int → Option Int → Hp → VK → Prop} (h : SlR X r) (h' : SlR X r') : SlR X (fun x lo hi H Q => r x lo hi H Q ∨ r' x lo hi H Q) := by
  intro pins s σ H x v vl vu lo hi sl Q I rx hs pl pu q
  rcases q with q | q
  · exact h pins s σ H x v vl vu lo hi sl Q I rx hs pl pu q
  · exact h' pins s σ H x v vl vu lo hi sl Q I rx hs pl pu q
theorem ve_sl {e : Expr} {lo hi : Option Expr} {te : TE} {tl th : TO} {ve : VT} {vl vh : VTO} {pos p2 : Pos} (he : VE X c Wx e te ve) (hl : VO X c Wx lo tl vl) (hh : VO X c Wx hi th vh) : VE X c Wx (.Subscript e (.Slice lo hi none p2) pos) (tSl (rSlAll X.K) te tl th) (vSl ve vl vh) := by
  refine ⟨pe_slice (SlR.or sl_list (SlR.or sl_tupA sl_str)) he.pe hl.po hh.po, fun f Hb env σ H Q QX Q' R q px k => ?_⟩
  refine he.sim f Hb env σ H _ QX _ R q px fun w1 env1 v1 H1 Hb1 s1 R1 r1 q1 => ?_
  obtain ⟨Hb1', s1', R1', r1'⟩ := R1.fzv r1
  refine hl.sim f Hb1' env1 σ H1 _ QX _ R1' q1 (px.mn (s1.trans s1')) fun lo env2 H2 Hb2 s2 R2 q2 => ?_
  refine hh.sim f Hb2 env2 σ H2 _ QX _ R2 q2 (px.mn ((s1.trans s1').trans s2)) fun hi env3 H3 Hb3 s3 R3 q3 => ?_
  obtain ⟨d, e1, q3⟩ := rd_of q3
  have rr := R3.rd (RS.rw ((r1'.mn s2).mn s3)) e1
  have ss := ((s1.trans s1').trans s2).trans s3
  unfold dSl at q3
  split at q3
  · cases rr with
    | lst s4 p4 =>
      refine .inl ⟨_, _, rfl, .of s4, fun p np => ?_⟩
      obtain ⟨R4, ro⟩ := R3.newL np (cut_rel (lo := lo) (hi := hi) p4)
      exact k (.tmp (.lst _)) _ _ _ _ ss R4 ro q3
  · cases rr with
    | tup s4 p4 =>
      refine .inr (.inl ⟨_, _, rfl, same_seqT R3.sub s4, fun hw => ?_, fun hw p np => ?_⟩)
      · have z := cut_rel (lo := lo) (hi := hi) p4
        rw [cutV_whole hw] at z
        exact k (.val (.tup _)) _ _ _ _ ss R3 (.tup s4 z) q3
      · have ro := Rp.tupN R3.sub np (cut_rel (lo := lo) (hi := hi) p4)
        exact k (.val (.tup _)) _ _ _ _ (ss.trans (ExtH.new R3.sub np).b) (R3.ext (ExtH.new R3.sub np)) ro q3
  · cases rr
    exact .inr (.inr ⟨_, rfl, q3.1, k (.val (.str _)) _ _ _ _ ss R3 (.str _) q3.2⟩)
  · exact q3.elim

/-! ### built-ins called with values -/
@[simp] def rds : List W → Env → (List D → Prop) → Prop
  | [], _, k => k []
  | w :: ws, env, k => rd w env fun d => rds ws env fun ds => k (d :: ds)
theorem Rl.rds {f : Fm} {σ : L2.St} {H Hb : Hp} {env : Env} (R : Rl K c f Hb env σ H) : ∀ {ws : List W} {vs : List V} {k : List D → Prop}, RSs K Hb σ ws vs → rds ws env k → ∃ ds, Paired (RR K Hb H) ds vs ∧ k ds
  | [], _, k, h, q => by cases h; exact ⟨[], .nil, q⟩
  | w :: ws, _, k, h, q => by
    cases h with
    | cons a r =>
      obtain ⟨d, e, q⟩ := rd_of q
      obtain ⟨ds, p, q⟩ := Rl.rds R r q
      exact ⟨d :: ds, .cons (R.rd (RS.rw a) e) p, q⟩
abbrev GN := List D → (W → Prop) → Prop
def CallS (K : PySem.W.Frag) (r : List V → Hp → VK → Prop) (g : GN) : Prop := ∀ (Hb H : Hp) (ds : List D) (vs : List V) (Q : W → Prop) (Q' : VK), Same Hb H → Paired (RR K Hb H) ds vs → g ds Q →
  (∀ w v H' Hb', ExtH Hb H Hb' H' → RO K Hb' H H' w v → Q w → Q' v H') → r vs H Q'
@[simp] def vCB (g : GN) (t : VTA) : VT := fun env Q QX => t env (fun ws env1 => rds ws env1 fun ds => g ds fun w => Q w env1) QX
theorem sim_cb {r : List V → Hp → VK → Prop} {g : GN} {t : TA} {v : VTA} (hs : CallS K r g) (h : SimA K c Wx t v) : SimE K c Wx (tCB r t) (vCB g v) := by
  intro f Hb env σ H Q QX Q' R q px k
  refine h f Hb env σ H _ QX _ R q px fun ws env1 vs H1 Hb1 s1 R1 r1 q1 => ?_
  obtain ⟨ds, p, q1⟩ := R1.rds r1 q1
  exact hs Hb1 H1 ds vs _ Q' R1.sub p q1 fun w v H' Hb' x ro qw => k w env1 v H' Hb' (s1.trans x.b) (R1.ext x) (R1.ro ro) qw
theorem ve_callB {id : String} {x : Str} {r : List V → Hp → VK → Prop} {g : GN} {e : Expr} {es : List Expr} {t : TA} {v : VTA} {p pos : Pos} (hc : CallR X (.builtin id) r) (hs : CallS X.K r g) (hm : X.mg x = none) (hv : bootBuiltins x = some (.builtin id)) (ha : VA X c Wx (e :: es) t v) (hg : Gl X x := by rfl) (hn : x ≠ "__name__" := by decide) (hdb : (x == ("__debug__" : Str)) = false := by decide)
    (he : starEach (e :: es) X.env = (false, eval e X.env) :: starEach es X.env := by rfl) (hpl : (backTo pos (starEach es X.env)).any (·.1) = false := by rfl) : VE X c Wx (.Call (.Name x p) (e :: es) [] pos) (tCB r t) (vCB g v) :=
  ⟨pe_callB hc hg hm hv ha.pa hn hdb he hpl, sim_cb hs ha.sim⟩
theorem ve_callTy {T : String} {x : Str} {r : List V → Hp → VK → Prop} {g : GN} {e : Expr} {es : List Expr} {t : TA} {v : VTA} {p pos : Pos} (hc : CallR X (.type T) r) (hs : CallS X.K r g) (hm : X.mg x = none) (hv : bootBuiltins x = some (.type T)) (ha : VA X c Wx (e :: es) t v) (hg : Gl X x := by rfl) (hn : x ≠ "__name__" := by decide) (hdb : (x == ("__debug__" : Str)) = false := by decide)
    (he : starEach (e :: es) X.env = (false, eval e X.env) :: starEach es X.env := by rfl) (hpl : (backTo pos (starEach es X.env)).any (·.1) = false := by rfl) : VE X c Wx (.Call (.Name x p) (e :: es) [] pos) (tCB r t) (vCB g v) :=
  ⟨pe_callTy hc hg hm hv ha.pa hn hdb he hpl, sim_cb hs ha.sim⟩

/-! len, int, abs, max, min, tuple, list, str -/
@[simp] def dLen : GN
  | [.lst ds], Q => Q (.val (.int ds.length))
  | [.tup ds], Q => Q (.val (.int ds.length))
  | [.scr ds], Q => Q (.val (.int ds.length))
  | [.str z], Q => z.length ≤ sizeLine ∧ Q (.val (.int z.length))
  | _, _ => False
theorem paired1 {α β : Type} {F : α → β → Prop} {a : α} {bs : List β} (h : Paired F [a] bs) : ∃ b, bs = [b] ∧ F a b := by
  cases h with
  | cons p r => cases r; exact ⟨_, rfl, p⟩
theorem paired2 {α β : Type} {F : α → β → Prop} {a a' : α} {bs : List β} (h : Paired F [a, a'] bs) : ∃ b b', bs = [b, b'] ∧ F a b ∧ F a' b' := by
  cases h with
  | cons p r => obtain ⟨b, rfl, q⟩ := paired1 r; exact ⟨_, _, rfl, p, q⟩
theorem calls_len : CallS K (fun xs H Q => ∃ x n, xs = [x] ∧ LenV K x H n ∧ Q (.int n) H) dLen := by
  intro Hb H ds vs Q Q' s p g k
  unfold dLen at g
  split at g
  · obtain ⟨v, rfl, r⟩ := paired1 p
    cases r with
    | lst s1 p1 => exact ⟨_, _, rfl, .inl ⟨_, .of s1, p1.length.symm⟩, k (.val (.int _)) _ _ _ (.refl s) (.int _) g⟩
  · obtain ⟨v, rfl, r⟩ := paired1 p
    cases r with
    | tup s1 p1 => exact ⟨_, _, rfl, .inr ⟨_, same_seqT s s1, p1.length.symm⟩, k (.val (.int _)) _ _ _ (.refl s) (.int _) g⟩
  · obtain ⟨v, rfl, r⟩ := paired1 p
    cases r with
    | scr s1 p1 => exact ⟨_, _, rfl, .inl ⟨_, s1, p1.length.symm⟩, k (.val (.int _)) _ _ _ (.refl s) (.int _) g⟩
  · obtain ⟨v, rfl, r⟩ := paired1 p
    cases r
    exact ⟨_, _, rfl, ⟨g.1, rfl⟩, k (.val (.int _)) _ _ _ (.refl s) (.int _) g.2⟩
  · exact g.elim
@[simp] def dInt : GN
  | [.int i], Q => Q (.val (.int i))
  | [.bl b], Q => Q (.val (.int (if b then 1 else 0)))
  | [.str z], Q => ∃ n, PySem.intText? z = some n ∧ z.length ≤ 640 ∧ Q (.val (.int n))
  | _, _ => False
abbrev rIntA : List V → Hp → VK → Prop := fun xs H Q => ((∃ i, xs = [.int i] ∧ Q (.int i) H) ∨ ∃ k, xs = [.bl k] ∧ Q (.int (if k then 1 else 0)) H) ∨ ∃ a n, xs = [.str a] ∧ PySem.intText? a = some n ∧ a.length ≤ 640 ∧ Q (.int n) H
theorem CallR.or {f : Value} {r r' : List V → Hp → VK → Prop} (h : CallR X f r) (h' : CallR X f r') : CallR X f (fun xs H Q => r xs H Q ∨ r' xs H Q) := by
  intro pins s σ H xs us Q I rx q
  rcases q with q | q
  · exact h pins s σ H xs us Q I rx q
  · exact h' pins s σ H xs us Q I rx q
theorem calls_int : CallS K rIntA dInt := by
  intro Hb H ds vs Q Q' s p g k
  unfold dInt at g
  split at g
  · obtain ⟨v, rfl, r⟩ := paired1 p
    cases r
    exact .inl (.inl ⟨_, rfl, k (.val (.int _)) _ _ _ (.refl s) (.int _) g⟩)
  · obtain ⟨v, rfl, r⟩ := paired1 p
    cases r
    exact .inl (.inr ⟨_, rfl, k (.val (.int _)) _ _ _ (.refl s) (.int _) g⟩)
  · obtain ⟨v, rfl, r⟩ := paired1 p
    cases r
    obtain ⟨n, e, hz, g⟩ := g
    exact .inr ⟨_, _, rfl, e, hz, k (.val (.int _)) _ _ _ (.refl s) (.int _) g⟩
  · exact g.elim
@[simp] def dAbs : GN
  | [.int i], Q => Q (.val (.int (if i < 0 then -i else i)))
  | _, _ => False
theorem calls_abs : CallS K (fun xs H Q => ∃ i, xs = [.int i] ∧ Q (.int (if i < 0 then -i else i)) H) dAbs := by
  intro Hb H ds vs Q Q' s p g k
  unfold dAbs at g
  split at g
  · obtain ⟨v, rfl, r⟩ := paired1 p
    cases r
    exact ⟨_, rfl, k (.val (.int _)) _ _ _ (.refl s) (.int _) g⟩
  · exact g.elim
@[simp] def dMax2 : GN
  | [.int i, .int j], Q => Q (.val (.int (if j > i then j else i)))
  | _, _ => False
@[simp] def dMin2 : GN
  | [.int i, .int j], Q => Q (.val (.int (if j < i then j else i)))
  | _, _ => False
theorem calls_max2 : CallS K (fun xs H Q => ∃ i j, xs = [.int i, .int j] ∧ Q (.int (if j > i then j else i)) H) dMax2 := by
  intro Hb H ds vs Q Q' s p g k
  unfold dMax2 at g
  split at g
  · obtain ⟨v, v', rfl, r, r'⟩ := paired2 p
    cases r; cases r'
    exact ⟨_, _, rfl, k (.val (.int _)) _ _ _ (.refl s) (.int _) g⟩
  · exact g.elim
theorem calls_min2 : CallS K (fun xs H Q => ∃ i j, xs = [.int i, .int j] ∧ Q (.int (if j < i then j else i)) H) dMin2 := by
  intro Hb H ds vs Q Q' s p g k
  unfold dMin2 at g
  split at g
  · obtain ⟨v, v', rfl, r, r'⟩ := paired2 p
    cases r; cases r'
    exact ⟨_, _, rfl, k (.val (.int _)) _ _ _ (.refl s) (.int _) g⟩
  · exact g.elim
@[simp] def dTuple : GN
  | [.lst ds], Q => Q (.val (.tup ds))
  | [.tup ds], Q => Q (.val (.tup ds))
  | _, _ => False
theorem calls_tuple : CallS K (fun xs H Q => ∃ p ys, xs = [.ref p] ∧ ((SqL K H p ys ∧ ∀ l, H l = none → Q (.ref l) (upd H l (.tup ys))) ∨ (SqT K H p ys ∧ Q (.ref p) H))) dTuple := by
  intro Hb H ds vs Q Q' s p g k
  unfold dTuple at g
  split at g
  · obtain ⟨v, rfl, r⟩ := paired1 p
    cases r with
    | lst s1 p1 => exact ⟨_, _, rfl, .inl ⟨.of s1, fun l nl => k (.val (.tup _)) _ _ _ (ExtH.new s nl) (Rp.tupN s nl p1) g⟩⟩
  · obtain ⟨v, rfl, r⟩ := paired1 p
    cases r with
    | tup s1 p1 => exact ⟨_, _, rfl, .inr ⟨same_seqT s s1, k (.val (.tup _)) _ _ _ (.refl s) (.tup s1 p1) g⟩⟩
  · exact g.elim
@[simp] def dList : GN
  | [.lst ds], Q => Q (.tmp (.lst ds))
  | [.tup ds], Q => Q (.tmp (.lst ds))
  | _, _ => False
theorem calls_list : CallS K (fun xs H Q => ∃ p ys, xs = [.ref p] ∧ (SqL K H p ys ∨ SqT K H p ys) ∧ ∀ l, H l = none → Q (.ref l) (upd H l (.lst ys))) dList := by
  intro Hb H ds vs Q Q' s p g k
  unfold dList at g
  split at g
  · obtain ⟨v, rfl, r⟩ := paired1 p
    cases r with
    | lst s1 p1 => exact ⟨_, _, rfl, .inl (.of s1), fun l nl => k (.tmp (.lst _)) _ _ _ (ExtH.newT s nl) (RO.lstN s nl p1) g⟩
  · obtain ⟨v, rfl, r⟩ := paired1 p
    cases r with
    | tup s1 p1 => exact ⟨_, _, rfl, .inr (same_seqT s s1), fun l nl => k (.tmp (.lst _)) _ _ _ (ExtH.newT s nl) (RO.lstN s nl p1) g⟩
  · exact g.elim
@[simp] def dStr : GN
  | [.int i], Q => i.natAbs.log2 < 1920 ∧ Q (.val (.str (toString i)))
  | _, _ => False
theorem calls_str : CallS K (fun xs H Q => ∃ i, xs = [.int i] ∧ i.natAbs.log2 < 1920 ∧ Q (.str (toString i)) H) dStr := by
  intro Hb H ds vs Q Q' s p g k
  unfold dStr at g
  split at g
  · obtain ⟨v, rfl, r⟩ := paired1 p
    cases r
    exact ⟨_, rfl, g.1, k (.val (.str _)) _ _ _ (.refl s) (.str _) g.2⟩
  · exact g.elim
end
end VL

set_option Elab.async false
set_option linter.all false
set_option maxRecDepth 100000
set_option maxHeartbeats 4000000
/-! VL4: a def's promise, its call, its body. -/
namespace VL
open PySem PySem.Spec PyProof.Rows L2

abbrev VSp := List M → (W → List M → Prop) → (Addr → List (Str × D) → List M → Prop) → Prop
def MR (K : PySem.W.Frag) (Hb H : Hp) : M → V → Prop
  | .val d, v => Rp K Hb d v
  | .own oc, v => ∃ a, v = .ref a ∧ Hb a = none ∧ Cont K Hb H a oc
def owns : List M → List V → List Addr
  | .own _ :: ms, .ref a :: vs => a :: owns ms vs
  | _ :: ms, _ :: vs => owns ms vs
  | _, _ => []
theorem mem_owns {K : PySem.W.Frag} {Hb H : Hp} : ∀ {ms : List M} {vs : List V} {a : Addr}, Paired (MR K Hb H) ms vs → a ∈ owns ms vs → ∃ (k : Nat) (oc : OC), ms[k]? = some (.own oc) ∧ vs[k]? = some (.ref a)
  | [], _, a, h, e => by cases h; exact absurd e (by simp [owns])
  | .val d :: ms, _, a, h, e => by
    cases h with
    | cons x r =>
      rename_i v vs
      have e : a ∈ owns ms vs := by simpa [owns] using e
      obtain ⟨k, oc, h1, h2⟩ := mem_owns r e
      exact ⟨k + 1, oc, by simpa using h1, by simpa using h2⟩
  | .own oc :: ms, _, a, h, e => by
    cases h with
    | cons x r =>
      obtain ⟨b, rfl, _⟩ := x
      rcases List.mem_cons.mp e with rfl | e
      · exact ⟨0, oc, rfl, rfl⟩
      · obtain ⟨k, oc, h1, h2⟩ := mem_owns r e
        exact ⟨k + 1, oc, by simpa using h1, by simpa using h2⟩
theorem owns_mem {K : PySem.W.Frag} {Hb H : Hp} : ∀ {ms : List M} {vs : List V} {a : Addr} {k : Nat} {oc : OC}, Paired (MR K Hb H) ms vs → ms[k]? = some (.own oc) → vs[k]? = some (.ref a) → a ∈ owns ms vs
  | [], _, a, k, oc, h, e, _ => by simp at e
  | .val d :: ms, _, a, 0, oc, h, e, _ => by simp at e
  | .val d :: ms, _, a, k + 1, oc, h, e, e2 => by
    cases h with
    | cons x r =>
      rename_i v vs
      show a ∈ owns ms vs
      exact owns_mem (k := k) r (by simpa using e) (by simpa using e2)
  | .own oc0 :: ms, _, a, 0, oc, h, e, e2 => by
    cases h with
    | cons x r =>
      obtain ⟨b, rfl, _⟩ := x
      have : V.ref b = V.ref a := by simpa using e2
      cases this
      exact List.mem_cons_self
  | .own oc0 :: ms, _, a, k + 1, oc, h, e, e2 => by
    cases h with
    | cons x r =>
      obtain ⟨b, rfl, _⟩ := x
      exact List.mem_cons_of_mem _ (owns_mem (k := k) r (by simpa using e) (by simpa using e2))
def sameShape : List M → List M → Prop
  | [], [] => True
  | .val d :: ms, .val e :: os => d = e ∧ sameShape ms os
  | .own _ :: ms, .own _ :: os => sameShape ms os
  | _, _ => False
theorem shape_own : ∀ {ms os : List M} {k : Nat} {oc : OC}, sameShape ms os → ms[k]? = some (.own oc) → ∃ oc', os[k]? = some (.own oc')
  | [], _, k, oc, _, e => by simp at e
  | .val d :: ms, [], _, _, h, _ => h.elim
  | .own o :: ms, [], _, _, h, _ => h.elim
  | .val d :: ms, .val e :: os, 0, _, _, q => by simp at q
  | .val d :: ms, .own e :: os, _, _, h, _ => h.elim
  | .own d :: ms, .val e :: os, _, _, h, _ => h.elim
  | .val d :: ms, .val e :: os, k + 1, oc, h, q => by
    obtain ⟨oc', z⟩ := shape_own (k := k) h.2 (by simpa using q)
    exact ⟨oc', by simpa using z⟩
  | .own d :: ms, .own e :: os, 0, oc, h, q => ⟨e, rfl⟩
  | .own d :: ms, .own e :: os, k + 1, oc, h, q => by
    have h : sameShape ms os := h
    obtain ⟨oc', z⟩ := shape_own (k := k) h (by simpa using q)
    exact ⟨oc', by simpa using z⟩
theorem shape_own' : ∀ {ms os : List M} {k : Nat} {oc : OC}, sameShape ms os → os[k]? = some (.own oc) → ∃ oc', ms[k]? = some (.own oc')
  | [], [], k, oc, _, e => by simp at e
  | [], _ :: _, k, oc, h, e => h.elim
  | .val d :: ms, [], _, _, h, _ => h.elim
  | .own o :: ms, [], _, _, h, _ => h.elim
  | .val d :: ms, .val e :: os, 0, _, _, q => by simp at q
  | .val d :: ms, .own e :: os, _, _, h, _ => h.elim
  | .own d :: ms, .val e :: os, _, _, h, _ => h.elim
  | .val d :: ms, .val e :: os, k + 1, oc, h, q => by
    obtain ⟨oc', z⟩ := shape_own' (k := k) h.2 (by simpa using q)
    exact ⟨oc', by simpa using z⟩
  | .own d :: ms, .own e :: os, 0, oc, h, q => ⟨d, rfl⟩
  | .own d :: ms, .own e :: os, k + 1, oc, h, q => by
    have h : sameShape ms os := h
    obtain ⟨oc', z⟩ := shape_own' (k := k) h (by simpa using q)
    exact ⟨oc', by simpa using z⟩

structure Pre (K : PySem.W.Frag) (T : List Addr) (Hb : Hp) (ms : List M) (vs : List V) (H : Hp) : Prop where
  sub : Same Hb H
  args : Paired (MR K Hb H) ms vs
  nd : (owns ms vs).Nodup
  tab : ∀ P ∈ T, GxR.TabG H P ∧ Hb P = none
structure Post (K : PySem.W.Frag) (T : List Addr) (Hb : Hp) (ms : List M) (vs : List V) (H : Hp) (outs : List M) (Hb' H' : Hp) : Prop where
  b : Same Hb Hb'
  s : Same Hb' H'
  keep : ∀ a o, H a = some o → a ∉ owns ms vs → a ∉ T → H' a = some o
  n : ∀ a o, H a = some o → Hb' a = Hb a
  args : Paired (MR K Hb' H') outs vs
  shape : sameShape ms outs
  tab : ∀ P ∈ T, GxR.TabG H' P ∧ Hb' P = none
def spOf (K : PySem.W.Frag) (T : List Addr) (sp : VSp) : Sp := fun vs H Q E => ∃ (Hb : Hp) (ms : List M) (A : W → List M → Prop) (B : Addr → List (Str × D) → List M → Prop), Pre K T Hb ms vs H ∧ sp ms A B ∧
  (∀ w outs, A w outs → ∀ v H' Hb', Post K T Hb ms vs H outs Hb' H' → RO K Hb' H H' w v → Q v H') ∧
  (∀ C fs outs, B C fs outs → ∀ d H' Hb', Post K T Hb ms vs H outs Hb' H' → XR K Hb' H' d fs → E (.ref C) d H')

/-! ### the call -/
def argM (w : W) (env : Env) (k : M → Prop) : Prop := match w with
  | .val d => k (.val d)
  | .cel i => match env[i]? with
    | some (some m) => k m
    | _ => False
  | .tmp _ => False
@[simp] def argMs : List W → Env → (List M → Prop) → Prop
  | [], _, k => k []
  | w :: ws, env, k => argM w env fun m => argMs ws env fun ms => k (m :: ms)
/-- the owned things among the arguments -/
@[simp] def cels : List W → Env → List Nat
  | [], _ => []
  | .cel i :: ws, env => match env[i]? with
    | some (some (.own _)) => i :: cels ws env
    | _ => cels ws env
  | _ :: ws, env => cels ws env
@[simp] def fnd (j : Nat) : List W → List M → Option OC
  | .cel i :: ws, .own oc :: os => if i = j then some oc else fnd j ws os
  | _ :: ws, _ :: os => fnd j ws os
  | _, _ => none
@[simp] def wbA (ws : List W) (os : List M) : Nat → Env → Env
  | _, [] => []
  | j, m :: r => (match fnd j ws os with
    | some oc => some (.own oc)
    | none => m) :: wbA ws os (j + 1) r
def wb (env : Env) (ws : List W) (os : List M) : Env := wbA ws os 0 env
@[simp] theorem argM_val {d : D} {env : Env} {k : M → Prop} : argM (.val d) env k = k (.val d) := rfl
def argC (o : Option (Option M)) (k : M → Prop) : Prop := match o with
  | some (some m) => k m
  | _ => False
@[simp] theorem argC_m {m : M} {k : M → Prop} : argC (some (some m)) k = k m := rfl
@[simp] theorem argC_n {k : M → Prop} : argC (some none) k = False := rfl
@[simp] theorem argC_0 {k : M → Prop} : argC none k = False := rfl
@[simp] theorem argM_cel {i : Nat} {env : Env} {k : M → Prop} : argM (.cel i) env k = argC env[i]? k := rfl
@[simp] theorem argM_tmp {oc : OC} {env : Env} {k : M → Prop} : argM (.tmp oc) env k = False := rfl
@[simp] theorem wb_nil {env : Env} {ws : List W} : wb env ws [] = wbA ws [] 0 env := rfl
@[simp] theorem wb_cons {env : Env} {ws : List W} {o : M} {os : List M} : wb env ws (o :: os) = wbA ws (o :: os) 0 env := rfl
theorem wbA_len (ws : List W) (os : List M) : ∀ (j : Nat) (env : Env), (wbA ws os j env).length = env.length
  | _, [] => rfl
  | j, m :: r => by simp [wbA, wbA_len]
theorem wbA_get (ws : List W) (os : List M) : ∀ (j : Nat) (env : Env) (i : Nat), (wbA ws os j env)[i]? = env[i]?.map fun m => match fnd (j + i) ws os with
    | some oc => some (.own oc)
    | none => m
  | _, [], i => by simp [wbA]
  | j, m :: r, 0 => by simp [wbA]
  | j, m :: r, i + 1 => by
    simp only [wbA, List.getElem?_cons_succ]
    rw [wbA_get ws os (j + 1) r i]
    rw [show j + 1 + i = j + (i + 1) by omega]
theorem wb_get (env : Env) (ws : List W) (os : List M) (i : Nat) : (wb env ws os)[i]? = env[i]?.map fun m => match fnd i ws os with
    | some oc => some (.own oc)
    | none => m := by
  unfold wb
  rw [wbA_get, Nat.zero_add]
theorem fnd_some : ∀ {ws : List W} {os : List M} {j : Nat} {oc : OC}, fnd j ws os = some oc → ∃ k : Nat, ws[k]? = some (W.cel j) ∧ os[k]? = some (M.own oc)
  | [], _, _, _, h => by simp [fnd] at h
  | .val d :: ws, [], _, _, h => by simp [fnd] at h
  | .tmp d :: ws, [], _, _, h => by simp [fnd] at h
  | .cel d :: ws, [], _, _, h => by simp [fnd] at h
  | .val d :: ws, o :: os, j, oc, h => by
    have h : fnd j ws os = some oc := by simpa [fnd] using h
    obtain ⟨k, h1, h2⟩ := fnd_some h
    exact ⟨k + 1, by simpa using h1, by simpa using h2⟩
  | .tmp d :: ws, o :: os, j, oc, h => by
    have h : fnd j ws os = some oc := by simpa [fnd] using h
    obtain ⟨k, h1, h2⟩ := fnd_some h
    exact ⟨k + 1, by simpa using h1, by simpa using h2⟩
  | .cel i :: ws, .val d :: os, j, oc, h => by
    have h : fnd j ws os = some oc := by simpa [fnd] using h
    obtain ⟨k, h1, h2⟩ := fnd_some h
    exact ⟨k + 1, by simpa using h1, by simpa using h2⟩
  | .cel i :: ws, .own o :: os, j, oc, h => by
    unfold fnd at h
    split at h
    · rename_i e
      subst e
      cases h
      exact ⟨0, rfl, rfl⟩
    · obtain ⟨k, h1, h2⟩ := fnd_some h
      exact ⟨k + 1, by simpa using h1, by simpa using h2⟩
theorem fnd_none : ∀ {ws : List W} {os : List M} {j k : Nat} {oc : OC}, fnd j ws os = none → ws[k]? = some (.cel j) → os[k]? = some (.own oc) → False
  | [], _, _, _, _, _, h, _ => by simp at h
  | _ :: _, [], _, _, _, _, _, h => by simp at h
  | .cel i :: ws, .own o :: os, j, 0, oc, h, e, e2 => by
    have : i = j := by simpa using e
    simp [fnd, this] at h
  | .cel i :: ws, .own o :: os, j, k + 1, oc, h, e, e2 => by
    unfold fnd at h
    split at h
    · cases h
    · exact fnd_none (k := k) h (by simpa using e) (by simpa using e2)
  | .val d :: ws, o :: os, j, 0, oc, h, e, e2 => by simp at e
  | .tmp d :: ws, o :: os, j, 0, oc, h, e, e2 => by simp at e
  | .cel d :: ws, .val o :: os, j, 0, oc, h, e, e2 => by simp at e2
  | .val d :: ws, o :: os, j, k + 1, oc, h, e, e2 => fnd_none (k := k) (by simpa [fnd] using h) (by simpa using e) (by simpa using e2)
  | .tmp d :: ws, o :: os, j, k + 1, oc, h, e, e2 => fnd_none (k := k) (by simpa [fnd] using h) (by simpa using e) (by simpa using e2)
  | .cel d :: ws, .val o :: os, j, k + 1, oc, h, e, e2 => fnd_none (k := k) (by simpa [fnd] using h) (by simpa using e) (by simpa using e2)

section
variable {K : PySem.W.Frag} {c : VC} {Wx : WX} {X : Cx}
/-- the arguments as the callee takes them -/
structure ArgsOk (K : PySem.W.Frag) (f : Fm) (Hb H : Hp) (env : Env) (σ : L2.St) (ws : List W) (ms : List M) (vs : List V) : Prop where
  rel : Paired (MR K Hb H) ms vs
  own : ∀ (k : Nat) (oc : OC), ms[k]? = some (.own oc) → ∃ i, ws[k]? = some (.cel i) ∧ env[i]? = some (some (.own oc)) ∧ σ[i]? = vs[k]?.map some
  cel : ∀ (k i : Nat) (oc : OC), ws[k]? = some (.cel i) → env[i]? = some (some (.own oc)) → ms[k]? = some (.own oc)
  sub : ∀ a ∈ owns ms vs, ∃ i ∈ cels ws env, σ[i]? = some (some (.ref a))
  nd : (cels ws env).Nodup → (owns ms vs).Nodup
theorem mem_cels : ∀ {ws : List W} {env : Env} {i : Nat}, i ∈ cels ws env → ∃ oc, env[i]? = some (some (.own oc))
  | [], _, _, h => by simp [cels] at h
  | .val d :: ws, env, i, h => mem_cels (ws := ws) (by simpa [cels] using h)
  | .tmp d :: ws, env, i, h => mem_cels (ws := ws) (by simpa [cels] using h)
  | .cel j :: ws, env, i, h => by
    unfold cels at h
    split at h
    · rename_i oc e
      rcases List.mem_cons.mp h with rfl | h
      · exact ⟨oc, e⟩
      · exact mem_cels h
    · exact mem_cels h
theorem Rl.argMs {f : Fm} {Hb H : Hp} {env : Env} {σ : L2.St} (R : Rl K c f Hb env σ H) : ∀ {ws : List W} {vs : List V} {k : List M → Prop}, RSs K Hb σ ws vs → argMs ws env k → ∃ ms, ArgsOk K f Hb H env σ ws ms vs ∧ k ms
  | [], _, k, h, q => by
    cases h
    exact ⟨[], ⟨.nil, fun k oc e => by simp at e, fun k i oc e => by simp at e, fun a e => by simp [owns] at e, fun _ => List.nodup_nil⟩, q⟩
  | w :: ws, _, k, h, q => by
    cases h with
    | cons x r =>
      rename_i v vs
      unfold VL.argMs argM at q
      cases w with
      | val d =>
        obtain ⟨ms, a, q⟩ := Rl.argMs R r q
        refine ⟨.val d :: ms, ⟨.cons x a.rel, fun k oc e => ?_, fun k i oc e e2 => ?_, fun b e => a.sub b (by simpa [owns] using e), fun n => a.nd (by simpa [cels] using n)⟩, q⟩
        · cases k with
          | zero => simp at e
          | succ k =>
            obtain ⟨i, h1, h2, h3⟩ := a.own k oc (by simpa using e)
            exact ⟨i, by simpa using h1, h2, by simpa using h3⟩
        · cases k with
          | zero => simp at e
          | succ k => simpa using a.cel k i oc (by simpa using e) e2
      | tmp d => exact x.elim
      | cel i =>
        have x : σ[i]? = some (some v) := x
        dsimp only at q
        split at q
        · rename_i m hm
          obtain ⟨ms, a, q⟩ := Rl.argMs R r q
          cases m with
          | val d =>
            obtain ⟨v', h1, h2⟩ := R.val hm
            rw [x] at h1; cases h1
            refine ⟨.val d :: ms, ⟨.cons h2 a.rel, fun k oc e => ?_, fun k j oc e e2 => ?_, fun b e => ?_, fun n => a.nd (by simpa [cels, hm] using n)⟩, q⟩
            · cases k with
              | zero => simp at e
              | succ k =>
                obtain ⟨i, h1, h2, h3⟩ := a.own k oc (by simpa using e)
                exact ⟨i, by simpa using h1, h2, by simpa using h3⟩
            · cases k with
              | zero =>
                have : i = j := by simpa using e
                subst this
                rw [hm] at e2; cases e2
              | succ k => simpa using a.cel k j oc (by simpa using e) e2
            · obtain ⟨j, h1, h2⟩ := a.sub b (by simpa [owns] using e)
              exact ⟨j, by simp only [cels, hm]; exact h1, h2⟩
          | own oc =>
            obtain ⟨b, h1, h2, h3, h4⟩ := R.own hm
            rw [x] at h1; cases h1
            refine ⟨.own oc :: ms, ⟨.cons ⟨b, rfl, h2, h4⟩ a.rel, fun k oc' e => ?_, fun k j oc' e e2 => ?_, fun b' e => ?_, fun n => ?_⟩, q⟩
            · cases k with
              | zero =>
                have : oc = oc' := by simpa using e
                subst this
                exact ⟨i, rfl, hm, by simpa using x⟩
              | succ k =>
                obtain ⟨i, h1, h2, h3⟩ := a.own k oc' (by simpa using e)
                exact ⟨i, by simpa using h1, h2, by simpa using h3⟩
            · cases k with
              | zero =>
                have : i = j := by simpa using e
                subst this
                rw [hm] at e2; cases e2; rfl
              | succ k => simpa using a.cel k j oc' (by simpa using e) e2
            · have e : b' ∈ b :: owns ms vs := e
              rcases List.mem_cons.mp e with rfl | e
              · exact ⟨i, by simp only [cels, hm]; exact List.mem_cons_self, x⟩
              · obtain ⟨j, h1, h2⟩ := a.sub b' e
                exact ⟨j, by simp only [cels, hm]; exact List.mem_cons_of_mem _ h1, h2⟩
            · have n : (i :: cels ws env).Nodup := by simpa [cels, hm] using n
              obtain ⟨n1, n2⟩ := List.nodup_cons.mp n
              show (b :: owns ms vs).Nodup
              refine List.nodup_cons.mpr ⟨fun z => ?_, a.nd n2⟩
              obtain ⟨j, z1, z2⟩ := a.sub b z
              obtain ⟨oc', e'⟩ := mem_cels z1
              have := R.inj hm e' x z2
              subst this
              exact n1 z1
        · exact q.elim
/-- behind the call -/
theorem Rl.post {f : Fm} {Hb H Hb' H' : Hp} {env : Env} {σ : L2.St} {ws : List W} {ms outs : List M} {vs : List V} (R : Rl K c f Hb env σ H) (a : ArgsOk K f Hb H env σ ws ms vs) (p : Post K c.T Hb ms vs H outs Hb' H') : Rl K c f Hb' (wb env ws outs) σ H' := by
  have notO : ∀ {b : Addr}, f.Fr b ≠ none → b ∉ owns ms vs := fun {b} hb z => by
    obtain ⟨i, hi, e⟩ := a.sub b z
    obtain ⟨oc, e'⟩ := mem_cels hi
    obtain ⟨b', h1, _, h2, _⟩ := R.own e'
    rw [e] at h1; cases h1
    exact hb h2
  -- a slot behind the call
  have slot : ∀ {i : Nat} {oc : OC}, (wb env ws outs)[i]? = some (some (.own oc)) → ∃ oc0, env[i]? = some (some (.own oc0)) ∧ ((∃ k : Nat, ws[k]? = some (W.cel i) ∧ ms[k]? = some (M.own oc0) ∧ outs[k]? = some (M.own oc)) ∨ (oc = oc0 ∧ ∀ k : Nat, ws[k]? ≠ some (W.cel i))) := fun {i oc} e => by
    rw [wb_get] at e
    cases hE : env[i]? with
    | none => rw [hE] at e; cases e
    | some m =>
      rw [hE] at e
      have e : (match fnd i ws outs with | some oc => some (M.own oc) | none => m) = some (.own oc) := by simpa using e
      cases hf : fnd i ws outs with
      | none =>
        rw [hf] at e
        have e : m = some (.own oc) := e
        subst e
        refine ⟨oc, rfl, .inr ⟨rfl, fun k z => ?_⟩⟩
        have h1 := a.cel k i oc z hE
        obtain ⟨oc', h2⟩ := shape_own p.shape h1
        exact fnd_none hf z h2
      | some oc' =>
        rw [hf] at e
        have e : some (M.own oc') = some (.own oc) := e
        cases e
        obtain ⟨k, h1, h2⟩ := fnd_some hf
        obtain ⟨oc0, h3⟩ := shape_own' p.shape h2
        obtain ⟨i', h4, h5, h6⟩ := a.own k oc0 h3
        rw [h1] at h4; cases h4
        rw [hE] at h5
        cases h5
        exact ⟨oc0, rfl, .inl ⟨k, h1, h3, h2⟩⟩
  have valS : ∀ {i : Nat} {d : D}, (wb env ws outs)[i]? = some (some (.val d)) → env[i]? = some (some (.val d)) := fun {i d} e => by
    rw [wb_get] at e
    cases hE : env[i]? with
    | none => rw [hE] at e; cases e
    | some m =>
      rw [hE] at e
      have e : (match fnd i ws outs with | some oc => some (M.own oc) | none => m) = some (.val d) := by simpa using e
      cases hf : fnd i ws outs with
      | none => rw [hf] at e; exact congrArg some e
      | some oc' => rw [hf] at e; cases e
  have paired_get : ∀ {ms : List M} {vs : List V} {k : Nat} {m : M} {Hx Hy : Hp}, Paired (MR K Hx Hy) ms vs → ms[k]? = some m → ∃ v, vs[k]? = some v ∧ MR K Hx Hy m v := by
    intro ms
    induction ms with
    | nil => intro vs k m Hx Hy h e; simp at e
    | cons m0 ms ih =>
      intro vs k m Hx Hy h e
      cases h with
      | cons x r =>
        cases k with
        | zero => have : m0 = m := by simpa using e
                  subst this; exact ⟨_, rfl, x⟩
        | succ k =>
          obtain ⟨v, h1, h2⟩ := ih r (k := k) (by simpa using e)
          exact ⟨v, by simpa using h1, h2⟩
  refine ⟨by unfold wb; rw [wbA_len]; exact R.len, fun {i d} e => ?_, fun {i oc} e => ?_, fun {i j o1 o2 b} e1 e2 e3 e4 => ?_, p.s, fun b o e => ?_, fun b o e => ?_, fun P hP => ?_, R.fix⟩
  · obtain ⟨v, h1, h2⟩ := R.val (valS e)
    exact ⟨v, h1, h2.mn p.b⟩
  · obtain ⟨oc0, hE, h⟩ := slot e
    obtain ⟨b, h1, h2, h3, h4⟩ := R.own hE
    rcases h with ⟨k, k1, k2, k3⟩ | ⟨rfl, hno⟩
    · obtain ⟨i', j1, j2, j3⟩ := a.own k oc0 k2
      rw [k1] at j1; cases j1
      obtain ⟨v, hv, b', rfl, q1, q2⟩ := paired_get p.args k3
      rw [hv, h1] at j3
      have j3 : V.ref b = V.ref b' := by simpa using j3
      cases j3
      exact ⟨b, h1, q1, h3, q2⟩
    · obtain ⟨o, ho⟩ := h4.there
      have nb : b ∉ owns ms vs := fun z => by
        obtain ⟨k, oc', z1, z2⟩ := mem_owns a.rel z
        obtain ⟨i', z3, z4, z5⟩ := a.own k oc' z1
        rw [z2] at z5
        have := R.inj hE z4 h1 (by simpa using z5)
        subst this
        exact hno k z3
      have nT : b ∉ c.T := fun z => h4.notab (R.tab b z).1 rfl
      exact ⟨b, h1, by rw [p.n b o ho]; exact h2, h3, h4.mn p.b fun o' q => p.keep _ _ q nb nT⟩
  · obtain ⟨x1, y1, _⟩ := slot e1
    obtain ⟨x2, y2, _⟩ := slot e2
    exact R.inj y1 y2 e3 e4
  · refine p.keep b o (R.frm b o e) (notO (by rw [e]; simp)) fun z => ?_
    have := (R.tab b z).2.2
    rw [e] at this; cases this
  · rw [p.n b o (R.frm b o e)]
    exact R.frb b o e
  · obtain ⟨h1, h2⟩ := p.tab P hP
    exact ⟨h1, h2, (R.tab P hP).2.2⟩

@[simp] def vCall (sp : VSp) (t : VTA) : VT := fun env Q QX => t env (fun ws env1 => argMs ws env1 fun ms => (cels ws env1).Nodup ∧ sp ms (fun w outs => Q w (wb env1 ws outs)) fun C fs outs => QX C fs (wb env1 ws outs)) QX
/-- what a call gives back is none of the slots' -/
theorem ro_rw {f : Fm} {Hb H Hb' H' : Hp} {env env' : Env} {σ : L2.St} {w : W} {v : V} (R : Rl K c f Hb env σ H) (R' : Rl K c f Hb' env' σ H') (hs : ∀ (i : Nat) (oc : OC), env'[i]? = some (some (.own oc)) → ∃ oc', env[i]? = some (some (.own oc'))) (h : RO K Hb' H H' w v) : RW K f Hb' env' σ H' w v := by
  cases w with
  | val d => exact h
  | cel i => exact h.elim
  | tmp oc =>
    obtain ⟨a, e, h1, h2, h3⟩ := h
    refine ⟨a, e, h1, R.frm.free h2, h3, fun i oc' hi q => ?_⟩
    obtain ⟨oc2, hi2⟩ := hs i oc' hi
    obtain ⟨a', q', _, _, h4⟩ := R.own hi2
    rw [q] at q'; cases q'
    obtain ⟨o, ho⟩ := h4.there
    rw [h2] at ho; cases ho
theorem wb_own {env : Env} {ws : List W} {ms outs : List M} {f : Fm} {Hb H : Hp} {σ : L2.St} {vs : List V} (a : ArgsOk K f Hb H env σ ws ms vs) (sh : sameShape ms outs) (i : Nat) (oc : OC) (e : (wb env ws outs)[i]? = some (some (.own oc))) : ∃ oc', env[i]? = some (some (.own oc')) := by
  rw [wb_get] at e
  cases hE : env[i]? with
  | none => rw [hE] at e; cases e
  | some m =>
    rw [hE] at e
    have e : (match fnd i ws outs with | some oc => some (M.own oc) | none => m) = some (.own oc) := by simpa using e
    cases hf : fnd i ws outs with
    | none => rw [hf] at e; exact ⟨oc, congrArg some e⟩
    | some oc' =>
      obtain ⟨k, h1, h2⟩ := fnd_some hf
      obtain ⟨oc0, h3⟩ := shape_own' sh h2
      obtain ⟨i', h4, h5, h6⟩ := a.own k oc0 h3
      rw [h1] at h4; cases h4
      rw [hE] at h5
      exact ⟨oc0, h5⟩
/-- a call by a promise, whatever made the call: from the arguments -/
theorem sp_run {f : Fm} {Hb H : Hp} {env : Env} {σ : L2.St} {ws : List W} {vs : List V} {sp : VSp} {Q : VQ} {QX : VX} {Q' : VK} (R : Rl K c f Hb env σ H) (r : RSs K Hb σ ws vs)
    (q : argMs ws env fun ms => (cels ws env).Nodup ∧ sp ms (fun w outs => Q w (wb env ws outs)) fun C fs outs => QX C fs (wb env ws outs))
    (px : PX K c f Wx Hb σ QX) (k : ∀ w env' v H' Hb', Same Hb Hb' → Rl K c f Hb' env' σ H' → RW K f Hb' env' σ H' w v → Q w env' → Q' v H') : spOf K c.T sp vs H Q' (fun cls d H' => Wx cls d σ H') := by
  obtain ⟨ms, a, nd, q⟩ := R.argMs r q
  refine ⟨Hb, ms, _, _, ⟨R.sub, a.rel, a.nd nd, fun P hP => ⟨(R.tab P hP).1, (R.tab P hP).2.1⟩⟩, q, fun w outs qw v H' Hb' p ro => ?_, fun C fs outs qx d H' Hb' p xr => ?_⟩
  · have R' := R.post a p
    exact k w _ v H' Hb' p.b R' (ro_rw R R' (wb_own a p.shape) ro) qw
  · exact px C fs _ d H' Hb' p.b (R.post a p) xr qx
theorem ve_call {CX : CXT} {k : Nat} {fa : Addr} {fd : FuncData} {ps : List Str} {sp : VSp} {x : Str} {p pos : Pos} {e : Expr} {es : List Expr} {t : TA} {v : VTA} (F : FnOk X.prog X.w X.K X.mg X.base CX k fa fd ps (spOf X.K c.T sp)) (hr : Room k X.A) (hm : X.mg x = some (.ref fa)) (hk : PySem.W.keepIn X.K (.ref fa) = true) (hb : Binds X.K fd ps []) (hx : ∀ σ, PassesAt CX X σ (WE Wx σ))
    (ha : VA X c Wx (e :: es) t v) (hg : Gl X x := by rfl) (hdb : (x == ("__debug__" : Str)) = false := by decide) (he : starEach (e :: es) X.env = (false, eval e X.env) :: starEach es X.env := by rfl) (hpl : (backTo pos (starEach es X.env)).any (·.1) = false := by rfl) :
    VE X c Wx (.Call (.Name x p) (e :: es) [] pos) (tCallSD (spOf X.K c.T sp) [] (WE Wx) t) (vCall sp v) := by
  refine ⟨pe_callSD F hr hg hm hk hb .nil hx ha.pa hdb he hpl, fun f Hb env σ H Q QX Q' R q px k => ?_⟩
  refine ha.sim f Hb env σ H _ QX _ R q px fun ws env1 vs H1 Hb1 s1 R1 r1 q1 => ?_
  show spOf X.K c.T sp (vs ++ []) H1 Q' (WE Wx σ)
  rw [List.append_nil]
  exact sp_run R1 r1 q1 (px.mn s1) fun w env' v H' Hb' s2 R2 rw q2 => k w env' v H' Hb' (s1.trans s2) R2 rw q2
end
end VL

set_option Elab.async false
set_option linter.all false
set_option maxRecDepth 100000
set_option maxHeartbeats 4000000
/-! VL5: statements, loops, a def's body. -/
namespace VL
open PySem PySem.Spec PyProof.Rows L2

structure VEnds where
  nx : Env → Prop
  rt : W → Env → Prop
  bk : Env → Prop
  ct : Env → Prop
  ex : VX
abbrev VS := VEnds → Env → Prop
structure EndsR (K : PySem.W.Frag) (c : VC) (f : Fm) (Wx : WX) (Hb : Hp) (DV : VEnds) (D : Ends) : Prop where
  nx : ∀ env' σ' H' Hb', Same Hb Hb' → Rl K c f Hb' env' σ' H' → DV.nx env' → D.nx σ' H'
  rt : ∀ w env' v σ' H' Hb', Same Hb Hb' → Rl K c f Hb' env' σ' H' → RW K f Hb' env' σ' H' w v → DV.rt w env' → D.rt v H'
  bk : ∀ env' σ' H' Hb', Same Hb Hb' → Rl K c f Hb' env' σ' H' → DV.bk env' → D.bk σ' H'
  ct : ∀ env' σ' H' Hb', Same Hb Hb' → Rl K c f Hb' env' σ' H' → DV.ct env' → D.ct σ' H'
  ex : ∀ C fs env' d σ' H' Hb', Same Hb Hb' → Rl K c f Hb' env' σ' H' → XR K Hb' H' d fs → DV.ex C fs env' → Wx (.ref C) d σ' H'
theorem EndsR.mn {K : PySem.W.Frag} {c : VC} {f : Fm} {Wx : WX} {Hb Hb' : Hp} {DV : VEnds} {D : Ends} (h : EndsR K c f Wx Hb DV D) (s : Same Hb Hb') : EndsR K c f Wx Hb' DV D :=
  ⟨fun e a b d t => h.nx e a b d (s.trans t), fun w e v a b d t => h.rt w e v a b d (s.trans t), fun e a b d t => h.bk e a b d (s.trans t), fun e a b d t => h.ct e a b d (s.trans t), fun C fs e d a b x t => h.ex C fs e d a b x (s.trans t)⟩
theorem EndsR.px {K : PySem.W.Frag} {c : VC} {f : Fm} {Wx : WX} {Hb : Hp} {DV : VEnds} {D : Ends} (h : EndsR K c f Wx Hb DV D) {σ : L2.St} : PX K c f Wx Hb σ DV.ex :=
  fun C fs env' d H' Hb' s R x q => h.ex C fs env' d σ H' Hb' s R x q
def SimS (K : PySem.W.Frag) (c : VC) (Wx : WX) (ts : TS) (t : VS) : Prop := ∀ (f : Fm) (Hb : Hp) (env : Env) (σ : L2.St) (H : Hp) (DV : VEnds) (D : Ends), Rl K c f Hb env σ H → t DV env → EndsR K c f Wx Hb DV D → ts D σ H
structure VSt (X : Cx) (c : VC) (Wx : WX) (st : Stmt) (ts : TS) (t : VS) : Prop where
  ps : PS X st ts
  sim : SimS X.K c Wx ts t
structure VSs (X : Cx) (c : VC) (Wx : WX) (st : List Stmt) (ts : TS) (t : VS) : Prop where
  ps : PSs X st ts
  sim : SimS X.K c Wx ts t

section
variable {K : PySem.W.Frag} {c : VC} {Wx : WX} {X : Cx}

/-! ### blocks -/
@[simp] def vNext : VS := fun DV env => DV.nx env
@[simp] def vSeq (t u : VS) : VS := fun DV env => t { DV with nx := u DV } env
def vCut (t u : VS) : VS := fun DV env => ∃ Mid : Env → Prop, t { DV with nx := Mid } env ∧ ∀ env', Mid env' → u DV env'
theorem vss_nil : VSs X c Wx [] tNext vNext := ⟨pss_nil, fun f Hb env σ H DV D R q e => e.nx _ _ _ _ (Same.refl _) R q⟩
theorem vss_one {st : Stmt} {ts : TS} {t : VS} (h : VSt X c Wx st ts t) : VSs X c Wx [st] ts t := ⟨pss_one h.ps, h.sim⟩
theorem vss_cons {st : Stmt} {rest : List Stmt} {ts us : TS} {t u : VS} (h : VSt X c Wx st ts t) (g : VSs X c Wx rest us u) : VSs X c Wx (st :: rest) (tSeq ts us) (vSeq t u) := by
  refine ⟨pss_cons h.ps g.ps, fun f Hb env σ H DV D R q e => ?_⟩
  refine h.sim f Hb env σ H { DV with nx := u DV } { D with nx := us D } R q ⟨fun env' σ' H' Hb' s R' q' => ?_, e.rt, e.bk, e.ct, e.ex⟩
  exact g.sim f Hb' env' σ' H' DV D R' q' (e.mn s)
theorem vss_cut {st : Stmt} {rest : List Stmt} {ts us : TS} {t u : VS} (h : VSt X c Wx st ts t) (g : VSs X c Wx rest us u) : VSs X c Wx (st :: rest) (tSeq ts us) (vCut t u) := by
  refine ⟨pss_cons h.ps g.ps, fun f Hb env σ H DV D R q e => ?_⟩
  obtain ⟨Mid, q, hm⟩ := q
  refine h.sim f Hb env σ H { DV with nx := Mid } { D with nx := us D } R q ⟨fun env' σ' H' Hb' s R' q' => ?_, e.rt, e.bk, e.ct, e.ex⟩
  exact g.sim f Hb' env' σ' H' DV D R' (hm _ q') (e.mn s)

/-! ### targets -/
abbrev VG := D → Env → (Env → Prop) → Prop
abbrev VGs := List D → Env → (Env → Prop) → Prop
/-- the slots but these stand -/
def Outside (ss : List Nat) (σ σ' : L2.St) : Prop := σ'.length = σ.length ∧ ∀ j : Nat, j ∉ ss → σ'[j]? = σ[j]?
theorem Outside.refl (ss : List Nat) (σ : L2.St) : Outside ss σ σ := ⟨rfl, fun _ _ => rfl⟩
def SimG (K : PySem.W.Frag) (c : VC) (ss : List Nat) (g : TG) (vg : VG) : Prop := ∀ (f : Fm) (Hb : Hp) (env : Env) (σ : L2.St) (H : Hp) (d : D) (v : V) (Q : Env → Prop) (Q' : L2.St → Hp → Prop), Rl K c f Hb env σ H → Rp K Hb d v → vg d env Q →
  (∀ env' σ' H' Hb', Same Hb Hb' → Rl K c f Hb' env' σ' H' → Outside ss σ σ' → Q env' → Q' σ' H') → g v σ H Q'
def SimGs (K : PySem.W.Frag) (c : VC) (ss : List Nat) (g : TGs) (vg : VGs) : Prop := ∀ (f : Fm) (Hb : Hp) (env : Env) (σ : L2.St) (H : Hp) (ds : List D) (vs : List V) (Q : Env → Prop) (Q' : L2.St → Hp → Prop), Rl K c f Hb env σ H → RpL K Hb ds vs → vg ds env Q →
  (∀ env' σ' H' Hb', Same Hb Hb' → Rl K c f Hb' env' σ' H' → Outside ss σ σ' → Q env' → Q' σ' H') → g vs σ H Q'
structure VGt (X : Cx) (c : VC) (ss : List Nat) (tg : Expr) (g : TG) (vg : VG) : Prop where
  pg : PG X tg g
  sim : SimG X.K c ss g vg
structure VGts (X : Cx) (c : VC) (ss : List Nat) (tg : List Expr) (g : TGs) (vg : VGs) : Prop where
  pg : PGs X tg g
  sim : SimGs X.K c ss g vg
@[simp] def vgName (c : VC) (i : Nat) : VG := fun d env Q => i ∉ c.fx ∧ Q (env.set i (some (.val d)))
theorem Rl.setVal {f : Fm} {Hb H : Hp} {env : Env} {σ : L2.St} {i : Nat} {d : D} {v : V} (R : Rl K c f Hb env σ H) (h : Rp K Hb d v) (hi : i ∉ c.fx) : Rl K c f Hb (env.set i (some (.val d))) (σ.set i (some v)) H := by
  refine ⟨by simpa using R.len, fun {j d'} e => ?_, fun {j oc'} e => ?_, fun {j k o1 o2 b} e1 e2 e3 e4 => ?_, R.sub, R.frm, R.frb, R.tab, fun j hj => ?_⟩
  · rcases set_get e with ⟨ee, e2⟩ | ⟨ne, e2⟩
    · cases e2
      subst ee
      have hl : i < σ.length := by
        have := (List.getElem?_eq_some_iff.mp e).1
        rw [List.length_set] at this
        rw [R.len]; exact this
      exact ⟨v, by rw [List.getElem?_set_self hl], h⟩
    · obtain ⟨v', h1, h2⟩ := R.val e2
      exact ⟨v', by rw [List.getElem?_set_ne ne]; exact h1, h2⟩
  · rcases set_get e with ⟨_, e2⟩ | ⟨ne, e2⟩
    · cases e2
    · obtain ⟨a, h1, h2⟩ := R.own e2
      exact ⟨a, by rw [List.getElem?_set_ne ne]; exact h1, h2⟩
  · rcases set_get e1 with ⟨_, e1⟩ | ⟨ne1, e1⟩
    · cases e1
    · rcases set_get e2 with ⟨_, e2⟩ | ⟨ne2, e2⟩
      · cases e2
      · rw [List.getElem?_set_ne ne1] at e3
        rw [List.getElem?_set_ne ne2] at e4
        exact R.inj e1 e2 e3 e4
  · rw [List.getElem?_set_ne (fun z : i = j => hi (z.symm ▸ hj))]
    exact R.fix j hj
theorem Rl.setOwn {f : Fm} {Hb H : Hp} {env : Env} {σ : L2.St} {i : Nat} {oc : OC} {v : V} (R : Rl K c f Hb env σ H) (h : RW K f Hb env σ H (.tmp oc) v) (hi : i ∉ c.fx) : Rl K c f Hb (env.set i (some (.own oc))) (σ.set i (some v)) H := by
  obtain ⟨a, rfl, h1, h2, h3, h4⟩ := h
  refine ⟨by simpa using R.len, fun {j d'} e => ?_, fun {j oc'} e => ?_, fun {j k o1 o2 b} e1 e2 e3 e4 => ?_, R.sub, R.frm, R.frb, R.tab, fun j hj => ?_⟩
  · rcases set_get e with ⟨_, e2⟩ | ⟨ne, e2⟩
    · cases e2
    · obtain ⟨v', h1, h2⟩ := R.val e2
      exact ⟨v', by rw [List.getElem?_set_ne ne]; exact h1, h2⟩
  · rcases set_get e with ⟨ee, e2⟩ | ⟨ne, e2⟩
    · cases e2
      subst ee
      have hl : i < σ.length := by
        have := (List.getElem?_eq_some_iff.mp e).1
        rw [List.length_set] at this
        rw [R.len]; exact this
      exact ⟨a, by rw [List.getElem?_set_self hl], h1, h2, h3⟩
    · obtain ⟨a, h1, h2⟩ := R.own e2
      exact ⟨a, by rw [List.getElem?_set_ne ne]; exact h1, h2⟩
  · have hlen : ∀ {z : Option M}, (env.set i z)[i]? ≠ none → i < σ.length := fun {z} hz => by
      have := (List.getElem?_eq_some_iff.mp (Option.isSome_iff_exists.mp (Option.isSome_iff_ne_none.mpr hz)).choose_spec).1
      rw [List.length_set] at this
      rw [R.len]; exact this
    rcases set_get e1 with ⟨r1, e1'⟩ | ⟨ne1, e1'⟩
    · rcases set_get e2 with ⟨r2, e2'⟩ | ⟨ne2, e2'⟩
      · exact r1.symm.trans r2
      · subst r1
        have hl := hlen (z := some (.own oc)) (by rw [e1]; simp)
        rw [List.getElem?_set_self hl] at e3
        rw [List.getElem?_set_ne ne2] at e4
        cases e3
        exact (h4 _ _ e2' e4).elim
    · rcases set_get e2 with ⟨r2, e2'⟩ | ⟨ne2, e2'⟩
      · subst r2
        have hl := hlen (z := some (.own oc)) (by rw [e2]; simp)
        rw [List.getElem?_set_self hl] at e4
        rw [List.getElem?_set_ne ne1] at e3
        cases e4
        exact (h4 _ _ e1' e3).elim
      · rw [List.getElem?_set_ne ne1] at e3
        rw [List.getElem?_set_ne ne2] at e4
        exact R.inj e1' e2' e3 e4
  · rw [List.getElem?_set_ne (fun z : i = j => hi (z.symm ▸ hj))]
    exact R.fix j hj
theorem vg_name {x : Str} {pos : Pos} (i : Nat) (nd : X.N.Nodup) (hi : X.N[i]? = some x := by rfl) (hl : L2.Loc X.env.scope x := by first | exact Or.inl rfl | exact Or.inr rfl) (hf : X.fn x = true ∨ X.env.scope.names.lookup x = some .local := by first | exact .inl rfl | exact .inr rfl) : VGt X c [i] (.Name x pos) (gName i) (vgName c i) :=
  ⟨pg_name nd hi hl hf, fun f Hb env σ H d v Q Q' R h q k => k _ _ _ _ (Same.refl _) (R.setVal h q.1) ⟨List.length_set, fun j hj => List.getElem?_set_ne (fun z => hj (by rw [z]; exact List.mem_singleton.mpr rfl))⟩ q.2⟩
@[simp] def vgNil : VGs := fun ds env Q => ds = [] ∧ Q env
@[simp] def vgCons (g : VG) (u : VGs) : VGs := fun ds env Q => match ds with
  | d :: r => g d env fun env1 => u r env1 Q
  | [] => False
theorem vgs_nil : VGts X c [] [] gNil vgNil := ⟨pgs_nil, fun f Hb env σ H ds vs Q Q' R h q k => by
  obtain ⟨rfl, q⟩ := q
  cases h
  exact ⟨rfl, k _ _ _ _ (Same.refl _) R (.refl _ _) q⟩⟩
theorem vgs_cons {e : Expr} {es : List Expr} {g : TG} {u : TGs} {vg : VG} {vu : VGs} {s1 s2 : List Nat} (h : VGt X c s1 e g vg) (r : VGts X c s2 es u vu) (hs : (assignEach (e :: es) X.env).map (·.2) = assign e X.env :: (assignEach es X.env).map (·.2) := by rfl) : VGts X c (s1 ++ s2) (e :: es) (gCons g u) (vgCons vg vu) := by
  refine ⟨pgs_cons h.pg r.pg hs, fun f Hb env σ H ds vs Q Q' R h1 q k => ?_⟩
  cases ds with
  | nil => exact False.elim q
  | cons d ds =>
    cases h1 with
    | cons a b =>
      refine ⟨_, _, rfl, ?_⟩
      refine h.sim f Hb env σ H d _ _ _ R a q fun env1 σ1 H1 Hb1 s1 R1 n1 q1 => ?_
      exact r.sim f Hb1 env1 σ1 H1 ds _ Q Q' R1 (b.mn s1) q1 fun env2 σ2 H2 Hb2 s2 R2 n2 q2 => k env2 σ2 H2 Hb2 (s1.trans s2) R2 ⟨n2.1.trans n1.1, fun j hj => (n2.2 j fun z => hj (List.mem_append_right _ z)).trans (n1.2 j fun z => hj (List.mem_append_left _ z))⟩ q2
@[simp] def vgTup (n : Nat) (u : VGs) : VG := fun d env Q => match d with
  | .tup ds => ds.length = n ∧ u ds env Q
  | _ => False
theorem vg_tup {es : List Expr} {x1 n : Nat} {pos : Pos} {u : TGs} {vu : VGs} {ss : List Nat} (h : VGts X c ss es u vu) (hc : X.calm = true := by rfl) (hn : (assignEach es X.env).length = n := by rfl) (hst : (assignEach es X.env).findIdx? (·.1) = none := by rfl) : VGt X c ss (.Tuple es x1 pos) (gTup X.K n u) (vgTup n vu) := by
  refine ⟨pg_tup hc h.pg hn hst, fun f Hb env σ H d v Q Q' R h1 q k => ?_⟩
  unfold vgTup at q
  split at q
  · cases h1 with
    | tup s r =>
      exact ⟨_, _, rfl, same_seqT R.sub s, by rw [r.length]; exact q.1, h.sim f Hb env σ H _ _ Q Q' R r q.2 k⟩
  · exact q.elim
/-- xs[i] = .. , xs an owned list -/
@[simp] def vgSub (to ti : VT) : VG := fun d env Q => to env (fun w1 env1 => ti env1 (fun w2 env2 => match w1, w2 with
  | .cel j, .val (.int i) => match env2[j]? with
    | some (some (.own (.lst ds))) => ∃ n, ixN ds.length i = some n ∧ Q (env2.set j (some (.own (.lst (ds.set n d)))))
    | _ => False
  | _, _ => False) fun _ _ _ => False) fun _ _ _ => False
/-- an owned list is written -/
theorem Rl.write {f : Fm} {Hb H : Hp} {env : Env} {σ : L2.St} {j : Nat} {ds es : List D} {vs : List V} {a : Addr} (R : Rl K c f Hb env σ H) (hj : env[j]? = some (some (.own (.lst ds)))) (hs : σ[j]? = some (some (.ref a))) (r : RpL K Hb es vs) : Rl K c f Hb (env.set j (some (.own (.lst es)))) σ (upd H a (.lst vs)) := by
  obtain ⟨a', h1, h2, h3, h4⟩ := R.own hj
  rw [hs] at h1; cases h1
  refine ⟨by simpa using R.len, fun {i d} e => ?_, fun {i oc} e => ?_, fun {i k o1 o2 b} e1 e2 e3 e4 => ?_, fun b o e => ?_, fun b o e => ?_, R.frb, fun P hP => ?_, R.fix⟩
  · rcases set_get e with ⟨_, e2⟩ | ⟨ne, e2⟩
    · cases e2
    · exact R.val e2
  · rcases set_get e with ⟨ee, e2⟩ | ⟨ne, e2⟩
    · cases e2
      subst ee
      exact ⟨a, hs, h2, h3, vs, upd_same, r⟩
    · obtain ⟨b, g1, g2, g3, g4⟩ := R.own e2
      have nb : b ≠ a := by
        rintro rfl
        exact ne (R.inj hj e2 hs g1)
      exact ⟨b, g1, g2, g3, g4.mn (Same.refl _) fun o q => by rw [upd_ne nb]; exact q⟩
  · have own : ∀ {k : Nat} {o : OC}, (env.set j (some (.own (.lst es))))[k]? = some (some (.own o)) → ∃ o', env[k]? = some (some (.own o')) := fun {k o} e => by
      rcases set_get e with ⟨ee, e2⟩ | ⟨ne, e2⟩
      · subst ee; exact ⟨_, hj⟩
      · exact ⟨_, e2⟩
    obtain ⟨_, y1⟩ := own e1
    obtain ⟨_, y2⟩ := own e2
    exact R.inj y1 y2 e3 e4
  · rw [upd_ne (ne_of_none e h2)]; exact R.sub _ _ e
  · rw [upd_ne (ne_of_none e h3)]; exact R.frm _ _ e
  · obtain ⟨t1, t2, t3⟩ := R.tab P hP
    obtain ⟨ps, e, z⟩ := id t1
    exact ⟨⟨ps, by rw [upd_ne (h4.notab t1)]; exact e, z⟩, t2, t3⟩
theorem vg_sub {o i : Expr} {to ti : TE} {vo vi : VT} {pos : Pos} (ho : VE X c Wx o to vo) (hi : VE X c Wx i ti vi)
    (ha : ∀ v, assign (.Subscript o i pos) X.env v = (do
      let ov ← holding [v] (eval o X.env)
      let iv ← holding [v, ov] (eval i X.env)
      standAt pos
      holding [v, ov, iv] (setItem ov iv v)
      release [v, ov, iv] []) := by intro _; rfl) : VGt X c [] (.Subscript o i pos) (gSub to ti rSetL) (vgSub vo vi) := by
  refine ⟨pg_sub ho.pe hi.pe set_list ha, fun f Hb env σ H d v Q Q' R h q k => ?_⟩
  have px : ∀ Hb, PX X.K c f Wx Hb σ fun _ _ _ => False := fun Hb C fs env' d H' Hb' s R x z => z.elim
  refine ho.sim f Hb env σ H _ _ _ R q (px _) fun w1 env1 v1 H1 Hb1 s1 R1 r1 q1 => ?_
  refine hi.sim f Hb1 env1 σ H1 _ _ _ R1 q1 (px _) fun w2 env2 v2 H2 Hb2 s2 R2 r2 q2 => ?_
  split at q2
  · rename_i j i
    split at q2
    · rename_i ds hj
      obtain ⟨n, hn, q2⟩ := q2
      have r1 : σ[j]? = some (some v1) := r1
      obtain ⟨a, h1, h2, h3, vs, ha, hr⟩ := R2.own hj
      rw [r1] at h1; cases h1
      cases r2
      refine ⟨a, vs, _, n, rfl, rfl, ha, by rw [hr.length]; exact hn, ?_⟩
      exact k _ _ _ _ (s1.trans s2) (R2.write hj r1 (hr.set n (h.mn (s1.trans s2)))) (.refl _ _) q2
    · exact q2.elim
  · exact q2.elim

/-! ### small statements -/
@[simp] def vAsg (t : VT) (g : VG) : VS := fun DV env => t env (fun w env1 => fz w env1 fun d env2 => g d env2 DV.nx) DV.ex
theorem vst_asg {tg e : Expr} {te : TE} {t : VT} {g : TG} {vg : VG} {pos : Pos} {ss : List Nat} (he : VE X c Wx e te t) (hg : VGt X c ss tg g vg) (hs : swapsWithSole [tg] e pos.line X.env = pure false := by rfl) (hw : swappedStores [tg] e X.env = pure none := by rfl)
    (h1 : (assignEach [tg] X.env).map (·.2) = [assign tg X.env] := by rfl) : VSt X c Wx (.Assign [tg] e pos) (tAsg te g) (vAsg t vg) := by
  refine ⟨ps_asg he.pe hg.pg hs hw h1, fun f Hb env σ H DV D R q e => ?_⟩
  refine he.sim f Hb env σ H _ _ _ R q e.px fun w1 env1 v1 H1 Hb1 s1 R1 r1 q1 => ?_
  obtain ⟨d, env2, Hb2, s2, R2, r2, q2⟩ := R1.fz r1 q1
  exact hg.sim f Hb2 env2 σ H1 d v1 _ _ R2 r2 q2 fun env3 σ3 H3 Hb3 s3 R3 _ q3 => e.nx _ _ _ _ ((s1.trans s2).trans s3) R3 q3
/-- a name takes what is new (owned) -/
@[simp] def vOwn (c : VC) (i : Nat) (t : VT) : VS := fun DV env => t env (fun w env1 => i ∉ c.fx ∧ match w with
  | .tmp oc => DV.nx (env1.set i (some (.own oc)))
  | .val d => DV.nx (env1.set i (some (.val d)))
  | .cel _ => False) DV.ex
theorem vst_own {x : Str} {e : Expr} {te : TE} {t : VT} {pos pos' : Pos} (i : Nat) (nd : X.N.Nodup) (he : VE X c Wx e te t) (hi : X.N[i]? = some x := by rfl) (hl : L2.Loc X.env.scope x := by first | exact Or.inl rfl | exact Or.inr rfl) (hs : swapsWith e (some (.Name x pos')) pos.line X.env = pure false := by rfl) (hf : X.fn x = true ∨ X.env.scope.names.lookup x = some .local := by first | exact .inl rfl | exact .inr rfl) :
    VSt X c Wx (.Assign [.Name x pos'] e pos) (tAsg te (gName i)) (vOwn c i t) := by
  refine ⟨ps_set nd hi hl he.pe hs hf, fun f Hb env σ H DV D R q e => ?_⟩
  refine he.sim f Hb env σ H _ _ _ R q e.px fun w1 env1 v1 H1 Hb1 s1 R1 r1 q1 => ?_
  obtain ⟨hi, q1⟩ := q1
  cases w1 with
  | tmp oc => exact e.nx _ _ _ _ s1 (R1.setOwn r1 hi) q1
  | val d => exact e.nx _ _ _ _ s1 (R1.setVal r1 hi) q1
  | cel j => exact q1.elim
/-- a name takes a value -/
@[simp] def vSet (c : VC) (i : Nat) (t : VT) : VS := fun DV env => t env (fun w env1 => i ∉ c.fx ∧ fz w env1 fun d env2 => DV.nx (env2.set i (some (.val d)))) DV.ex
theorem vst_set {x : Str} {e : Expr} {te : TE} {t : VT} {pos pos' : Pos} (i : Nat) (nd : X.N.Nodup) (he : VE X c Wx e te t) (hi : X.N[i]? = some x := by rfl) (hl : L2.Loc X.env.scope x := by first | exact Or.inl rfl | exact Or.inr rfl) (hs : swapsWith e (some (.Name x pos')) pos.line X.env = pure false := by rfl) (hf : X.fn x = true ∨ X.env.scope.names.lookup x = some .local := by first | exact .inl rfl | exact .inr rfl) :
    VSt X c Wx (.Assign [.Name x pos'] e pos) (tAsg te (gName i)) (vSet c i t) := by
  refine ⟨ps_set nd hi hl he.pe hs hf, fun f Hb env σ H DV D R q e => ?_⟩
  refine he.sim f Hb env σ H _ _ _ R q e.px fun w1 env1 v1 H1 Hb1 s1 R1 r1 q1 => ?_
  obtain ⟨hi, q1⟩ := q1
  obtain ⟨d, env2, Hb2, s2, R2, r2, q2⟩ := R1.fz r1 q1
  exact e.nx _ _ _ _ (s1.trans s2) (R2.setVal r2 hi) q2
/-- a, b = x, y with plain local names -/
@[simp] def vPar (c : VC) (i j : Nat) (t : VTA) : VS := fun DV env => t env (fun ws env1 => (i ∉ c.fx ∧ j ∉ c.fx) ∧ fzs ws env1 fun ds env2 => match ds with
  | [a, b] => DV.nx ((env2.set i (some (.val a))).set j (some (.val b)))
  | _ => False) DV.ex
theorem vst_par {x y : Str} {a b : Expr} {ta : TA} {va : VTA} {px py pt : Pos} {kt k2 : Nat} {pt2 pos : Pos} (i j : Nat) (nd : X.N.Nodup) (ha : VA X c Wx [a, b] ta va) (hc : X.calm = true := by rfl) (hi : X.N[i]? = some x := by rfl) (hj : X.N[j]? = some y := by rfl) (hij : i ≠ j := by decide)
    (hx : X.env.scope.names.lookup x = some .local := by rfl) (hy : X.env.scope.names.lookup y = some .local := by rfl)
    (hw : swappedStores [.Tuple [.Name x px, .Name y py] kt pt] (.Tuple [a, b] k2 pt2) X.env = pure (some [x, y]) := by rfl)
    (hs : swapsWithSole [.Tuple [.Name x px, .Name y py] kt pt] (.Tuple [a, b] k2 pt2) pos.line X.env = pure false := by rfl) :
    VSt X c Wx (.Assign [.Tuple [.Name x px, .Name y py] kt pt] (.Tuple [a, b] k2 pt2) pos) (tPar i j ta) (vPar c i j va) := by
  refine ⟨ps_par hc nd hi hj hij hx hy ha.pa hw hs, fun f Hb env σ H DV D R q e => ?_⟩
  refine ha.sim f Hb env σ H _ _ _ R q e.px fun ws env1 vs H1 Hb1 s1 R1 r1 q1 => ?_
  obtain ⟨⟨hi, hj⟩, q1⟩ := q1
  obtain ⟨ds, env2, Hb2, s2, R2, r2, q2⟩ := R1.fzs r1 q1
  split at q2
  · rename_i a b
    cases r2 with
    | cons pa r2 =>
      cases r2 with
      | cons pb r2 =>
        cases r2
        exact ⟨_, _, rfl, e.nx _ _ _ _ (s1.trans s2) ((R2.setVal pa hi).setVal pb hj) q2⟩
  · exact q2.elim
@[simp] def vDrop (t : VT) : VS := fun DV env => t env (fun _ env1 => DV.nx env1) DV.ex
theorem vst_expr {e : Expr} {te : TE} {t : VT} {pos : Pos} (he : VE X c Wx e te t) (hs : swapsWith e none pos.line X.env = pure false := by rfl) : VSt X c Wx (.Expr e pos) (tDrop te) (vDrop t) :=
  ⟨ps_expr he.pe hs, fun f Hb env σ H DV D R q e => he.sim f Hb env σ H _ _ _ R q e.px fun w1 env1 v1 H1 Hb1 s1 R1 r1 q1 => e.nx _ _ _ _ s1 R1 q1⟩
theorem vst_doc {x : Str} {j : Nat} {pos pos' : Pos} : VSt X c Wx (.Expr (.Constant (.str x) j pos) pos') tNext vNext := ⟨ps_doc, fun f Hb env σ H DV D R q e => e.nx _ _ _ _ (Same.refl _) R q⟩
theorem vst_pass {pos : Pos} : VSt X c Wx (.Pass pos) tNext vNext := ⟨ps_pass, fun f Hb env σ H DV D R q e => e.nx _ _ _ _ (Same.refl _) R q⟩
@[simp] def vBreak : VS := fun DV env => DV.bk env
@[simp] def vCont : VS := fun DV env => DV.ct env
theorem vst_break {pos : Pos} : VSt X c Wx (.Break pos) tBreak vBreak := ⟨ps_break, fun f Hb env σ H DV D R q e => e.bk _ _ _ _ (Same.refl _) R q⟩
theorem vst_cont {pos : Pos} : VSt X c Wx (.Continue pos) tCont vCont := ⟨ps_continue, fun f Hb env σ H DV D R q e => e.ct _ _ _ _ (Same.refl _) R q⟩
/-- return: a local list goes out as a new one -/
@[simp] def vRet (c : VC) (t : VT) : VS := fun DV env => t env (fun w env1 => match w with
  | .val d => DV.rt (.val d) env1
  | .tmp oc => DV.rt (.tmp oc) env1
  | .cel i => i ∉ c.fx ∧ match env1[i]? with
    | some (some (.own oc)) => DV.rt (.tmp oc) (env1.set i none)
    | _ => False) DV.ex
theorem Rl.unset {f : Fm} {Hb H : Hp} {env : Env} {σ : L2.St} (R : Rl K c f Hb env σ H) (i : Nat) : Rl K c f Hb (env.set i none) σ H := by
  refine ⟨by simpa using R.len, fun {j d} e => ?_, fun {j oc'} e => ?_, fun {j k o1 o2 b} e1 e2 e3 e4 => ?_, R.sub, R.frm, R.frb, R.tab, R.fix⟩
  · rcases set_get e with ⟨_, e⟩ | ⟨_, e⟩
    · cases e
    · exact R.val e
  · rcases set_get e with ⟨_, e⟩ | ⟨_, e⟩
    · cases e
    · exact R.own e
  · rcases set_get e1 with ⟨_, e1⟩ | ⟨_, e1⟩
    · cases e1
    · rcases set_get e2 with ⟨_, e2⟩ | ⟨_, e2⟩
      · cases e2
      · exact R.inj e1 e2 e3 e4
theorem vst_ret {e : Expr} {te : TE} {t : VT} {pos : Pos} (he : VE X c Wx e te t) : VSt X c Wx (.Return (some e) pos) (tRet te) (vRet c t) := by
  refine ⟨ps_ret he.pe, fun f Hb env σ H DV D R q e => ?_⟩
  refine he.sim f Hb env σ H _ _ _ R q e.px fun w1 env1 v1 H1 Hb1 s1 R1 r1 q1 => ?_
  cases w1 with
  | val d => exact e.rt (.val d) _ _ _ _ _ s1 R1 r1 q1
  | tmp oc => exact e.rt (.tmp oc) _ _ _ _ _ s1 R1 r1 q1
  | cel i =>
    obtain ⟨hi, q1⟩ := q1
    have r1 : σ[i]? = some (some v1) := r1
    split at q1
    · rename_i oc hE
      obtain ⟨a, h1, h2, h3, h4⟩ := R1.own hE
      rw [r1] at h1; cases h1
      refine e.rt (.tmp oc) _ _ _ _ _ s1 (R1.unset i) ⟨a, rfl, h2, h3, h4, fun j oc' ej z => ?_⟩ q1
      rcases set_get ej with ⟨_, ej⟩ | ⟨ne, ej⟩
      · cases ej
      · exact ne (R1.inj hE ej r1 z)
    · exact q1.elim
@[simp] def vRetN : VS := fun DV env => DV.rt (.val .non) env
theorem vst_retN {pos : Pos} : VSt X c Wx (.Return none pos) tRetN vRetN := ⟨ps_retN, fun f Hb env σ H DV D R q e => e.rt (.val .non) _ _ _ _ _ (Same.refl _) R .non q⟩
@[simp] def vIfS (t : VTT) (a b : VS) : VS := fun DV env => t env (fun k env1 => if k = true then a DV env1 else b DV env1) DV.ex
theorem vst_if {t : Expr} {a b : List Stmt} {tt : TT} {ta tb : TS} {vt : VTT} {va vb : VS} {pos : Pos} (ht : VTe X c Wx t tt vt) (ha : VSs X c Wx a ta va) (hb : VSs X c Wx b tb vb) : VSt X c Wx (.If t a b pos) (tIfS tt ta tb) (vIfS vt va vb) := by
  refine ⟨ps_if ht.pt ha.ps hb.ps, fun f Hb env σ H DV D R q e => ?_⟩
  refine ht.sim f Hb env σ H _ _ _ R q e.px fun b env1 H1 Hb1 s1 R1 q1 => ?_
  cases b with
  | true =>
    rw [if_pos rfl] at q1 ⊢
    exact ha.sim f Hb1 env1 σ H1 DV D R1 q1 (e.mn s1)
  | false =>
    rw [if_neg Bool.false_ne_true] at q1 ⊢
    exact hb.sim f Hb1 env1 σ H1 DV D R1 q1 (e.mn s1)
def vNever : VS := fun _ _ => False
theorem vst_never {st : Stmt} : VSt X c Wx st tNever vNever := ⟨ps_never, fun f Hb env σ H DV D R q e => q.elim⟩

/-! ### while -/
def vWhile (t : VTT) (b : VS) : VS := fun DV env => ∃ I : Nat → Env → Prop, (∃ m, I m env) ∧ ∀ m env, I m env →
  t env (fun k env1 => if k = true then b { DV with nx := fun e => ∃ m', m' < m ∧ I m' e, ct := fun e => ∃ m', m' < m ∧ I m' e, bk := DV.nx } env1 else DV.nx env1) DV.ex
theorem vst_while {t : Expr} {b : List Stmt} {tt : TT} {tb : TS} {vt : VTT} {vb : VS} {pos : Pos} (hp : PassesOwn (model X.prog X.w) X.A X.env X.xe) (ht : VTe X c Wx t tt vt) (hb : VSs X c Wx b tb vb) : VSt X c Wx (.While t b [] pos) (tWhile tt tb) (vWhile vt vb) := by
  refine ⟨ps_while hp ht.pt hb.ps, fun f Hb env σ H DV D R q e => ?_⟩
  obtain ⟨I, ⟨m0, i0⟩, turn⟩ := q
  refine ⟨fun m σ' H' => ∃ env' Hb', Same Hb Hb' ∧ Rl X.K c f Hb' env' σ' H' ∧ I m env', ⟨m0, env, Hb, Same.refl _, R, i0⟩, ?_⟩
  rintro m σ1 H1 ⟨env1, Hb1, s1, R1, i1⟩
  have e1 := e.mn s1
  refine ht.sim f Hb1 env1 σ1 H1 _ _ _ R1 (turn m env1 i1) e1.px fun b env2 H2 Hb2 s2 R2 q2 => ?_
  cases b with
  | true =>
    rw [if_pos rfl] at q2 ⊢
    have nxt : ∀ env' σ' H' Hb', Same Hb2 Hb' → Rl X.K c f Hb' env' σ' H' → (∃ m', m' < m ∧ I m' env') → ∃ m', m' < m ∧ ∃ env'' Hb'', Same Hb Hb'' ∧ Rl X.K c f Hb'' env'' σ' H' ∧ I m' env'' :=
      fun env' σ' H' Hb' s R' q' => let ⟨m', h1, h2⟩ := q'; ⟨m', h1, env', Hb', (s1.trans s2).trans s, R', h2⟩
    refine ⟨fun σ' H' => ∃ m', m' < m ∧ ∃ env'' Hb'', Same Hb Hb'' ∧ Rl X.K c f Hb'' env'' σ' H' ∧ I m' env'', fun σ' H' z => z, ?_⟩
    exact hb.sim f Hb2 env2 σ1 H2 _ _ R2 q2 ⟨nxt, (e1.mn s2).rt, (e1.mn s2).nx, nxt, (e1.mn s2).ex⟩
  | false =>
    rw [if_neg Bool.false_ne_true] at q2 ⊢
    exact e1.nx _ _ _ _ s2 R2 q2

/-! ### what is walked -/
/-- the iterator J gives these items, while the base stands -/
structure ItOk (K : PySem.W.Frag) (J : It) (Hb : Hp) (items : List D) : Prop where
  go : ∀ i Hb2 H2, Same Hb Hb2 → Same Hb2 H2 → i < items.length → J.go i H2
  stop : ∀ i Hb2 H2, Same Hb Hb2 → Same Hb2 H2 → items.length ≤ i → J.stop i H2
  yld : ∀ i d x Hb2 H2 H3, Same Hb Hb2 → Same Hb2 H2 → items[i]? = some d → J.yld i H2 x H3 → ∃ Hb3, ExtH Hb2 H2 Hb3 H3 ∧ Rp K Hb3 d x
abbrev VI := Env → (List D → Env → Prop) → VX → Prop
def SimI (K : PySem.W.Frag) (c : VC) (Wx : WX) (wi : TI) (vi : VI) : Prop := ∀ (f : Fm) (Hb : Hp) (env : Env) (σ : L2.St) (H : Hp) (Q : List D → Env → Prop) (QX : VX) (R' : It → Hp → Prop), Rl K c f Hb env σ H → vi env Q QX → PX K c f Wx Hb σ QX →
  (∀ items env' J H' Hb', Same Hb Hb' → Rl K c f Hb' env' σ H' → ItOk K J Hb' items → Q items env' → R' J H') → wi σ H R'
structure VIt (X : Cx) (c : VC) (Wx : WX) (tg iter : Expr) (wi : TI) (vi : VI) : Prop where
  pi : PI X tg iter wi
  sim : SimI X.K c Wx wi vi
def loopF (g : VG) (b : VS) (DV : VEnds) : List D → Env → Prop
  | [], env => DV.nx env
  | d :: ds, env => g d env fun env1 => b { DV with nx := loopF g b DV ds, ct := loopF g b DV ds, bk := DV.nx } env1
@[simp] def vFor (vi : VI) (g : VG) (b : VS) : VS := fun DV env => vi env (fun items env1 => loopF g b DV items env1) DV.ex
theorem vst_for {tg iter : Expr} {b : List Stmt} {wi : TI} {g : TG} {tb : TS} {vi : VI} {vg : VG} {vb : VS} {pos : Pos} (hp : PassesOwn (model X.prog X.w) X.A X.env X.xe) {ss : List Nat} (hi : VIt X c Wx tg iter wi vi) (hg : VGt X c ss tg g vg) (hb : VSs X c Wx b tb vb) (hc : X.calm = true := by rfl)
    (hs : ∀ x, foldedSetIterable iter X.env x = pure x := by intro _; rfl) : VSt X c Wx (.For tg iter b [] pos) (tFor wi g tb) (vFor vi vg vb) := by
  refine ⟨ps_for hp hc hi.pi hg.pg hb.ps hs, fun f Hb env σ H DV D R q e => ?_⟩
  refine hi.sim f Hb env σ H _ _ _ R q e.px fun items env0 J H0 Hb0 s0 R0 it q0 => ?_
  refine ⟨fun i m σ' H' => ∃ env' Hb', Same Hb0 Hb' ∧ Rl X.K c f Hb' env' σ' H' ∧ m = items.length - i ∧ i ≤ items.length ∧ loopF vg vb DV (items.drop i) env', ⟨items.length, env0, Hb0, Same.refl _, R0, by simp, Nat.zero_le _, q0⟩, ?_⟩
  rintro i m σ1 H1 ⟨env1, Hb1, s1, R1, rfl, hi1, q1⟩
  have e1 := e.mn (s0.trans s1)
  by_cases hlt : i < items.length
  · rw [List.drop_eq_getElem_cons hlt] at q1
    refine .inr ⟨it.go i Hb1 H1 s1 R1.sub hlt, fun σ' H' => ∃ env' Hb', Same Hb0 Hb' ∧ Rl X.K c f Hb' env' σ' H' ∧ loopF vg vb DV (items.drop (i + 1)) env', fun σ' H' z => ?_, fun x H2 hy => ?_⟩
    · obtain ⟨env', Hb', z1, z2, z3⟩ := z
      exact ⟨items.length - (i + 1), by omega, env', Hb', z1, z2, rfl, hlt, z3⟩
    · obtain ⟨Hb2, x2, r2⟩ := it.yld i _ x Hb1 H1 H2 s1 R1.sub (List.getElem?_eq_getElem hlt) hy
      refine hg.sim f Hb2 env1 σ1 H2 _ x _ _ (R1.ext x2) r2 q1 fun env3 σ3 H3 Hb3 s3 R3 _ q3 => ?_
      have e3 := e1.mn (x2.b.trans s3)
      have nxt : ∀ env' σ' H' Hb', Same Hb3 Hb' → Rl X.K c f Hb' env' σ' H' → loopF vg vb DV (items.drop (i + 1)) env' → ∃ env'' Hb'', Same Hb0 Hb'' ∧ Rl X.K c f Hb'' env'' σ' H' ∧ loopF vg vb DV (items.drop (i + 1)) env'' :=
        fun env' σ' H' Hb' s R' q' => ⟨env', Hb', (s1.trans (x2.b.trans s3)).trans s, R', q'⟩
      exact hb.sim f Hb3 env3 σ3 H3 _ _ R3 q3 ⟨nxt, e3.rt, e3.nx, nxt, e3.ex⟩
  · have hi2 : i = items.length := by omega
    rw [hi2, List.drop_length] at q1
    exact .inl ⟨it.stop i Hb1 H1 s1 R1.sub (by omega), e1.nx _ _ _ _ (Same.refl _) R1 q1⟩
end
end VL

set_option Elab.async false
set_option linter.all false
set_option maxRecDepth 100000
set_option maxHeartbeats 4000000
/-! VL6: what is walked, comprehensions, append, a def by its body. -/
namespace VL
open PySem PySem.Spec PyProof.Rows L2
section
variable {K : PySem.W.Frag} {c : VC} {Wx : WX} {X : Cx}

/-! ### a list, a tuple, a text -/
def iSeq (K : PySem.W.Frag) (te : TE) : TI := fun σ H R => te σ H fun x H1 => (∃ a, x = .ref a ∧ (∃ xs, SqL K H1 a xs) ∧ R (Itl K a) H1) ∨ (∃ a, x = .ref a ∧ (∃ xs, SqT K H1 a xs) ∧ R (Itt K a) H1) ∨ (∃ z, x = .str z ∧ R (Its z) H1)
theorem thn_run {e : Expr} {te : TE} (he : PE X e te) {pins : List (Addr × Obj)} {s : Shared} {σ : L2.St} {H : Hp} {P : VK} (I : Inv X pins σ H s) (h : te σ H P) : wpAny (model X.prog X.w) X.A (eval e X.env) (EP X pins σ P) X.xe s := he.run pins s σ H P I h
theorem pi_seq {tg l : Expr} {tl : TE} (hl : PE X l tl) : PI X tg l (iSeq X.K tl) := by
  refine ⟨fun pins s σ H R I h => ?_⟩
  refine thn (hl.run pins s σ H _ I h) fun v s1 ⟨x, H1, I1, r1, q1⟩ => ?_
  -- each by its own rule, from a constant that gives x
  rcases q1 with ⟨a, e, ⟨xs, hq⟩, q⟩ | ⟨a, e, ⟨xs, hq⟩, q⟩ | ⟨z, e, q⟩
  · subst e
    cases r1
    obtain ⟨its, rv, p, hz⟩ := I1.list hq
    refine wpAny_pyIter_list p.isList ?_
    refine ⟨s1.heap.objs.size, [s1.heap.objs.size], _, _, H1, rfl, I1.kept (t' := s1.toks) fun b o e => Heap.get?_push_of_some _ e, turn_list a _, ⟨_, Heap.get?_push_size _ rfl, rfl, rfl⟩, fun b hb => ?_, q⟩
    have e : b = s1.heap.objs.size := by simpa using hb
    subst e
    exact I1.fpOk (Nat.le_refl _) (I1.hok.fresh (Nat.le_refl _))
  · subst e
    cases r1
    obtain ⟨its, rv, p, hz⟩ := I1.tuple hq
    refine wpAny_pyIter_tuple (show s1.heap.IsTuple a its.toArray from p) ?_
    refine ⟨s1.heap.objs.size, [s1.heap.objs.size], _, _, H1, rfl, I1.kept (t' := s1.toks) fun b o e => Heap.get?_push_of_some _ e, turn_tuple a _, ⟨_, Heap.get?_push_size _ rfl, rfl, rfl⟩, fun b hb => ?_, q⟩
    have e : b = s1.heap.objs.size := by simpa using hb
    subst e
    exact I1.fpOk (Nat.le_refl _) (I1.hok.fresh (Nat.le_refl _))
  · subst e
    obtain ⟨t, rfl⟩ := r1
    cases ha : z.cps.all (· < 128)
    · exact wpAny_pyIter_wide ha (pi_one (tk := s1.toks) I1 _ (turn_str _ z t "str_iterator" (.inr rfl)) ⟨_, Heap.get?_push_size _ rfl, rfl, rfl⟩ q)
    · exact wpAny_pyIter_ascii ha (pi_one (tk := s1.toks) I1 _ (turn_str _ z t "str_ascii_iterator" (.inl rfl)) ⟨_, Heap.get?_push_size _ rfl, rfl, rfl⟩ q)
@[simp] def seqItems (d : D) (k : List D → Prop) : Prop := match d with
  | .lst ds => k ds
  | .tup ds => k ds
  | .str z => k (z.cps.toList.map fun n => .str ⟨#[n]⟩)
  | _ => False
@[simp] def vSeqI (t : VT) : VI := fun env Q QX => t env (fun w env1 => fz w env1 fun d env2 => seqItems d fun ds => Q ds env2) QX
theorem itOk_l {Hb : Hp} {a : Addr} {vs : List V} {ds : List D} (s : Hb a = some (.lst vs)) (r : RpL K Hb ds vs) : ItOk K (Itl K a) Hb ds := by
  have sq : ∀ {Hb2 H2 : Hp}, Same Hb Hb2 → Same Hb2 H2 → SqL K H2 a vs := fun s1 s2 => .of (s2 _ _ (s1 _ _ s))
  have hl := r.length
  refine ⟨fun i Hb2 H2 s1 s2 hi => ⟨vs, vs[i]'(by omega), sq s1 s2, List.getElem?_eq_getElem _⟩, fun i Hb2 H2 s1 s2 hi => ⟨vs, sq s1 s2, by omega⟩, fun i d x Hb2 H2 H3 s1 s2 hd hy => ?_⟩
  obtain ⟨rfl, hy⟩ := hy
  obtain ⟨v, h1, h2⟩ := r.get hd
  rw [hy vs (sq s1 s2)] at h1; cases h1
  exact ⟨Hb2, .refl s2, h2.mn s1⟩
theorem itOk_t {Hb : Hp} {a : Addr} {vs : List V} {ds : List D} (s : SqT K Hb a vs) (r : RpL K Hb ds vs) : ItOk K (Itt K a) Hb ds := by
  have sq : ∀ {Hb2 H2 : Hp}, Same Hb Hb2 → Same Hb2 H2 → SqT K H2 a vs := fun s1 s2 => same_seqT (s1.trans s2) s
  have hl := r.length
  refine ⟨fun i Hb2 H2 s1 s2 hi => ⟨vs, vs[i]'(by omega), sq s1 s2, List.getElem?_eq_getElem _⟩, fun i Hb2 H2 s1 s2 hi => ⟨vs, sq s1 s2, by omega⟩, fun i d x Hb2 H2 H3 s1 s2 hd hy => ?_⟩
  obtain ⟨rfl, hy⟩ := hy
  obtain ⟨v, h1, h2⟩ := r.get hd
  rw [hy vs (sq s1 s2)] at h1; cases h1
  exact ⟨Hb2, .refl s2, h2.mn s1⟩
theorem itOk_str {Hb : Hp} {z : Str} : ItOk K (Its z) Hb (z.cps.toList.map fun n => .str ⟨#[n]⟩) := by
  refine ⟨fun i Hb2 H2 s1 s2 hi => by show i < z.cps.size; simpa using hi, fun i Hb2 H2 s1 s2 hi => by show z.cps.size ≤ i; simpa using hi, fun i d x Hb2 H2 H3 s1 s2 hd hy => ?_⟩
  obtain ⟨rfl, n, hn, rfl⟩ := hy
  have hn' : z.cps.toList[i]? = some n := by rw [Array.getElem?_toList]; exact hn
  rw [List.getElem?_map, hn'] at hd
  cases hd
  exact ⟨Hb2, .refl s2, .str _⟩
theorem vi_seq {tg e : Expr} {te : TE} {t : VT} (h : VE X c Wx e te t) : VIt X c Wx tg e (iSeq X.K te) (vSeqI t) := by
  refine ⟨pi_seq h.pe, fun f Hb env σ H Q QX R' R q px k => ?_⟩
  refine h.sim f Hb env σ H _ QX _ R q px fun w1 env1 v1 H1 Hb1 s1 R1 r1 q1 => ?_
  obtain ⟨d, env2, Hb2, s2, R2, r2, q2⟩ := R1.fz r1 q1
  unfold seqItems at q2
  split at q2
  · cases r2 with
    | lst s r => exact .inl ⟨_, rfl, ⟨_, .of (R2.sub _ _ s)⟩, k _ _ _ _ _ (s1.trans s2) R2 (itOk_l s r) q2⟩
  · cases r2 with
    | tup s r => exact .inr (.inl ⟨_, rfl, ⟨_, same_seqT R2.sub s⟩, k _ _ _ _ _ (s1.trans s2) R2 (itOk_t s r) q2⟩)
  · cases r2
    exact .inr (.inr ⟨_, rfl, k _ _ _ _ _ (s1.trans s2) R2 itOk_str q2⟩)
  · exact q2.elim

/-! ### range -/
@[simp] def vRng1 (t : VTA) : VI := fun env Q QX => t env (fun ws env1 => match ws with
  | [.val (.int j)] => (-(2 ^ 62) ≤ j ∧ j < 2 ^ 62) ∧ Q ((List.range j.toNat).map fun k => .int (k : Nat)) env1
  | _ => False) QX
@[simp] def vRng2 (t : VTA) : VI := fun env Q QX => t env (fun ws env1 => match ws with
  | [.val (.int i), .val (.int j)] => (-(2 ^ 62) ≤ i ∧ i < 2 ^ 62 ∧ -(2 ^ 62) ≤ j ∧ j < 2 ^ 62) ∧ Q ((List.range (j - i).toNat).map fun k => .int (i + (k : Nat))) env1
  | _ => False) QX
theorem itOk_r {Hb : Hp} {lo : Int} {n : Nat} : ItOk K (Itr lo n) Hb ((List.range n).map fun k => .int (lo + (k : Nat))) := by
  refine ⟨fun i Hb2 H2 s1 s2 hi => by show i < n; simpa using hi, fun i Hb2 H2 s1 s2 hi => by show n ≤ i; simpa using hi, fun i d x Hb2 H2 H3 s1 s2 hd hy => ?_⟩
  obtain ⟨rfl, rfl⟩ := hy
  rw [List.getElem?_map] at hd
  cases q : (List.range n)[i]? with
  | none => rw [q] at hd; cases hd
  | some k =>
    rw [q] at hd
    cases hd
    obtain ⟨h1, h2⟩ := List.getElem?_eq_some_iff.mp q
    rw [List.getElem_range] at h2
    subst h2
    exact ⟨Hb2, .refl s2, .int _⟩
theorem vi_range1 {tg a : Expr} {ta : TA} {t : VTA} {p pos : Pos} (hm : X.mg "range" = none) (ha : VA X c Wx [a] ta t) (hg : Gl X "range" := by rfl) (hs : starEach [a] X.env = [(false, eval a X.env)] := by rfl) : VIt X c Wx tg (.Call (.Name "range" p) [a] [] pos) (iRng1 ta) (vRng1 t) := by
  refine ⟨pi_range1 hg hm ha.pa hs, fun f Hb env σ H Q QX R' R q px k => ?_⟩
  refine ha.sim f Hb env σ H _ QX _ R q px fun ws env1 vs H1 Hb1 s1 R1 r1 q1 => ?_
  split at q1
  · rename_i j
    obtain ⟨v, rfl, r⟩ := paired1 r1
    have r : Rp X.K Hb1 (.int j) v := r
    cases r
    refine ⟨j, rfl, q1.1.1, q1.1.2, k _ _ _ _ _ s1 R1 itOk_r ?_⟩
    have e : ((List.range j.toNat).map fun k => D.int (0 + (k : Nat))) = (List.range j.toNat).map fun k => D.int (k : Nat) := by
      congr 1
      funext k
      rw [Int.zero_add]
    rw [e]
    exact q1.2
  · exact q1.elim
theorem vi_range2 {tg a b : Expr} {ta : TA} {t : VTA} {p pos : Pos} (hm : X.mg "range" = none) (ha : VA X c Wx [a, b] ta t) (hg : Gl X "range" := by rfl) (hs : starEach [a, b] X.env = [(false, eval a X.env), (false, eval b X.env)] := by rfl) (hs2 : starEach [b] X.env = [(false, eval b X.env)] := by rfl) : VIt X c Wx tg (.Call (.Name "range" p) [a, b] [] pos) (iRng2 ta) (vRng2 t) := by
  refine ⟨pi_range2 hg hm ha.pa hs hs2, fun f Hb env σ H Q QX R' R q px k => ?_⟩
  refine ha.sim f Hb env σ H _ QX _ R q px fun ws env1 vs H1 Hb1 s1 R1 r1 q1 => ?_
  split at q1
  · rename_i i j
    obtain ⟨v, v', rfl, r, r'⟩ := paired2 r1
    have r : Rp X.K Hb1 (.int i) v := r
    have r' : Rp X.K Hb1 (.int j) v' := r'
    cases r; cases r'
    exact ⟨i, j, rfl, q1.1, k _ _ _ _ _ s1 R1 itOk_r q1.2⟩
  · exact q1.elim
/-! ### reversed -/
@[simp] def vRev (t : VT) : VI := fun env Q QX => t env (fun w env1 => fz w env1 fun d env2 => match d with
  | .lst ds => Q ds.reverse env2
  | .tup ds => Q ds.reverse env2
  | _ => False) QX
theorem rev_at {Hb : Hp} {ds : List D} {vs : List V} {i : Nat} {d : D} (r : RpL K Hb ds vs) (e : ds.reverse[i]? = some d) : ∃ v, vs[vs.length - 1 - i]? = some v ∧ Rp K Hb d v := by
  obtain ⟨hi, e2⟩ := List.getElem?_eq_some_iff.mp e
  rw [List.length_reverse] at hi
  rw [List.getElem_reverse] at e2
  have hl := r.length
  obtain ⟨v, h1, h2⟩ := r.get (i := ds.length - 1 - i) (d := d) (by rw [← e2]; exact List.getElem?_eq_getElem _)
  exact ⟨v, by rw [hl]; exact h1, h2⟩
theorem itOk_lv {Hb : Hp} {a : Addr} {vs : List V} {ds : List D} (s : Hb a = some (.lst vs)) (r : RpL K Hb ds vs) : ItOk K (Itv K a vs.length) Hb ds.reverse := by
  have sq : ∀ {Hb2 H2 : Hp}, Same Hb Hb2 → Same Hb2 H2 → SqL K H2 a vs := fun s1 s2 => .of (s2 _ _ (s1 _ _ s))
  have hl := r.length
  refine ⟨fun i Hb2 H2 s1 s2 hi => ?_, fun i Hb2 H2 s1 s2 hi => by rw [List.length_reverse] at hi; show vs.length ≤ i; omega, fun i d x Hb2 H2 H3 s1 s2 hd hy => ?_⟩
  · rw [List.length_reverse] at hi
    exact ⟨by omega, vs, vs[vs.length - 1 - i]'(by omega), sq s1 s2, List.getElem?_eq_getElem _⟩
  · obtain ⟨rfl, hy⟩ := hy
    obtain ⟨v, h1, h2⟩ := rev_at r hd
    rw [hy vs (sq s1 s2)] at h1; cases h1
    exact ⟨Hb2, .refl s2, h2.mn s1⟩
theorem itOk_tv {Hb : Hp} {a : Addr} {vs : List V} {ds : List D} (s : SqT K Hb a vs) (r : RpL K Hb ds vs) : ItOk K (RT.ItvT K a vs.length) Hb ds.reverse := by
  have sq : ∀ {Hb2 H2 : Hp}, Same Hb Hb2 → Same Hb2 H2 → SqT K H2 a vs := fun s1 s2 => same_seqT (s1.trans s2) s
  have hl := r.length
  refine ⟨fun i Hb2 H2 s1 s2 hi => ?_, fun i Hb2 H2 s1 s2 hi => by rw [List.length_reverse] at hi; show vs.length ≤ i; omega, fun i d x Hb2 H2 H3 s1 s2 hd hy => ?_⟩
  · rw [List.length_reverse] at hi
    exact ⟨by omega, vs, vs[vs.length - 1 - i]'(by omega), sq s1 s2, List.getElem?_eq_getElem _⟩
  · obtain ⟨rfl, hy⟩ := hy
    obtain ⟨v, h1, h2⟩ := rev_at r hd
    rw [hy vs (sq s1 s2)] at h1; cases h1
    exact ⟨Hb2, .refl s2, h2.mn s1⟩
theorem vi_rev {tg e : Expr} {te : TE} {t : VT} {p pos : Pos} (hm : X.mg "reversed" = none) (h : VE X c Wx e te t) (hg : Gl X "reversed" := by rfl) (hs : starEach [e] X.env = (false, eval e X.env) :: starEach [] X.env := by rfl) : VIt X c Wx tg (.Call (.Name "reversed" p) [e] [] pos) (RT.iRevA X.K te) (vRev t) := by
  refine ⟨RT.pi_revA hg hm h.pe hs, fun f Hb env σ H Q QX R' R q px k => ?_⟩
  refine h.sim f Hb env σ H _ QX _ R q px fun w1 env1 v1 H1 Hb1 s1 R1 r1 q1 => ?_
  obtain ⟨d, env2, Hb2, s2, R2, r2, q2⟩ := R1.fz r1 q1
  split at q2
  · cases r2 with
    | lst s r => exact ⟨_, _, rfl, .inl ⟨.of (R2.sub _ _ s), k _ _ _ _ _ (s1.trans s2) R2 (itOk_lv s r) q2⟩⟩
  · cases r2 with
    | tup s r => exact ⟨_, _, rfl, .inr ⟨same_seqT R2.sub s, k _ _ _ _ _ (s1.trans s2) R2 (itOk_tv s r) q2⟩⟩
  · exact q2.elim

/-! ### append -/
@[simp] def vApp (to : VT) (t : VTA) : VT := fun env Q QX => to env (fun w env1 => match w with
  | .cel j => match env1[j]? with
    | some (some (.own (.lst _))) => t env1 (fun ws env2 => match ws with
      | [w1] => fz w1 env2 fun d env3 => match env3[j]? with
        | some (some (.own (.lst ds))) => ds.length < sizeLine ∧ Q (.val .non) (env3.set j (some (.own (.lst (ds ++ [d])))))
        | _ => False
      | _ => False) QX
    | _ => False
  | _ => False) QX
theorem ve_append {o e : Expr} {to : TE} {vo : VT} {t : TA} {v : VTA} {apos cpos : Pos} (ho : VE X c Wx o to vo) (ha : VA X c Wx [e] t v)
    (hbase : attributeBase o "append" X.env (eval o X.env) = eval o X.env := by rfl)
    (hfew : ((backTo cpos (starEach [e] X.env)).all (fun x => !x.1) && (backToKw cpos (keywordEach [] X.env)).all (fun x => x.1.isSome)
      && decide ([e].length + ([] : List Keyword).length + (if ([] : List Keyword).isEmpty then 0 else 1) < 30)) = true := by rfl)
    (hline : (apos.endLine == cpos.line) = true := by rfl) (hs : starEach [e] X.env = (false, eval e X.env) :: starEach [] X.env := by rfl) (hplain : (backTo cpos (starEach [] X.env)).any (·.1) = false := by rfl) :
    VE X c Wx (.Call (.Attribute o "append" apos) [e] [] cpos) (tBM X.K "list" rAppend to t) (vApp vo v) := by
  refine ⟨pe_bm PySem.F.plainAttrs_list PySem.F.slot_list_append PySem.F.type_list_append mt_append ho.pe ha.pa hbase hfew hline hs hplain, fun f Hb env σ H Q QX Q' R q px k => ?_⟩
  refine ho.sim f Hb env σ H _ QX _ R q px fun w1 env1 v1 H1 Hb1 s1 R1 r1 q1 => ?_
  split at q1
  · rename_i j
    have r1 : σ[j]? = some (some v1) := r1
    split at q1
    · rename_i ds0 hj
      obtain ⟨a, h1, h2, h3, vs, ha1, hr⟩ := R1.own hj
      rw [r1] at h1; cases h1
      refine ⟨.inl ⟨rfl, vs, .of ha1⟩, ?_⟩
      refine ha.sim f Hb1 env1 σ H1 _ QX _ R1 q1 (px.mn s1) fun ws env2 us H2 Hb2 s2 R2 r2 q2 => ?_
      split at q2
      · rename_i w
        obtain ⟨u, rfl, ru⟩ := paired1 r2
        obtain ⟨d, env3, Hb3, s3, R3, r3, q3⟩ := R2.fz (RS.rw ru) q2
        split at q3
        · rename_i ds hj3
          obtain ⟨a', g1, g2, g3, vs3, ha3, hr3⟩ := R3.own hj3
          rw [r1] at g1; cases g1
          refine ⟨a, vs3, u, rfl, rfl, ha3, by rw [hr3.length]; exact q3.1, ?_⟩
          exact k (.val .non) _ _ _ _ ((s1.trans s2).trans s3) (R3.write hj3 r1 (hr3.app (.one r3))) .non q3.2
        · exact q3.elim
      · exact q2.elim
    · exact q1.elim
  · exact q1.elim

/-! ### comprehensions -/
@[simp] def wipeE (env : Env) : List Nat → Env
  | [] => env
  | v :: vs => (wipeE env vs).set v none
@[simp] def restE (env1 env2 : Env) : List Nat → Env
  | [] => env2
  | v :: vs => (restE env1 env2 vs).set v (env1[v]?.getD none)
theorem wipeE_len (env : Env) : ∀ vs : List Nat, (wipeE env vs).length = env.length
  | [] => rfl
  | v :: vs => by simp [wipeE, wipeE_len]
theorem restE_len (env1 env2 : Env) : ∀ vs : List Nat, (restE env1 env2 vs).length = env2.length
  | [] => rfl
  | v :: vs => by simp [restE, restE_len]
theorem wipeE_get (env : Env) : ∀ (vs : List Nat) (j : Nat) (m : M), (wipeE env vs)[j]? = some (some m) → env[j]? = some (some m) ∧ j ∉ vs
  | [], j, m, h => ⟨h, by simp⟩
  | v :: vs, j, m, h => by
    rcases set_get h with ⟨_, e⟩ | ⟨ne, e⟩
    · cases e
    · obtain ⟨h1, h2⟩ := wipeE_get env vs j m e
      exact ⟨h1, by simp only [List.mem_cons, not_or]; exact ⟨fun z => ne z.symm, h2⟩⟩
theorem wipe_out {σ : L2.St} : ∀ {vs : List Nat} {j : Nat}, j ∉ vs → (wipe σ vs)[j]? = σ[j]?
  | [], j, _ => rfl
  | v :: vs, j, h => by
    simp only [List.mem_cons, not_or] at h
    unfold wipe
    rw [List.getElem?_set_ne (fun z => h.1 z.symm)]
    exact wipe_out h.2
theorem wipe_in {σ : L2.St} : ∀ {vs : List Nat} {j : Nat}, j ∈ vs → (wipe σ vs)[j]? = if j < σ.length then some none else none
  | [], j, h => by simp at h
  | v :: vs, j, h => by
    unfold wipe
    by_cases e : v = j
    · subst e
      by_cases hl : v < σ.length
      · rw [List.getElem?_set_self (by rw [wipe_length]; exact hl), if_pos hl]
      · rw [List.getElem?_eq_none (by rw [List.length_set, wipe_length]; omega), if_neg hl]
    · rw [List.getElem?_set_ne e]
      exact wipe_in ((List.mem_cons.mp h).resolve_left (fun z => e z.symm))
theorem wipe_eq {σ τ : L2.St} {vs : List Nat} (hl : τ.length = σ.length) (h : ∀ j, j ∉ vs → τ[j]? = σ[j]?) : wipe τ vs = wipe σ vs := by
  apply List.ext_getElem?
  intro j
  by_cases hj : j ∈ vs
  · rw [wipe_in hj, wipe_in hj, hl]
  · rw [wipe_out hj, wipe_out hj]
    exact h j hj
theorem wipe_wipe {σ : L2.St} {vs : List Nat} : wipe (wipe σ vs) vs = wipe σ vs := wipe_eq (wipe_length _ _) fun j hj => wipe_out hj
theorem restE_get (env1 env2 : Env) : ∀ (vs : List Nat) (j : Nat) (m : M), (restE env1 env2 vs)[j]? = some (some m) → (j ∈ vs ∧ env1[j]? = some (some m)) ∨ (j ∉ vs ∧ env2[j]? = some (some m))
  | [], j, m, h => .inr ⟨by simp, h⟩
  | v :: vs, j, m, h => by
    rcases set_get h with ⟨rfl, e⟩ | ⟨ne, e⟩
    · refine .inl ⟨List.mem_cons_self, ?_⟩
      cases q : env1[v]? with
      | none => rw [q] at e; cases e
      | some z => rw [q] at e; exact congrArg some e.symm
    · rcases restE_get env1 env2 vs j m e with ⟨h1, h2⟩ | ⟨h1, h2⟩
      · exact .inl ⟨List.mem_cons_of_mem _ h1, h2⟩
      · exact .inr ⟨by simp only [List.mem_cons, not_or]; exact ⟨fun z => ne z.symm, h1⟩, h2⟩
theorem Rl.wipe {f : Fm} {Hb H : Hp} {env : Env} {σ : L2.St} {vs : List Nat} (R : Rl K c f Hb env σ H) (hv : ∀ v ∈ vs, v ∉ c.fx) : Rl K c f Hb (wipeE env vs) (L2.wipe σ vs) H := by
  refine ⟨by rw [wipe_length, wipeE_len]; exact R.len, fun {j d} e => ?_, fun {j oc} e => ?_, fun {i j o1 o2 b} e1 e2 e3 e4 => ?_, R.sub, R.frm, R.frb, R.tab, fun i hi => ?_⟩
  · obtain ⟨h1, h2⟩ := wipeE_get _ _ _ _ e
    obtain ⟨v, h3, h4⟩ := R.val h1
    exact ⟨v, by rw [wipe_out h2]; exact h3, h4⟩
  · obtain ⟨h1, h2⟩ := wipeE_get _ _ _ _ e
    obtain ⟨a, h3, h4⟩ := R.own h1
    exact ⟨a, by rw [wipe_out h2]; exact h3, h4⟩
  · obtain ⟨h1, h2⟩ := wipeE_get _ _ _ _ e1
    obtain ⟨h3, h4⟩ := wipeE_get _ _ _ _ e2
    rw [wipe_out h2] at e3
    rw [wipe_out h4] at e4
    exact R.inj h1 h3 e3 e4
  · rw [wipe_out (fun z => hv i z hi)]
    exact R.fix i hi
/-- with the new list at D under the frame's care -/
def Fm.put (f : Fm) (D : Addr) (o : HO) : Fm := ⟨upd f.Fr D o, fun b => if b = D then none else f.B b, f.fv⟩
theorem Rl.put {f : Fm} {Hb H : Hp} {env : Env} {σ : L2.St} {D : Addr} {o : HO} (R : Rl K c f Hb env σ H) (n : H D = none) : Rl K c (f.put D o) Hb env σ (upd H D o) := by
  have R1 := R.ext (ExtH.newT (o := o) R.sub n)
  have nb := R.sub.free n
  refine ⟨R1.len, R1.val, fun {i oc} e => ?_, R1.inj, R1.sub, fun b u e => ?_, fun b u e => ?_, fun P hP => ?_, R1.fix⟩
  · obtain ⟨a, h1, h2, h3, h4⟩ := R1.own e
    refine ⟨a, h1, h2, ?_, h4⟩
    obtain ⟨a', g1, _, _, g4⟩ := R.own e
    rw [h1] at g1; cases g1
    obtain ⟨u, hu⟩ := g4.there
    show upd f.Fr D o a = none
    rw [upd_ne (ne_of_none hu n)]; exact h3
  · have e : upd f.Fr D o b = some u := e
    by_cases hb : b = D
    · subst hb; rw [upd_same] at e ⊢; exact e
    · rw [upd_ne hb] at e
      exact R1.frm b u e
  · have e : upd f.Fr D o b = some u := e
    show Hb b = if b = D then none else f.B b
    by_cases hb : b = D
    · subst hb; rw [if_pos rfl]; exact nb
    · rw [upd_ne hb] at e
      rw [if_neg hb]
      exact R.frb b u e
  · obtain ⟨h1, h2, h3⟩ := R1.tab P hP
    obtain ⟨ps, g, _⟩ := (R.tab P hP).1
    refine ⟨h1, h2, ?_⟩
    show upd f.Fr D o P = none
    rw [upd_ne (ne_of_none g n)]; exact h3
theorem Rl.atD {f : Fm} {Hb H : Hp} {env : Env} {σ : L2.St} {D : Addr} {o : HO} (R : Rl K c (f.put D o) Hb env σ H) : H D = some o ∧ Hb D = none := by
  have e : (f.put D o).Fr D = some o := upd_same
  refine ⟨R.frm D o e, ?_⟩
  rw [R.frb D o e]
  show (if D = D then none else f.B D) = none
  rw [if_pos rfl]
theorem Rl.reput {f : Fm} {Hb H : Hp} {env : Env} {σ : L2.St} {D : Addr} {o u : HO} (R : Rl K c (f.put D o) Hb env σ H) : Rl K c (f.put D u) Hb env σ (upd H D u) := by
  obtain ⟨hD, nb⟩ := R.atD
  have frN : ∀ {a : Addr}, (f.put D o).Fr a = none → a ≠ D ∧ f.Fr a = none := fun {a} h => by
    have h : upd f.Fr D o a = none := h
    by_cases e : a = D
    · subst e; rw [upd_same] at h; cases h
    · rw [upd_ne e] at h; exact ⟨e, h⟩
  refine ⟨R.len, R.val, fun {i oc} e => ?_, R.inj, fun b z e => ?_, fun b z e => ?_, fun b z e => ?_, fun P hP => ?_, R.fix⟩
  · obtain ⟨a, h1, h2, h3, h4⟩ := R.own e
    obtain ⟨n1, n2⟩ := frN h3
    refine ⟨a, h1, h2, ?_, h4.mn (Same.refl _) fun o q => by rw [upd_ne n1]; exact q⟩
    show upd f.Fr D u a = none
    rw [upd_ne n1]; exact n2
  · rw [upd_ne (ne_of_none e nb)]; exact R.sub _ _ e
  · have e : upd f.Fr D u b = some z := e
    by_cases hb : b = D
    · subst hb; rw [upd_same] at e ⊢; exact e
    · rw [upd_ne hb] at e ⊢
      exact R.frm b z (show upd f.Fr D o b = some z by rw [upd_ne hb]; exact e)
  · have e : upd f.Fr D u b = some z := e
    show Hb b = if b = D then none else f.B b
    by_cases hb : b = D
    · subst hb; rw [if_pos rfl]; exact nb
    · rw [upd_ne hb] at e
      exact R.frb b z (show upd f.Fr D o b = some z by rw [upd_ne hb]; exact e)
  · obtain ⟨h1, h2, h3⟩ := R.tab P hP
    obtain ⟨n1, n2⟩ := frN h3
    obtain ⟨ps, g, z⟩ := h1
    refine ⟨⟨ps, by rw [upd_ne n1]; exact g, z⟩, h2, ?_⟩
    show upd f.Fr D u P = none
    rw [upd_ne n1]; exact n2
theorem Rl.unput {f : Fm} {Hb H : Hp} {env : Env} {σ : L2.St} {D : Addr} {o : HO} (R : Rl K c (f.put D o) Hb env σ H) (hf : f.Fr D = none) : Rl K c f Hb env σ H := by
  have frN : ∀ {a : Addr}, (f.put D o).Fr a = none → f.Fr a = none := fun {a} h => by
    have h : upd f.Fr D o a = none := h
    by_cases e : a = D
    · subst e; exact hf
    · rw [upd_ne e] at h; exact h
  refine ⟨R.len, R.val, fun {i oc} e => ?_, R.inj, R.sub, fun b z e => ?_, fun b z e => ?_, fun P hP => ?_, R.fix⟩
  · obtain ⟨a, h1, h2, h3, h4⟩ := R.own e
    exact ⟨a, h1, h2, frN h3, h4⟩
  · exact R.frm b z (show upd f.Fr D o b = some z by rw [upd_ne (ne_of_none e hf)]; exact e)
  · have q := R.frb b z (show upd f.Fr D o b = some z by rw [upd_ne (ne_of_none e hf)]; exact e)
    have q : Hb b = if b = D then none else f.B b := q
    rw [if_neg (ne_of_none e hf)] at q
    exact q
  · obtain ⟨h1, h2, h3⟩ := R.tab P hP
    exact ⟨h1, h2, frN h3⟩
abbrev W0 : WX := fun _ _ _ _ => False
abbrev noX : VX := fun _ _ _ => False
theorem px0 {f : Fm} {Hb : Hp} {σ : L2.St} {Wx : WX} : PX K c f Wx Hb σ noX := fun C fs env' d H' Hb' s R x z => z.elim
def compF (vg : VG) (vt : VTT) (ve : VT) (vs : List Nat) (Q : List D → Env → Prop) : List D → List D → Env → Prop
  | [], acc, env => Q acc env
  | d :: ds, acc, env => vg d env fun env1 => vt env1 (fun b env2 => if b = true then ve env2 (fun w env3 => fz w env3 fun d' env4 => acc.length < sizeLine ∧ compF vg vt ve vs Q ds (acc ++ [d']) (wipeE env4 vs)) noX else compF vg vt ve vs Q ds acc (wipeE env2 vs)) noX
def okVs (c : VC) (vs : List Nat) (env : Env) : Prop := ∀ v ∈ vs, v ∉ c.fx ∧ ∀ oc, env[v]? ≠ some (some (.own oc))
@[simp] def vLc (c : VC) (vi : VI) (vg : VG) (vt : VTT) (ve : VT) (vs : List Nat) : VT := fun env Q QX => vi env (fun items env1 => okVs c vs env1 ∧ compF vg vt ve vs (fun acc env2 => Q (.tmp (.lst acc)) (restE env1 env2 vs)) items [] (wipeE env1 vs)) QX
structure VTs (X : Cx) (c : VC) (Wx : WX) (ifs : List Expr) (tt : TT) (vt : VTT) : Prop where
  pts : PTs X ifs tt
  sim : SimT X.K c Wx tt vt
@[simp] def vYes : VTT := fun env Q _ => Q true env
theorem vts_nil : VTs X c Wx [] tYes vYes := ⟨pts_nil, fun f Hb env σ H Q QX Q' R q px k => k _ _ _ _ (Same.refl _) R q⟩
theorem vts_one {e : Expr} {tt : TT} {vt : VTT} (h : VTe X c Wx e tt vt) : VTs X c Wx [e] tt vt := ⟨pts_one h.pt, h.sim⟩
theorem sim_lc {wi : TI} {vi : VI} {g : TG} {vg : VG} {tt : TT} {vt : VTT} {te : TE} {ve : VT} {ss vs : List Nat} (hss : ∀ j ∈ ss, j ∈ vs) (hi : SimI K c Wx wi vi) (hg : SimG K c ss g vg) (ht : SimT K c W0 tt vt) (he : SimE K c W0 te ve) : SimE K c Wx (tLc wi g tt te vs) (vLc c vi vg vt ve vs) := by
  intro f Hb env σ H Q QX Q' R q px k
  refine hi f Hb env σ H _ QX _ R q px fun items env1 J H1 Hb1 s1 R1 it q1 => ?_
  obtain ⟨hv, q1⟩ := q1
  intro D nD
  have Rw := (R1.wipe fun v hv' => (hv v hv').1).put (o := .lst []) nD
  refine ⟨fun i m H' => ∃ env' Hb' acc accV, Same Hb1 Hb' ∧ Rl K c (f.put D (.lst accV)) Hb' env' (L2.wipe σ vs) H' ∧ RpL K Hb' acc accV ∧ m = items.length - i ∧ i ≤ items.length ∧
    compF vg vt ve vs (fun acc env2 => Q (.tmp (.lst acc)) (restE env1 env2 vs)) (items.drop i) acc env', ⟨items.length, _, Hb1, [], [], Same.refl _, Rw, .nil, by simp, Nat.zero_le _, q1⟩, ?_⟩
  rintro i m H2 ⟨env2, Hb2, acc, accV, s2, R2, ra, rfl, hi2, q2⟩
  by_cases hlt : i < items.length
  · rw [List.drop_eq_getElem_cons hlt] at q2
    refine .inr ⟨it.go i Hb2 H2 s2 R2.sub hlt, fun H' => ∃ env' Hb' acc accV, Same Hb1 Hb' ∧ Rl K c (f.put D (.lst accV)) Hb' env' (L2.wipe σ vs) H' ∧ RpL K Hb' acc accV ∧
      compF vg vt ve vs (fun acc env2 => Q (.tmp (.lst acc)) (restE env1 env2 vs)) (items.drop (i + 1)) acc env', fun H' z => ?_, fun x H3 hy => ?_⟩
    · obtain ⟨env', Hb', a, av, z1, z2, z3, z4⟩ := z
      exact ⟨items.length - (i + 1), by omega, env', Hb', a, av, z1, z2, z3, rfl, hlt, z4⟩
    · obtain ⟨Hb3, x3, r3⟩ := it.yld i _ x Hb2 H2 H3 s2 R2.sub (List.getElem?_eq_getElem hlt) hy
      refine hg _ Hb3 env2 _ H3 _ x _ _ (R2.ext x3) r3 q2 fun env4 σ4 H4 Hb4 s4 R4 n4 q4 => ?_
      have hw : L2.wipe σ4 vs = L2.wipe σ vs := by
        rw [← wipe_wipe (σ := σ)]
        exact wipe_eq n4.1 fun j hj => n4.2 j fun z => hj (hss j z)
      refine ⟨hw, ?_⟩
      refine ht _ Hb4 env4 σ4 H4 _ noX _ R4 q4 px0 fun b env5 H5 Hb5 s5 R5 q5 => ?_
      cases b with
      | true =>
        rw [if_pos rfl] at q5 ⊢
        refine he _ Hb5 env5 σ4 H5 _ noX _ R5 q5 px0 fun w env6 v6 H6 Hb6 s6 R6 r6 q6 => ?_
        obtain ⟨d', env7, Hb7, s7, R7, r7, hz, q7⟩ := R6.fz r6 q6
        obtain ⟨hD, _⟩ := R7.atD
        have ss := ((((x3.b.trans s4).trans s5).trans s6).trans s7)
        refine ⟨accV, hD, by rw [ra.length]; exact hz, wipeE env7 vs, Hb7, acc ++ [d'], accV ++ [v6], s2.trans ss, ?_, (ra.mn ss).app (.one r7), q7⟩
        rw [← hw]
        exact (R7.wipe fun v hv' => (hv v hv').1).reput
      | false =>
        rw [if_neg Bool.false_ne_true] at q5 ⊢
        have ss := ((x3.b.trans s4).trans s5)
        refine ⟨wipeE env5 vs, Hb5, acc, accV, s2.trans ss, ?_, ra.mn ss, q5⟩
        rw [← hw]
        exact R5.wipe fun v hv' => (hv v hv').1
  · have hi3 : i = items.length := by omega
    rw [hi3, List.drop_length] at q2
    refine .inl ⟨it.stop i Hb2 H2 s2 R2.sub (by omega), ?_⟩
    have q2 : Q (.tmp (.lst acc)) (restE env1 env2 vs) := q2
    obtain ⟨hD, hbD⟩ := R2.atD
    have fD : f.Fr D = none := R1.frm.free nD
    have R3 := R2.unput fD
    have ownD : ∀ {j : Nat} {oc : OC}, (restE env1 env2 vs)[j]? = some (some (.own oc)) → j ∉ vs ∧ env2[j]? = some (some (.own oc)) := fun {j oc} e => by
      rcases restE_get _ _ _ _ _ e with ⟨h1, h2⟩ | h
      · exact ((hv j h1).2 oc h2).elim
      · exact h
    have R4 : Rl K c f Hb2 (restE env1 env2 vs) σ H2 := by
      refine ⟨by rw [restE_len, ← R3.len, wipe_length], fun {j d} e => ?_, fun {j oc} e => ?_, fun {i j o1 o2 b} e1 e2 e3 e4 => ?_, R3.sub, R3.frm, R3.frb, R3.tab, R1.fix⟩
      · rcases restE_get _ _ _ _ _ e with ⟨h1, h2⟩ | ⟨h1, h2⟩
        · obtain ⟨v, h3, h4⟩ := R1.val h2
          exact ⟨v, h3, h4.mn s2⟩
        · obtain ⟨v, h3, h4⟩ := R3.val h2
          rw [wipe_out h1] at h3
          exact ⟨v, h3, h4⟩
      · obtain ⟨h1, h2⟩ := ownD e
        obtain ⟨a, h3, h4⟩ := R3.own h2
        rw [wipe_out h1] at h3
        exact ⟨a, h3, h4⟩
      · obtain ⟨h1, h2⟩ := ownD e1
        obtain ⟨h3, h4⟩ := ownD e2
        exact R3.inj h2 h4 (by rw [wipe_out h1]; exact e3) (by rw [wipe_out h3]; exact e4)
    refine k (.tmp (.lst acc)) _ _ _ _ (s1.trans s2) R4 ⟨D, rfl, hbD, fD, ⟨accV, hD, ra⟩, fun j oc e z => ?_⟩ q2
    obtain ⟨h1, h2⟩ := ownD e
    obtain ⟨a, h3, _, h5, _⟩ := R2.own h2
    rw [wipe_out h1, z] at h3
    cases h3
    have h5 : upd f.Fr D (.lst accV) D = none := h5
    rw [upd_same] at h5; cases h5
end
end VL

set_option Elab.async false
set_option linter.all false
set_option maxRecDepth 100000
set_option maxHeartbeats 4000000
/-! VL7: comprehensions as expressions, a def by its body. -/
namespace VL
open PySem PySem.Spec PyProof.Rows L2
section
variable {K : PySem.W.Frag} {c : VC} {Wx : WX} {X : Cx}
theorem sim_own {te : TE} {t : VT} {i : Nat} (h : SimE K c Wx te t) : SimS K c Wx (tAsg te (gName i)) (vOwn c i t) := by
  intro f Hb env σ H DV D R q e
  refine h f Hb env σ H _ _ _ R q e.px fun w1 env1 v1 H1 Hb1 s1 R1 r1 q1 => ?_
  obtain ⟨hi, q1⟩ := q1
  cases w1 with
  | tmp oc => exact e.nx _ _ _ _ s1 (R1.setOwn r1 hi) q1
  | val d => exact e.nx _ _ _ _ s1 (R1.setVal r1 hi) q1
  | cel j => exact q1.elim
theorem sim_set {te : TE} {t : VT} {i : Nat} (h : SimE K c Wx te t) : SimS K c Wx (tAsg te (gName i)) (vSet c i t) := by
  intro f Hb env σ H DV D R q e
  refine h f Hb env σ H _ _ _ R q e.px fun w1 env1 v1 H1 Hb1 s1 R1 r1 q1 => ?_
  obtain ⟨hi, q1⟩ := q1
  obtain ⟨d, env2, Hb2, s2, R2, r2, q2⟩ := R1.fz r1 q1
  exact e.nx _ _ _ _ (s1.trans s2) (R2.setVal r2 hi) q2
/-- the parts of a comprehension's block -/
structure Blk (X : Cx) (c : VC) (scope : Scope) (own : List (Str × Nat)) (ss : List Nat) (tg elt : Expr) (ifs : List Expr) (g : TG) (vg : VG) (tt : TT) (vt : VTT) (te : TE) (ve : VT) : Prop where
  ok : BlkOk X.N X.env.scope scope own
  sub : ∀ j ∈ ss, j ∈ own.map (·.2)
  g : ∀ (s : Shared) (H : Hp) (C : Addr) (cl : List (Str × Addr)) (fp : List Addr), VGt (X.blk s H scope (compEnvC scope cl C X.env) fp) c ss tg g vg
  t : ∀ (s : Shared) (H : Hp) (C : Addr) (cl : List (Str × Addr)) (fp : List Addr), VTs (X.blk s H scope (compEnvC scope cl C X.env) fp) c W0 ifs tt vt
  e : ∀ (s : Shared) (H : Hp) (C : Addr) (cl : List (Str × Addr)) (fp : List Addr), VE (X.blk s H scope (compEnvC scope cl C X.env) fp) c W0 elt te ve
theorem Blk.sim {scope : Scope} {own : List (Str × Nat)} {ss : List Nat} {tg elt : Expr} {ifs : List Expr} {g : TG} {vg : VG} {tt : TT} {vt : VTT} {te : TE} {ve : VT} {wi : TI} {vi : VI} {iter : Expr} (B : Blk X c scope own ss tg elt ifs g vg tt vt te ve) (hi : VIt X c Wx tg iter wi vi) :
    SimE X.K c Wx (tLc wi g tt te (own.map (·.2))) (vLc c vi vg vt ve (own.map (·.2))) :=
  sim_lc B.sub hi.sim (B.g {} (fun _ => none) 0 [] []).sim (B.t {} (fun _ => none) 0 [] []).sim (B.e {} (fun _ => none) 0 [] []).sim
theorem ve_lc {scope : Scope} {own : List (Str × Nat)} {ss : List Nat} {tg elt iter : Expr} {ifs : List Expr} {g : TG} {vg : VG} {tt : TT} {vt : VTT} {te : TE} {ve : VT} {wi : TI} {vi : VI} {pos : Pos} (nd : X.N.Nodup) (hi : VIt X c Wx tg iter wi vi) (B : Blk X c scope own ss tg elt ifs g vg tt vt te ve) (hc : X.calm = true := by rfl) (hs : ∀ x, foldedSetIterable iter X.env x = pure x := by intro _; rfl) :
    VE X c Wx (.ListComp elt [⟨tg, iter, ifs, 0⟩] scope pos) (tLc wi g tt te (own.map (·.2))) (vLc c vi vg vt ve (own.map (·.2))) :=
  ⟨pe_lc hc nd hi.pi B.ok (fun s H C cl fp => (B.g s H C cl fp).pg) (fun s H C cl fp => (B.t s H C cl fp).pts) (fun s H C cl fp => (B.e s H C cl fp).pe) hs, B.sim hi⟩
theorem vst_setLc {y : Str} {py : Pos} {scope : Scope} {own : List (Str × Nat)} {ss : List Nat} {tg elt iter : Expr} {ifs : List Expr} {g : TG} {vg : VG} {tt : TT} {vt : VTT} {te : TE} {ve : VT} {wi : TI} {vi : VI} {pos spos : Pos} (i : Nat) (nd : X.N.Nodup) (hi : VIt X c Wx tg iter wi vi) (B : Blk X c scope own ss tg elt ifs g vg tt vt te ve)
    (hsw : swapsWith (.ListComp elt [⟨tg, iter, ifs, 0⟩] scope pos) (some (.Name y py)) spos.line X.env = pure true) (hc : X.calm = true := by rfl) (hy : X.N[i]? = some y := by rfl) (hyl : X.env.scope.names.lookup y = some .local := by rfl) (hs : ∀ x, foldedSetIterable iter X.env x = pure x := by intro _; rfl) :
    VSt X c Wx (.Assign [.Name y py] (.ListComp elt [⟨tg, iter, ifs, 0⟩] scope pos) spos) (tAsg (tLc wi g tt te (own.map (·.2))) (gName i)) (vSet c i (vLc c vi vg vt ve (own.map (·.2)))) :=
  ⟨ps_setLc hc nd hy hyl hsw hi.pi B.ok (fun s H C cl fp => (B.g s H C cl fp).pg) (fun s H C cl fp => (B.t s H C cl fp).pts) (fun s H C cl fp => (B.e s H C cl fp).pe) hs, sim_set (B.sim hi)⟩
theorem vst_ownLc {y : Str} {py : Pos} {scope : Scope} {own : List (Str × Nat)} {ss : List Nat} {tg elt iter : Expr} {ifs : List Expr} {g : TG} {vg : VG} {tt : TT} {vt : VTT} {te : TE} {ve : VT} {wi : TI} {vi : VI} {pos spos : Pos} (i : Nat) (nd : X.N.Nodup) (hi : VIt X c Wx tg iter wi vi) (B : Blk X c scope own ss tg elt ifs g vg tt vt te ve)
    (hsw : swapsWith (.ListComp elt [⟨tg, iter, ifs, 0⟩] scope pos) (some (.Name y py)) spos.line X.env = pure true) (hc : X.calm = true := by rfl) (hy : X.N[i]? = some y := by rfl) (hyl : X.env.scope.names.lookup y = some .local := by rfl) (hs : ∀ x, foldedSetIterable iter X.env x = pure x := by intro _; rfl) :
    VSt X c Wx (.Assign [.Name y py] (.ListComp elt [⟨tg, iter, ifs, 0⟩] scope pos) spos) (tAsg (tLc wi g tt te (own.map (·.2))) (gName i)) (vOwn c i (vLc c vi vg vt ve (own.map (·.2)))) :=
  ⟨ps_setLc hc nd hy hyl hsw hi.pi B.ok (fun s H C cl fp => (B.g s H C cl fp).pg) (fun s H C cl fp => (B.t s H C cl fp).pts) (fun s H C cl fp => (B.e s H C cl fp).pe) hs, sim_own (B.sim hi)⟩
end

/-! ### a def by its body -/
theorem owns_inj {K : PySem.W.Frag} {Hb H : Hp} : ∀ {ms : List M} {vs : List V} {i j : Nat} {oi oj : OC} {a : Addr}, Paired (MR K Hb H) ms vs → (owns ms vs).Nodup → ms[i]? = some (.own oi) → ms[j]? = some (.own oj) → vs[i]? = some (.ref a) → vs[j]? = some (.ref a) → i = j
  | [], _, i, j, _, _, _, h, _, e, _, _, _ => by simp at e
  | m :: ms, [], i, j, _, _, _, h, _, e, _, _, _ => by cases h
  | m :: ms, v :: vs, i, j, oi, oj, a, h, n, e1, e2, e3, e4 => by
    cases h with
    | cons x r =>
      have tail : (owns ms vs).Nodup := by
        cases m with
        | val d => simpa [owns] using n
        | own oc => obtain ⟨b, rfl, _⟩ := x; exact (List.nodup_cons.mp (show (b :: owns ms vs).Nodup from n)).2
      have head : ∀ {k : Nat} {ok : OC}, m = .own ok → v = .ref a → ∀ {l : Nat} {ol : OC}, ms[l]? = some (.own ol) → vs[l]? = some (.ref a) → False := fun {k ok} em ev {l ol} q1 q2 => by
        subst em ev
        exact (List.nodup_cons.mp (show (a :: owns ms vs).Nodup from n)).1 (owns_mem r q1 q2)
      cases i with
      | zero =>
        cases j with
        | zero => rfl
        | succ j => exact (head (k := 0) (by simpa using e1) (by simpa using e3) (l := j) (by simpa using e2) (by simpa using e4)).elim
      | succ i =>
        cases j with
        | zero => exact (head (k := 0) (by simpa using e2) (by simpa using e4) (l := i) (by simpa using e1) (by simpa using e3)).elim
        | succ j => rw [owns_inj r tail (i := i) (j := j) (by simpa using e1) (by simpa using e2) (by simpa using e3) (by simpa using e4)]
@[simp] def outsOf : List M → Nat → Env → Option (List M)
  | [], _, _ => some []
  | .val d :: ms, k, env => (outsOf ms (k + 1) env).map (.val d :: ·)
  | .own _ :: ms, k, env => match env[k]? with
    | some (some (.own oc)) => (outsOf ms (k + 1) env).map (.own oc :: ·)
    | _ => none
theorem outsOf_shape : ∀ {ms : List M} {k : Nat} {env : Env} {os : List M}, outsOf ms k env = some os → sameShape ms os
  | [], _, _, _, h => by cases h; trivial
  | .val d :: ms, k, env, os, h => by
    unfold outsOf at h
    cases q : outsOf ms (k + 1) env with
    | none => rw [q] at h; cases h
    | some r => rw [q] at h; cases h; exact ⟨rfl, outsOf_shape q⟩
  | .own oc :: ms, k, env, os, h => by
    unfold outsOf at h
    split at h
    · cases q : outsOf ms (k + 1) env with
      | none => rw [q] at h; cases h
      | some r =>
        rw [q] at h; cases h
        exact outsOf_shape (ms := ms) q
    · cases h
theorem outsOf_at : ∀ {ms : List M} {k : Nat} {env : Env} {os : List M} {j : Nat} {oc : OC}, outsOf ms k env = some os → ms[j]? = some (.own oc) → ∃ oc', os[j]? = some (.own oc') ∧ env[k + j]? = some (some (.own oc'))
  | [], _, _, _, j, _, h, e => by simp at e
  | .val d :: ms, k, env, os, 0, oc, h, e => by simp at e
  | .val d :: ms, k, env, os, j + 1, oc, h, e => by
    unfold outsOf at h
    cases q : outsOf ms (k + 1) env with
    | none => rw [q] at h; cases h
    | some r =>
      rw [q] at h; cases h
      obtain ⟨oc', h1, h2⟩ := outsOf_at (j := j) q (by simpa using e)
      exact ⟨oc', by simpa using h1, by rw [show k + (j + 1) = k + 1 + j by omega]; exact h2⟩
  | .own d :: ms, k, env, os, 0, oc, h, e => by
    unfold outsOf at h
    split at h
    · rename_i oc' hE
      cases q : outsOf ms (k + 1) env with
      | none => rw [q] at h; cases h
      | some r =>
        rw [q] at h; cases h
        exact ⟨oc', rfl, hE⟩
    · cases h
  | .own d :: ms, k, env, os, j + 1, oc, h, e => by
    unfold outsOf at h
    split at h
    · cases q : outsOf ms (k + 1) env with
      | none => rw [q] at h; cases h
      | some r =>
        rw [q] at h; cases h
        obtain ⟨oc', h1, h2⟩ := outsOf_at (j := j) q (by simpa using e)
        exact ⟨oc', by simpa using h1, by rw [show k + (j + 1) = k + 1 + j by omega]; exact h2⟩
    · cases h
@[simp] def start0 (n : Nat) (ms : List M) : Env := ms.map some ++ List.replicate (n - ms.length) none
/-- what a body is to reach -/
@[simp] def endsOf (ms : List M) (A : W → List M → Prop) (B : Addr → List (Str × D) → List M → Prop) : VEnds where
  nx := fun env => ∃ os, outsOf ms 0 env = some os ∧ A (.val .non) os
  rt := fun w env => match w with
    | .cel _ => False
    | w => ∃ os, outsOf ms 0 env = some os ∧ A w os
  bk := fun _ => False
  ct := fun _ => False
  ex := fun C fs env => ∃ os, outsOf ms 0 env = some os ∧ B C fs os
theorem pget {α β : Type} {F : α → β → Prop} : ∀ {as : List α} {bs : List β} {k : Nat} {a : α}, Paired F as bs → as[k]? = some a → ∃ b, bs[k]? = some b ∧ F a b
  | [], _, k, a, h, e => by simp at e
  | x :: as, _, 0, a, h, e => by
    cases h with
    | cons p r =>
      have e1 : x = a := by simpa using e
      subst e1
      exact ⟨_, rfl, p⟩
  | x :: as, _, k + 1, a, h, e => by
    cases h with
    | cons p r =>
      obtain ⟨b, h1, h2⟩ := pget (k := k) r (by simpa using e)
      exact ⟨b, by simpa using h1, h2⟩
theorem paired_of {α β : Type} {F : α → β → Prop} : ∀ {as : List α} {bs : List β}, as.length = bs.length → (∀ (k : Nat) (a : α) (b : β), as[k]? = some a → bs[k]? = some b → F a b) → Paired F as bs
  | [], [], _, _ => .nil
  | [], _ :: _, h, _ => by simp at h
  | _ :: _, [], h, _ => by simp at h
  | a :: as, b :: bs, h, f => .cons (f 0 a b rfl rfl) (paired_of (by simpa using h) fun k x y h1 h2 => f (k + 1) x y (by simpa using h1) (by simpa using h2))
theorem sameShape_len : ∀ {ms os : List M}, sameShape ms os → ms.length = os.length
  | [], [], _ => rfl
  | [], _ :: _, h => h.elim
  | .val _ :: _, [], h => h.elim
  | .own _ :: _, [], h => h.elim
  | .val _ :: ms, .val _ :: os, h => by simp [sameShape_len h.2]
  | .own _ :: ms, .own _ :: os, h => by have h : sameShape ms os := h; simp [sameShape_len h]
  | .val _ :: _, .own _ :: _, h => h.elim
  | .own _ :: _, .val _ :: _, h => h.elim
theorem shape_val : ∀ {ms os : List M} {k : Nat} {d : D}, sameShape ms os → os[k]? = some (.val d) → ms[k]? = some (.val d)
  | [], [], k, oc, _, e => by simp at e
  | [], _ :: _, k, oc, h, e => h.elim
  | .val d :: ms, [], _, _, h, _ => h.elim
  | .own o :: ms, [], _, _, h, _ => h.elim
  | .val d :: ms, .own e :: os, _, _, h, _ => h.elim
  | .own d :: ms, .val e :: os, _, _, h, _ => h.elim
  | .val d :: ms, .val e :: os, 0, x, h, q => by
    have : e = x := by simpa using q
    subst this
    rw [h.1]; rfl
  | .val d :: ms, .val e :: os, k + 1, x, h, q => by simpa using shape_val (k := k) h.2 (by simpa using q)
  | .own d :: ms, .own e :: os, 0, x, h, q => by simp at q
  | .own d :: ms, .own e :: os, k + 1, x, h, q => by
    have h : sameShape ms os := h
    simpa using shape_val (k := k) h (by simpa using q)
section
variable {P : Program} {w : World} {K : PySem.W.Frag} {mg : Str → Option Value} {base : Heap}
/-- THE RULE -/
theorem vl_ok {x qual : Str} {st : Stmt} {f : Addr} {fd : FuncData} {N ps : List Str} {k : Nat} {c : VC} {sp : VSp} {t : VS} (F : Fun K x qual st f fd) (S : FnScope N ps (defScope st))
    (hfx : ∀ i ∈ c.fx, i < ps.length) (hl : ∀ ms A B, sp ms A B → ms.length = ps.length ∧ ∀ i oc, ms[i]? = some (.own oc) → i ∈ c.fx)
    (hbody : ∀ (cdv : Value) (A : Around) (outer : List PySem.Env) (s : Shared) (H : Hp) (E : XK), Room k (A.deeper (envOfC qual (defScope st) s.heap.objs.size f cdv)) →
      ∃ ts, VSs (cxOf (L2.CX P w) P w K mg base N qual (defScope st) f cdv A outer s H E) c (fun cls d _ H => E cls d H) (defBody st) ts t)
    (ht : ∀ ms A B, sp ms A B → t (endsOf ms A B) (start0 N.length ms)) : FnOk P w K mg base (L2.CX P w) (k + 1) f fd ps (spOf K c.T sp) := by
  refine F.okX S (fun vs H Q E h => ?_) (fun cdv A outer s H vs Q E hr h => ?_)
  · obtain ⟨Hb, ms, A, B, p, hs, _⟩ := h
    rw [← p.args.length]
    exact (hl ms A B hs).1
  · obtain ⟨Hb, ms, A', B', p, hs, hA, hB⟩ := h
    obtain ⟨ts, hv⟩ := hbody cdv A outer s H E hr
    refine ⟨ts, hv.ps, ?_⟩
    obtain ⟨hlen, hmode⟩ := hl ms A' B' hs
    have lv : vs.length = ms.length := p.args.length.symm
    have hpl : ps.length ≤ N.length := by have := congrArg List.length S.pre; rw [List.length_take] at this; omega
    -- the frame
    let fr : Fm := ⟨fun b => if b ∈ owns ms vs ∨ b ∈ c.T then none else H b, Hb, fun i => vs.getD i .non⟩
    have frS : ∀ b o, fr.Fr b = some o → H b = some o ∧ b ∉ owns ms vs ∧ b ∉ c.T := fun b o e => by
      have e : (if b ∈ owns ms vs ∨ b ∈ c.T then none else H b) = some o := e
      split at e
      · cases e
      · rename_i hn
        exact ⟨e, fun z => hn (.inl z), fun z => hn (.inr z)⟩
    have frO : ∀ b, b ∈ owns ms vs → fr.Fr b = none := fun b hb => if_pos (.inl hb)
    have frT : ∀ b, b ∈ c.T → fr.Fr b = none := fun b hb => if_pos (.inr hb)
    have frN : ∀ b o, H b = some o → b ∉ owns ms vs → b ∉ c.T → fr.Fr b = some o := fun b o e h1 h2 => (if_neg (by rintro (z | z); exact h1 z; exact h2 z)).trans e
    have senv : ∀ {i : Nat} {m : M}, (start0 N.length ms)[i]? = some (some m) → ms[i]? = some m := fun {i m} e => by
      unfold start0 at e
      by_cases hi : i < ms.length
      · rw [List.getElem?_append_left (by simpa using hi), List.getElem?_map] at e
        cases q : ms[i]? with
        | none => rw [q] at e; cases e
        | some z => rw [q] at e; exact congrArg some (Option.some.inj (Option.some.inj e))
      · rw [List.getElem?_append_right (by simpa using hi), List.getElem?_replicate] at e
        split at e <;> cases e
    have sst : ∀ {i : Nat} {v : V}, vs[i]? = some v → (L2.start N vs)[i]? = some (some v) := fun {i v} e => by
      unfold L2.start
      have hi : i < vs.length := (List.getElem?_eq_some_iff.mp e).1
      rw [List.getElem?_append_left (by simpa using hi), List.getElem?_map, e]; rfl
    have R0 : Rl K c fr Hb (start0 N.length ms) (L2.start N vs) H := by
      refine ⟨by unfold L2.start start0; simp only [List.length_append, List.length_map, List.length_replicate]; omega, fun {i d} e => ?_, fun {i oc} e => ?_, fun {i j o1 o2 b} e1 e2 e3 e4 => ?_, p.sub, fun b o e => (frS b o e).1, fun b o e => rfl, fun P hP => ⟨(p.tab P hP).1, (p.tab P hP).2, frT P hP⟩, fun i hi => ?_⟩
      · obtain ⟨v, h1, h2⟩ := pget p.args (senv e)
        exact ⟨v, sst h1, h2⟩
      · obtain ⟨v, h1, a, rfl, h2, h3⟩ := pget p.args (senv e)
        exact ⟨a, sst h1, h2, frO a (owns_mem p.args (senv e) h1), h3⟩
      · obtain ⟨v1, g1, a1, rfl, _, _⟩ := pget p.args (senv e1)
        obtain ⟨v2, g2, a2, rfl, _, _⟩ := pget p.args (senv e2)
        have z1 := sst g1
        have z2 := sst g2
        rw [e3] at z1; cases z1
        rw [e4] at z2; cases z2
        exact owns_inj p.args p.nd (senv e1) (senv e2) g1 g2
      · have hi2 := hfx i hi
        have : i < vs.length := by omega
        rw [sst (List.getElem?_eq_getElem this)]
        show _ = some (some (vs.getD i .non))
        rw [List.getD_eq_getElem?_getD, List.getElem?_eq_getElem this]; rfl
    -- the end
    have post : ∀ {env' : Env} {σ' : L2.St} {H' Hb' : Hp} {os : List M}, Same Hb Hb' → Rl K c fr Hb' env' σ' H' → outsOf ms 0 env' = some os → Post K c.T Hb ms vs H os Hb' H' := fun {env' σ' H' Hb' os} s R' ho => by
      have sh := outsOf_shape ho
      have ownAt : ∀ {b : Addr}, b ∈ owns ms vs → ∃ (i : Nat) (oc' : OC), env'[i]? = some (some (M.own oc')) ∧ σ'[i]? = some (some (V.ref b)) ∧ vs[i]? = some (V.ref b) := fun {b} hb => by
        obtain ⟨i, oc, h1, h2⟩ := mem_owns p.args hb
        obtain ⟨oc', h3, h4⟩ := outsOf_at ho h1
        rw [Nat.zero_add] at h4
        have hi := hmode i oc h1
        have fx := R'.fix i hi
        have fx : σ'[i]? = some (some (vs.getD i .non)) := fx
        rw [List.getD_eq_getElem?_getD, h2] at fx
        exact ⟨i, oc', h4, fx, h2⟩
      refine ⟨s, R'.sub, fun a o e h1 h2 => R'.frm a o (frN a o e h1 h2), fun a o e => ?_, ?_, sh, fun P hP => ⟨(R'.tab P hP).1, (R'.tab P hP).2.1⟩⟩
      · by_cases h1 : a ∈ owns ms vs
        · obtain ⟨i, oc', z1, z2, z3⟩ := ownAt h1
          obtain ⟨a', y1, y2, _⟩ := R'.own z1
          rw [z2] at y1; cases y1
          obtain ⟨i0, oc0, x1, x2⟩ := mem_owns p.args h1
          obtain ⟨v, w1, a2, rfl, w2, _⟩ := pget p.args x1
          rw [x2] at w1; cases w1
          rw [y2, w2]
        · by_cases h2 : a ∈ c.T
          · rw [(R'.tab a h2).2.1, (p.tab a h2).2]
          · exact R'.frb a o (frN a o e h1 h2)
      · refine paired_of (by rw [← sameShape_len sh]; exact lv.symm) fun i m v h1 h2 => ?_
        cases m with
        | val d =>
          obtain ⟨v', g1, g2⟩ := pget p.args (shape_val sh h1)
          rw [h2] at g1; cases g1
          exact Rp.mn g2 s
        | own oc =>
          obtain ⟨oc0, g1⟩ := shape_own' sh h1
          obtain ⟨oc', g2, g3⟩ := outsOf_at ho g1
          rw [h1] at g2; cases g2
          rw [Nat.zero_add] at g3
          obtain ⟨v', y1, a, rfl, _, _⟩ := pget p.args g1
          rw [h2] at y1; cases y1
          obtain ⟨a', z1, z2, _, z4⟩ := R'.own g3
          have fx : σ'[i]? = some (some (vs.getD i .non)) := R'.fix i (hmode i oc0 g1)
          rw [List.getD_eq_getElem?_getD, h2] at fx
          rw [z1] at fx
          have fx : V.ref a' = V.ref a := Option.some.inj (Option.some.inj fx)
          cases fx
          exact ⟨a, rfl, z2, z4⟩
    have fresh : ∀ {w : W} {v : V} {env' : Env} {σ' : L2.St} {H' Hb' : Hp} {os : List M}, Rl K c fr Hb' env' σ' H' → outsOf ms 0 env' = some os → (∀ i, w ≠ .cel i) → RW K fr Hb' env' σ' H' w v → RO K Hb' H H' w v := fun {w v env' σ' H' Hb' os} R' ho nc hr => by
      cases w with
      | val d => exact hr
      | cel i => exact (nc i rfl).elim
      | tmp oc =>
        obtain ⟨a, e, h1, h2, h3, h4⟩ := hr
        refine ⟨a, e, h1, ?_, h3⟩
        cases q : H a with
        | none => rfl
        | some o =>
          exfalso
          by_cases g1 : a ∈ owns ms vs
          · obtain ⟨i, oc0, z1, z2⟩ := mem_owns p.args g1
            obtain ⟨oc', z3, z4⟩ := outsOf_at ho z1
            rw [Nat.zero_add] at z4
            have fx : σ'[i]? = some (some (vs.getD i .non)) := R'.fix i (hmode i oc0 z1)
            rw [List.getD_eq_getElem?_getD, z2] at fx
            exact h4 i oc' z4 fx
          · by_cases g2 : a ∈ c.T
            · exact h3.notab (R'.tab a g2).1 rfl
            · rw [frN a o q g1 g2] at h2; cases h2
    refine hv.sim fr Hb _ _ H (endsOf ms A' B') _ R0 (ht ms A' B' hs) ⟨fun env' σ' H' Hb' s R' q => ?_, fun w env' v σ' H' Hb' s R' rw q => ?_, fun env' σ' H' Hb' s R' q => q.elim, fun env' σ' H' Hb' s R' q => q.elim, fun C fs env' d σ' H' Hb' s R' xr q => ?_⟩
    · obtain ⟨os, ho, q⟩ := q
      exact hA _ os q _ H' Hb' (post s R' ho) (show Rp K Hb' .non .non from .non)
    · cases w with
      | val d =>
        obtain ⟨os, ho, q⟩ := q
        exact hA _ os q _ H' Hb' (post s R' ho) rw
      | tmp oc =>
        obtain ⟨os, ho, q⟩ := q
        exact hA _ os q _ H' Hb' (post s R' ho) (fresh R' ho (fun i z => by cases z) rw)
      | cel i => exact False.elim q
    · obtain ⟨os, ho, q⟩ := q
      exact hB C fs os q d H' Hb' (post s R' ho) xr
end
end VL

set_option Elab.async false
set_option linter.all false
set_option maxRecDepth 100000
set_option maxHeartbeats 4000000
/-! VL8: short words for the printed terms. -/
namespace VL
open PySem PySem.Spec PyProof.Rows L2
section
variable {K : PySem.W.Frag} {c : VC} {Wx : WX} {X : Cx}

/-! ### order of ints and texts -/
def strLt (x y : Str) : Bool := decide (x.cps.toList < y.cps.toList)
@[simp] def cIS (p : Int → Int → Bool) (q : Str → Str → Bool) : G2
  | .int i, .int j, Q => Q (.val (.bl (p i j)))
  | .str i, .str j, Q => Q (.val (.bl (q i j)))
  | _, _, _ => False
def rIS (p : Int → Int → Bool) (q : Str → Str → Bool) : R2 := fun x y H Q => rI0 (fun i j => .bl (p i j)) x y H Q ∨ ∃ i j, x = .str i ∧ y = .str j ∧ Q (.bl (q i j)) H
theorem ops_IS {p : Int → Int → Bool} {q : Str → Str → Bool} : OpS K (rIS p q) (cIS p q) := by
  intro Hb H d1 d2 v1 v2 Q Q' s r1 r2 g k
  unfold cIS at g
  split at g
  · cases r1; cases r2
    exact .inl ⟨_, _, rfl, rfl, k (.val (.bl _)) _ _ _ (.refl s) (.bl _) g⟩
  · cases r1; cases r2
    exact .inr ⟨_, _, rfl, rfl, k (.val (.bl _)) _ _ _ (.refl s) (.bl _) g⟩
  · exact g.elim
theorem opr_lt : OpR X (compareOp .Lt) (rIS (fun i j => decide (i < j)) strLt) := OpR.or op_lt op_lt_str
theorem opr_le : OpR X (compareOp .LtE) (rIS (fun i j => decide (i ≤ j)) fun x y => !strLt y x) := OpR.or op_le op_le_str
theorem opr_gt : OpR X (compareOp .Gt) (rIS (fun i j => decide (j < i)) fun x y => strLt y x) := OpR.or op_gt op_gt_str
theorem opr_ge : OpR X (compareOp .GtE) (rIS (fun i j => decide (j ≤ i)) fun x y => !strLt x y) := OpR.or op_ge op_ge_str
variable {a b : Expr} {ta tb : TE} {va vb : VT} {pos : Pos}
abbrev dLt : G2 := cIS (fun i j => decide (i < j)) strLt
abbrev dLe : G2 := cIS (fun i j => decide (i ≤ j)) fun x y => !strLt y x
abbrev dGt : G2 := cIS (fun i j => decide (j < i)) fun x y => strLt y x
abbrev dGe : G2 := cIS (fun i j => decide (j ≤ i)) fun x y => !strLt x y
theorem ve_lt (ha : VE X c Wx a ta va) (hb : VE X c Wx b tb vb) : VE X c Wx (.Compare a [.Lt] [b] pos) (tOp (rIS (fun i j => decide (i < j)) strLt) ta tb) (vOp dLt va vb) := ve_cmp opr_lt ops_IS (nomark _) ha hb
theorem ve_le (ha : VE X c Wx a ta va) (hb : VE X c Wx b tb vb) : VE X c Wx (.Compare a [.LtE] [b] pos) (tOp (rIS (fun i j => decide (i ≤ j)) fun x y => !strLt y x) ta tb) (vOp dLe va vb) := ve_cmp opr_le ops_IS (nomark _) ha hb
theorem ve_gt (ha : VE X c Wx a ta va) (hb : VE X c Wx b tb vb) : VE X c Wx (.Compare a [.Gt] [b] pos) (tOp (rIS (fun i j => decide (j < i)) fun x y => strLt y x) ta tb) (vOp dGt va vb) := ve_cmp opr_gt ops_IS (nomark _) ha hb
theorem ve_ge (ha : VE X c Wx a ta va) (hb : VE X c Wx b tb vb) : VE X c Wx (.Compare a [.GtE] [b] pos) (tOp (rIS (fun i j => decide (j ≤ i)) fun x y => !strLt x y) ta tb) (vOp dGe va vb) := ve_cmp opr_ge ops_IS (nomark _) ha hb
theorem opr_eq (hu : X.A.units + 64 < cLine) : OpR X (compareOp .Eq) (rEqA X.K) := OpR.or op_eq (op_eqD hu)
theorem opr_ne (hu : X.A.units + 64 < cLine) : OpR X (compareOp .NotEq) (rNeA X.K) := OpR.or op_ne (op_neD hu)
theorem ve_eq (hu : X.A.units + 64 < cLine) (ha : VE X c Wx a ta va) (hb : VE X c Wx b tb vb) : VE X c Wx (.Compare a [.Eq] [b] pos) (tOp (rEqA X.K) ta tb) (vOp (dEq false) va vb) := ve_cmp (opr_eq hu) ops_eq (nomark _) ha hb
theorem ve_ne (hu : X.A.units + 64 < cLine) (ha : VE X c Wx a ta va) (hb : VE X c Wx b tb vb) : VE X c Wx (.Compare a [.NotEq] [b] pos) (tOp (rNeA X.K) ta tb) (vOp (dEq true) va vb) := ve_cmp (opr_ne hu) ops_ne (nomark _) ha hb
theorem vt_lt (ha : VE X c Wx a ta va) (hb : VE X c Wx b tb vb) : VTe X c Wx (.Compare a [.Lt] [b] pos) (tTest (tOp (rIS (fun i j => decide (i < j)) strLt) ta tb)) (vTest (vOp dLt va vb)) := vt_cmp opr_lt ops_IS (nomark _) ha hb
theorem vt_le (ha : VE X c Wx a ta va) (hb : VE X c Wx b tb vb) : VTe X c Wx (.Compare a [.LtE] [b] pos) (tTest (tOp (rIS (fun i j => decide (i ≤ j)) fun x y => !strLt y x) ta tb)) (vTest (vOp dLe va vb)) := vt_cmp opr_le ops_IS (nomark _) ha hb
theorem vt_gt (ha : VE X c Wx a ta va) (hb : VE X c Wx b tb vb) : VTe X c Wx (.Compare a [.Gt] [b] pos) (tTest (tOp (rIS (fun i j => decide (j < i)) fun x y => strLt y x) ta tb)) (vTest (vOp dGt va vb)) := vt_cmp opr_gt ops_IS (nomark _) ha hb
theorem vt_ge (ha : VE X c Wx a ta va) (hb : VE X c Wx b tb vb) : VTe X c Wx (.Compare a [.GtE] [b] pos) (tTest (tOp (rIS (fun i j => decide (j ≤ i)) fun x y => !strLt x y) ta tb)) (vTest (vOp dGe va vb)) := vt_cmp opr_ge ops_IS (nomark _) ha hb
theorem vt_eq (hu : X.A.units + 64 < cLine) (ha : VE X c Wx a ta va) (hb : VE X c Wx b tb vb) : VTe X c Wx (.Compare a [.Eq] [b] pos) (tTest (tOp (rEqA X.K) ta tb)) (vTest (vOp (dEq false) va vb)) := vt_cmp (opr_eq hu) ops_eq (nomark _) ha hb
theorem vt_ne (hu : X.A.units + 64 < cLine) (ha : VE X c Wx a ta va) (hb : VE X c Wx b tb vb) : VTe X c Wx (.Compare a [.NotEq] [b] pos) (tTest (tOp (rNeA X.K) ta tb)) (vTest (vOp (dEq true) va vb)) := vt_cmp (opr_ne hu) ops_ne (nomark _) ha hb

/-! ### is None -/
@[simp] def dIsN (neg : Bool) : D → D → (W → Prop) → Prop
  | .non, .non, Q => Q (.val (.bl (!neg)))
  | .int _, .non, Q => Q (.val (.bl neg))
  | .bl _, .non, Q => Q (.val (.bl neg))
  | .str _, .non, Q => Q (.val (.bl neg))
  | .tup _, .non, Q => Q (.val (.bl neg))
  | .lst _, .non, Q => Q (.val (.bl neg))
  | _, _, _ => False
theorem ops_isN : OpS K (fun x y H Q => y = .non ∧ Q (.bl (decide (x = .non))) H) (dIsN false) := by
  intro Hb H d1 d2 v1 v2 Q Q' s r1 r2 g k
  unfold dIsN at g
  split at g <;> first
    | exact g.elim
    | (cases r1; cases r2; exact ⟨rfl, k (.val (.bl _)) _ _ _ (.refl s) (.bl _) (by simpa using g)⟩)
theorem ops_notN : OpS K (fun x y H Q => y = .non ∧ Q (.bl (!decide (x = .non))) H) (dIsN true) := by
  intro Hb H d1 d2 v1 v2 Q Q' s r1 r2 g k
  unfold dIsN at g
  split at g <;> first
    | exact g.elim
    | (cases r1; cases r2; exact ⟨rfl, k (.val (.bl _)) _ _ _ (.refl s) (.bl _) (by simpa using g)⟩)
theorem ve_isN (ha : VE X c Wx a ta va) (hb : VE X c Wx b tb vb) : VE X c Wx (.Compare a [.Is] [b] pos) (tOp (fun x y H Q => y = .non ∧ Q (.bl (decide (x = .non))) H) ta tb) (vOp (dIsN false) va vb) := ve_cmp op_isN ops_isN (nomark _) ha hb
theorem ve_notN (ha : VE X c Wx a ta va) (hb : VE X c Wx b tb vb) : VE X c Wx (.Compare a [.IsNot] [b] pos) (tOp (fun x y H Q => y = .non ∧ Q (.bl (!decide (x = .non))) H) ta tb) (vOp (dIsN true) va vb) := ve_cmp op_notN ops_notN (nomark _) ha hb
theorem vt_isN (ha : VE X c Wx a ta va) (hb : VE X c Wx b tb vb) : VTe X c Wx (.Compare a [.Is] [b] pos) (tTest (tOp (fun x y H Q => y = .non ∧ Q (.bl (decide (x = .non))) H) ta tb)) (vTest (vOp (dIsN false) va vb)) := vt_cmp op_isN ops_isN (nomark _) ha hb
theorem vt_notN (ha : VE X c Wx a ta va) (hb : VE X c Wx b tb vb) : VTe X c Wx (.Compare a [.IsNot] [b] pos) (tTest (tOp (fun x y H Q => y = .non ∧ Q (.bl (!decide (x = .non))) H) ta tb)) (vTest (vOp (dIsN true) va vb)) := vt_cmp op_notN ops_notN (nomark _) ha hb

/-! ### isinstance(x, T), T built-in -/
inductive TyN where
  | int | bool | str | tuple
def TyN.s : TyN → String
  | .int => "int" | .bool => "bool" | .str => "str" | .tuple => "tuple"
@[simp] def isT : TyN → D → Option Bool
  | .int, .int _ => some true
  | .int, .bl _ => some true
  | .bool, .bl _ => some true
  | .str, .str _ => some true
  | .tuple, .tup _ => some true
  | _, .obj _ _ => none
  | _, .scr _ => none
  | _, _ => some false
theorem isT_ok {H : Hp} {T : TyN} {d : D} {v : V} {b : Bool} {Hb : Hp} (s : Same Hb H) (r : RR K Hb H d v) (e : isT T d = some b) : ∃ t, TyX K H v t ∧ PySem.W.kitOne K t (.type T.s) = some b := by
  cases r with
  | non => exact ⟨_, .base .non, by cases T <;> cases e <;> exact kit_ty (by decide +kernel)⟩
  | bl x => exact ⟨_, .base (.bl x), by cases T <;> cases e <;> exact kit_ty (by decide +kernel)⟩
  | int x => exact ⟨_, .base (.int x), by cases T <;> cases e <;> exact kit_ty (by decide +kernel)⟩
  | str x => exact ⟨_, .base (.str x), by cases T <;> cases e <;> exact kit_ty (by decide +kernel)⟩
  | tup q p =>
    rcases same_seqT s q with (z | ⟨o, z⟩) | ⟨o, its, n, h1, h2, _⟩
    · exact ⟨_, .base (.tup z), by cases T <;> cases e <;> exact kit_ty (by decide +kernel)⟩
    · exact ⟨_, .fTuple z, by cases T <;> cases e <;> exact kit_ty (by decide +kernel)⟩
    · exact ⟨_, .kTuple h1 h2, by cases T <;> cases e <;> exact kit_ty (by decide +kernel)⟩
  | lst q p => exact ⟨_, .base (.lst q), by cases T <;> cases e <;> exact kit_ty (by decide +kernel)⟩
  | obj _ _ => cases T <;> cases e
  | scr _ _ => cases T <;> cases e
@[simp] def vIsi (T : TyN) (t : VT) : VT := fun env Q QX => t env (fun w env1 => rd w env1 fun d => match isT T d with
  | some b => Q (.val (.bl b)) env1
  | none => False) QX
theorem ve_isi {x : Expr} {tx : TE} {vx : VT} {p p2 : Pos} {n : Str} (T : TyN) (hm : X.mg "isinstance" = none) (hmT : X.mg n = none) (hT : bootBuiltins n = some (.type T.s)) (hx : VE X c Wx x tx vx) (hg : Gl X "isinstance" := by rfl) (hgT : Gl X n := by rfl) (hn : n ≠ "__name__" := by decide) (hd : (n == ("__debug__" : Str)) = false := by decide)
    (he : starEach [x, .Name n p2] X.env = (false, eval x X.env) :: starEach [.Name n p2] X.env := by rfl) (he2 : starEach [.Name n p2] X.env = (false, eval (.Name n p2) X.env) :: starEach [] X.env := by rfl) (hpl : (backTo pos (starEach [.Name n p2] X.env)).any (·.1) = false := by rfl) :
    VE X c Wx (.Call (.Name "isinstance" p) [x, .Name n p2] [] pos) (tCB (rIsi X.K) (tCons tx (tCons (tC (.ty T.s)) tNil))) (vIsi T vx) := by
  refine ⟨pe_callB call_isi hg hm (by decide +kernel) (pa_cons hx.pe (pa_cons (pe_bltn hgT hmT hT rfl hn hd) pa_nil he2) he) (by decide) (by decide) he hpl, fun f Hb env σ H Q QX Q' R q px k => ?_⟩
  refine hx.sim f Hb env σ H _ QX _ R q px fun w1 env1 v1 H1 Hb1 s1 R1 r1 q1 => ?_
  obtain ⟨d, e, q1⟩ := rd_of q1
  split at q1
  · rename_i b hb
    obtain ⟨t, h1, h2⟩ := isT_ok R1.sub (R1.rd r1 e) hb
    exact ⟨v1, _, t, _, b, rfl, .ty _, h1, h2, k (.val (.bl b)) _ _ _ _ s1 R1 (.bl b) q1⟩
  · exact q1.elim

/-! ### built-ins by name -/
variable {e : Expr} {te : TE} {ve : VT} {p : Pos} {t : TA} {v : VTA}
theorem ve_len (hm : X.mg "len" = none) (ha : VA X c Wx [e] t v) (hg : Gl X "len" := by rfl) (he : starEach [e] X.env = (false, eval e X.env) :: starEach [] X.env := by rfl) (hpl : (backTo pos (starEach [] X.env)).any (·.1) = false := by rfl) : VE X c Wx (.Call (.Name "len" p) [e] [] pos) (tCB (fun xs H Q => ∃ x n, xs = [x] ∧ LenV X.K x H n ∧ Q (.int n) H) t) (vCB dLen v) := ve_callB call_len calls_len hm (by decide +kernel) ha hg (by decide) (by decide) he hpl
theorem ve_abs (hm : X.mg "abs" = none) (ha : VA X c Wx [e] t v) (hg : Gl X "abs" := by rfl) (he : starEach [e] X.env = (false, eval e X.env) :: starEach [] X.env := by rfl) (hpl : (backTo pos (starEach [] X.env)).any (·.1) = false := by rfl) : VE X c Wx (.Call (.Name "abs" p) [e] [] pos) (tCB (fun xs H Q => ∃ i, xs = [.int i] ∧ Q (.int (if i < 0 then -i else i)) H) t) (vCB dAbs v) := ve_callB call_abs calls_abs hm (by decide +kernel) ha hg (by decide) (by decide) he hpl
theorem ve_max2 (hm : X.mg "max" = none) (ha : VA X c Wx [a, b] t v) (hc : X.calm = true := by rfl) (hg : Gl X "max" := by rfl) (he : starEach [a, b] X.env = (false, eval a X.env) :: starEach [b] X.env := by rfl) (hpl : (backTo pos (starEach [b] X.env)).any (·.1) = false := by rfl) : VE X c Wx (.Call (.Name "max" p) [a, b] [] pos) (tCB (fun xs H Q => ∃ i j, xs = [.int i, .int j] ∧ Q (.int (if j > i then j else i)) H) t) (vCB dMax2 v) := ve_callB (call_max2 hc) calls_max2 hm (by decide +kernel) ha hg (by decide) (by decide) he hpl
theorem ve_min2 (hm : X.mg "min" = none) (ha : VA X c Wx [a, b] t v) (hc : X.calm = true := by rfl) (hg : Gl X "min" := by rfl) (he : starEach [a, b] X.env = (false, eval a X.env) :: starEach [b] X.env := by rfl) (hpl : (backTo pos (starEach [b] X.env)).any (·.1) = false := by rfl) : VE X c Wx (.Call (.Name "min" p) [a, b] [] pos) (tCB (fun xs H Q => ∃ i j, xs = [.int i, .int j] ∧ Q (.int (if j < i then j else i)) H) t) (vCB dMin2 v) := ve_callB (call_min2 hc) calls_min2 hm (by decide +kernel) ha hg (by decide) (by decide) he hpl
theorem ve_intc (hm : X.mg "int" = none) (ha : VA X c Wx [e] t v) (hg : Gl X "int" := by rfl) (he : starEach [e] X.env = (false, eval e X.env) :: starEach [] X.env := by rfl) (hpl : (backTo pos (starEach [] X.env)).any (·.1) = false := by rfl) : VE X c Wx (.Call (.Name "int" p) [e] [] pos) (tCB rIntA t) (vCB dInt v) := ve_callTy (CallR.or call_int1 call_int_str) calls_int hm (by decide +kernel) ha hg (by decide) (by decide) he hpl
theorem ve_strc (hm : X.mg "str" = none) (ha : VA X c Wx [e] t v) (hg : Gl X "str" := by rfl) (he : starEach [e] X.env = (false, eval e X.env) :: starEach [] X.env := by rfl) (hpl : (backTo pos (starEach [] X.env)).any (·.1) = false := by rfl) : VE X c Wx (.Call (.Name "str" p) [e] [] pos) (tCB (fun xs H Q => ∃ i, xs = [.int i] ∧ i.natAbs.log2 < 1920 ∧ Q (.str (toString i)) H) t) (vCB dStr v) := ve_callTy call_str_int calls_str hm (by decide +kernel) ha hg (by decide) (by decide) he hpl
theorem ve_tuplec (hm : X.mg "tuple" = none) (ha : VA X c Wx [e] t v) (hg : Gl X "tuple" := by rfl) (he : starEach [e] X.env = (false, eval e X.env) :: starEach [] X.env := by rfl) (hpl : (backTo pos (starEach [] X.env)).any (·.1) = false := by rfl) : VE X c Wx (.Call (.Name "tuple" p) [e] [] pos) (tCB (fun xs H Q => ∃ p ys, xs = [.ref p] ∧ ((SqL X.K H p ys ∧ ∀ l, H l = none → Q (.ref l) (upd H l (.tup ys))) ∨ (SqT X.K H p ys ∧ Q (.ref p) H))) t) (vCB dTuple v) := ve_callTy call_tuple_of calls_tuple hm (by decide +kernel) ha hg (by decide) (by decide) he hpl
theorem ve_listc (hm : X.mg "list" = none) (ha : VA X c Wx [e] t v) (hg : Gl X "list" := by rfl) (he : starEach [e] X.env = (false, eval e X.env) :: starEach [] X.env := by rfl) (hpl : (backTo pos (starEach [] X.env)).any (·.1) = false := by rfl) : VE X c Wx (.Call (.Name "list" p) [e] [] pos) (tCB (fun xs H Q => ∃ p ys, xs = [.ref p] ∧ (SqL X.K H p ys ∨ SqT X.K H p ys) ∧ ∀ l, H l = none → Q (.ref l) (upd H l (.lst ys))) t) (vCB dList v) := ve_callTy call_list_of calls_list hm (by decide +kernel) ha hg (by decide) (by decide) he hpl
end

/-! ### defs -/
/-- a def of the text, as its callers and its body see it -/
structure FunB (K : PySem.W.Frag) (mg : Str → Option Value) (x : Str) (st : Stmt) (ps : List Str) (f : Addr) (fd : FuncData) : Prop where
  F : Fun K x x st f fd
  g : mg x = some (.ref f)
  b : Binds K fd ps []
/-- the promise of a def that stands at its name -/
structure Callee (P : Program) (w : World) (K : PySem.W.Frag) (mg : Str → Option Value) (base : Heap) (T : List Addr) (x : Str) (k : Nat) (ps : List Str) (sp : VSp) (f : Addr) (fd : FuncData) : Prop where
  ok : FnOk P w K mg base (L2.CX P w) k f fd ps (spOf K T sp)
  g : mg x = some (.ref f)
  b : Binds K fd ps []
  kp : PySem.W.keepIn K (.ref f) = true
theorem Callee.mono {P : Program} {w : World} {K : PySem.W.Frag} {mg : Str → Option Value} {base : Heap} {T : List Addr} {x : Str} {j k : Nat} {ps : List Str} {sp : VSp} {f : Addr} {fd : FuncData} (C : Callee P w K mg base T x j ps sp f fd) (h : j ≤ k) : Callee P w K mg base T x k ps sp f fd := ⟨C.ok.mono h, C.g, C.b, C.kp⟩
section
variable {K : PySem.W.Frag} {c : VC} {Wx : WX} {X : Cx}
theorem ve_fn {x : Str} {k : Nat} {ps : List Str} {sp : VSp} {fa : Addr} {fd : FuncData} {p pos : Pos} {e : Expr} {es : List Expr} {t : TA} {v : VTA} (C : Callee X.prog X.w X.K X.mg X.base c.T x k ps sp fa fd) (hr : Room k X.A) (hx : Takes X Wx)
    (ha : VA X c Wx (e :: es) t v) (hg : Gl X x := by rfl) (hdb : (x == ("__debug__" : Str)) = false := by decide) (he : starEach (e :: es) X.env = (false, eval e X.env) :: starEach es X.env := by rfl) (hpl : (backTo pos (starEach es X.env)).any (·.1) = false := by rfl) :
    VE X c Wx (.Call (.Name x p) (e :: es) [] pos) (tCallSD (spOf X.K c.T sp) [] (WE Wx) t) (vCall sp v) := ve_call C.ok hr C.g C.kp C.b (fun σ => passAt hx σ) ha hg hdb he hpl
/-- a constant of the module, by K and mg -/
structure GlobK (K : PySem.W.Frag) (mg : Str → Option Value) (x : Str) (d : D) (v : V) : Prop where
  at_ : ∃ u, mg x = some u ∧ RelV v u
  rp : ∀ H, Rp K H d v
theorem ve_gl {x : Str} {d : D} {v : V} {pos : Pos} (G : GlobK X.K X.mg x d v) (hg : Gl X x := by rfl) (hd : (x == ("__debug__" : Str)) = false := by decide) : VE X c Wx (.Name x pos) (tC v) (vC d) := ve_glob ⟨G.at_, G.rp⟩ hg hd
theorem GlobC.of {K : PySem.W.Frag} {mg : Str → Option Value} {x : Str} {d : D} {v : V} (h : ∃ u, mg x = some u ∧ RelV v u) (r : ∀ H, Rp K H d v) (hK : X.K = K) (hm : X.mg = mg) : GlobC X x d v := ⟨by rw [hm]; exact h, by rw [hK]; exact r⟩
end
section
variable {P : Program} {w : World} {K : PySem.W.Frag} {mg : Str → Option Value} {base : Heap}
theorem vl_fn {x : Str} {st : Stmt} {f : Addr} {fd : FuncData} {N ps : List Str} {k : Nat} {T : List Addr} {fx : List Nat} {sp : VSp} {t : VS} (F : FunB K mg x st ps f fd) (S : FnScope N ps (defScope st))
    (hfx : ∀ i ∈ fx, i < ps.length) (hl : ∀ ms A B, sp ms A B → ms.length = ps.length ∧ ∀ i oc, ms[i]? = some (.own oc) → i ∈ fx)
    (hbody : ∀ (cdv : Value) (A : Around) (outer : List PySem.Env) (s : Shared) (H : Hp) (E : XK), Room k (A.deeper (envOfC x (defScope st) s.heap.objs.size f cdv)) →
      ∃ ts, VSs (cxOf (L2.CX P w) P w K mg base N x (defScope st) f cdv A outer s H E) ⟨T, fx⟩ (fun cls d _ H => E cls d H) (defBody st) ts t)
    (ht : ∀ ms A B, sp ms A B → t (endsOf ms A B) (start0 N.length ms)) : Callee P w K mg base T x (k + 1) ps sp f fd :=
  ⟨vl_ok (c := ⟨T, fx⟩) F.F S hfx hl hbody ht, F.g, F.b, F.F.kp⟩
end
end VL

set_option Elab.async false
set_option linter.all false
set_option maxRecDepth 100000
set_option maxHeartbeats 4000000
/-! VL9: plain helps. -/
namespace VL
open PySem PySem.Spec PyProof.Rows L2
@[simp] def modeOk : List M → Nat → List Nat → Prop
  | [], _, _ => True
  | .val _ :: ms, k, fx => modeOk ms (k + 1) fx
  | .own _ :: ms, k, fx => k ∈ fx ∧ modeOk ms (k + 1) fx
theorem modeOk_at : ∀ {ms : List M} {k : Nat} {fx : List Nat}, modeOk ms k fx → ∀ i oc, ms[i]? = some (.own oc) → k + i ∈ fx
  | [], _, _, _, i, oc, e => by simp at e
  | .val d :: ms, k, fx, h, 0, oc, e => by simp at e
  | .val d :: ms, k, fx, h, i + 1, oc, e => by
    have := modeOk_at (ms := ms) h i oc (by simpa using e)
    rw [show k + (i + 1) = k + 1 + i by omega]; exact this
  | .own d :: ms, k, fx, h, 0, oc, e => h.1
  | .own d :: ms, k, fx, h, i + 1, oc, e => by
    have := modeOk_at (ms := ms) h.2 i oc (by simpa using e)
    rw [show k + (i + 1) = k + 1 + i by omega]; exact this
theorem hl0 {ms : List M} {fx : List Nat} {n : Nat} (h1 : ms.length = n) (h : modeOk ms 0 fx) : ms.length = n ∧ ∀ i oc, ms[i]? = some (.own oc) → i ∈ fx :=
  ⟨h1, fun i oc e => by have := modeOk_at h i oc e; rwa [Nat.zero_add] at this⟩
theorem log2_of {n k : Nat} (h : n < 2 ^ k) (hk : 0 < k) : n.log2 < k := by
  by_cases h0 : n = 0
  · subst h0; simpa using hk
  · exact (Nat.log2_lt h0).mpr h
theorem mulW {i j : Int} (h1 : i.natAbs < 2 ^ 250) (h2 : j.natAbs < 2 ^ 250) : CMul i j ∨ CMulW i j := .inr (by
  unfold CMulW
  have := log2_of h1 (by omega)
  have := log2_of h2 (by omega)
  omega)
theorem mulL {i j : Int} (h : -(2 ^ 64) < i ∧ i < 2 ^ 64) : CMul i j ∨ CMulW i j := .inl (.inl h)
theorem mulR {i j : Int} (h : -(2 ^ 64) < j ∧ j < 2 ^ 64) : CMul i j ∨ CMulW i j := .inl (.inr h)
theorem divW {i j : Int} (h1 : 0 < j) (h2 : j.natAbs < 2 ^ 250) : CDivW i j ∨ CDivN i j := .inl ⟨h1, by have := log2_of h2 (by omega); omega⟩
theorem str_len {i : Int} {k : Nat} (hk : 0 < k) (h : i.natAbs < 10 ^ k) : (Str.ofString (toString i)).length ≤ k + 1 := by
  cases i with
  | ofNat m =>
    have := PyProof.Rows.toString_length_le (v := (m : Int)) (by omega) hk (by
      have e : ((10 : Int) ^ k) = ((10 ^ k : Nat) : Int) := by simp
      rw [e]; exact Int.ofNat_lt.mpr h)
    exact Nat.le_succ_of_le this
  | negSucc m =>
    have e : toString (Int.negSucc m) = "-" ++ toString ((m + 1 : Nat) : Int) := rfl
    have := PyProof.Rows.toString_length_le (v := ((m + 1 : Nat) : Int)) (by omega) hk (by
      have e : ((10 : Int) ^ k) = ((10 ^ k : Nat) : Int) := by simp
      rw [e]; exact Int.ofNat_lt.mpr h)
    rw [PyProof.Rows.ofString_length] at this ⊢
    rw [e]
    simp only [String.toList_append, List.length_append]
    have : ("-" : String).toList.length = 1 := rfl
    omega
section
variable {K : PySem.W.Frag} {c : VC} {Wx : WX} {X : Cx}
variable {e : Expr} {te : TE} {ve : VT} {p pos : Pos} {t : TA} {v : VTA}
theorem RpL.bls {Hb : Hp} : ∀ {bs : List Bool} {vs : List V}, RpL K Hb (bs.map D.bl) vs → vs = bs.map V.bl
  | [], _, h => by cases h; rfl
  | b :: bs, _, h => by
    cases h with
    | cons a r => cases a; rw [RpL.bls r]; rfl
theorem RpL.ints {Hb : Hp} : ∀ {bs : List Int} {vs : List V}, RpL K Hb (bs.map D.int) vs → vs = bs.map V.int
  | [], _, h => by cases h; rfl
  | b :: bs, _, h => by
    cases h with
    | cons a r => cases a; rw [RpL.ints r]; rfl
def dAll : GN
  | [.lst ds], Q => ∃ bs : List Bool, ds = bs.map D.bl ∧ Q (.val (.bl (bs.all id)))
  | _, _ => False
def dAny : GN
  | [.lst ds], Q => ∃ bs : List Bool, ds = bs.map D.bl ∧ Q (.val (.bl (bs.any id)))
  | _, _ => False
def dSumL : GN
  | [.lst ds], Q => ∃ ns : List Int, ds = ns.map D.int ∧ Q (.val (.int ns.sum))
  | _, _ => False
theorem calls_all : CallS K (rAll K) dAll := by
  intro Hb H ds vs Q Q' s p g k
  unfold dAll at g
  split at g
  · obtain ⟨v, rfl, r⟩ := paired1 p
    obtain ⟨bs, rfl, g⟩ := g
    cases r with
    | lst s1 p1 => cases p1.bls; exact ⟨_, bs, rfl, .of s1, k (.val (.bl _)) _ _ _ (.refl s) (.bl _) g⟩
  · exact g.elim
theorem calls_any : CallS K (rAny K) dAny := by
  intro Hb H ds vs Q Q' s p g k
  unfold dAny at g
  split at g
  · obtain ⟨v, rfl, r⟩ := paired1 p
    obtain ⟨bs, rfl, g⟩ := g
    cases r with
    | lst s1 p1 => cases p1.bls; exact ⟨_, bs, rfl, .of s1, k (.val (.bl _)) _ _ _ (.refl s) (.bl _) g⟩
  · exact g.elim
theorem calls_sumL : CallS K (rSum K) dSumL := by
  intro Hb H ds vs Q Q' s p g k
  unfold dSumL at g
  split at g
  · obtain ⟨v, rfl, r⟩ := paired1 p
    obtain ⟨bs, rfl, g⟩ := g
    cases r with
    | lst s1 p1 => cases p1.ints; exact ⟨_, bs, rfl, .of s1, k (.val (.int _)) _ _ _ (.refl s) (.int _) g⟩
  · exact g.elim
theorem ve_all (hm : X.mg "all" = none) (ha : VA X c Wx [e] t v) (hc : X.calm = true := by rfl) (hg : Gl X "all" := by rfl) (he : starEach [e] X.env = (false, eval e X.env) :: starEach [] X.env := by rfl) (hpl : (backTo pos (starEach [] X.env)).any (·.1) = false := by rfl) : VE X c Wx (.Call (.Name "all" p) [e] [] pos) (tCB (rAll X.K) t) (vCB dAll v) := ve_callB (cr_all hc) calls_all hm (by decide +kernel) ha hg (by decide) (by decide) he hpl
theorem ve_any (hm : X.mg "any" = none) (ha : VA X c Wx [e] t v) (hc : X.calm = true := by rfl) (hg : Gl X "any" := by rfl) (he : starEach [e] X.env = (false, eval e X.env) :: starEach [] X.env := by rfl) (hpl : (backTo pos (starEach [] X.env)).any (·.1) = false := by rfl) : VE X c Wx (.Call (.Name "any" p) [e] [] pos) (tCB (rAny X.K) t) (vCB dAny v) := ve_callB (cr_any hc) calls_any hm (by decide +kernel) ha hg (by decide) (by decide) he hpl
theorem ve_sum (hm : X.mg "sum" = none) (ha : VA X c Wx [e] t v) (hc : X.calm = true := by rfl) (hg : Gl X "sum" := by rfl) (he : starEach [e] X.env = (false, eval e X.env) :: starEach [] X.env := by rfl) (hpl : (backTo pos (starEach [] X.env)).any (·.1) = false := by rfl) : VE X c Wx (.Call (.Name "sum" p) [e] [] pos) (tCB (rSum X.K) t) (vCB dSumL v) := ve_callB (cr_sum hc) calls_sumL hm (by decide +kernel) ha hg (by decide) (by decide) he hpl
end
/-! loops and comprehensions over data -/
theorem loop_ind {g : VG} {b : VS} {DV : VEnds} (I : List D → Env → Prop)
    (step : ∀ d rest env (L : Env → Prop), I (d :: rest) env → (∀ env', I rest env' → L env') → g d env fun env1 => b { DV with nx := L, ct := L, bk := DV.nx } env1)
    (fin : ∀ env, I [] env → DV.nx env) : ∀ items env, I items env → loopF g b DV items env
  | [], env, h => fin env h
  | d :: ds, env, h => step d ds env _ h fun env' h' => loop_ind I step fin ds env' h'
theorem comp_ind {vg : VG} {vt : VTT} {ve : VT} {vs : List Nat} {Q : List D → Env → Prop} (I : List D → List D → Env → Prop)
    (step : ∀ d rest acc env (L : List D → Env → Prop), I (d :: rest) acc env → (∀ acc' env', I rest acc' env' → L acc' env') →
      vg d env fun env1 => vt env1 (fun b env2 => if b = true then ve env2 (fun w env3 => fz w env3 fun d' env4 => acc.length < sizeLine ∧ L (acc ++ [d']) (wipeE env4 vs)) noX else L acc (wipeE env2 vs)) noX)
    (fin : ∀ acc env, I [] acc env → Q acc env) : ∀ items acc env, I items acc env → compF vg vt ve vs Q items acc env
  | [], acc, env, h => fin acc env h
  | d :: ds, acc, env, h => step d ds acc env (fun acc' env' => compF vg vt ve vs Q ds acc' env') h fun acc' env' h' => comp_ind I step fin ds acc' env' h'
@[simp] theorem atI_c0 {α : Type} {a : α} {l : List α} : atI (a :: l) 0 = some a := by simp [atI, ixN]
@[simp] theorem atI_c1 {α : Type} {a b : α} {l : List α} : atI (a :: b :: l) 1 = some b := by simp [atI, ixN]; split <;> first | rfl | omega
@[simp] theorem atI_c2 {α : Type} {a b c : α} {l : List α} : atI (a :: b :: c :: l) 2 = some c := by simp [atI, ixN]; split <;> first | rfl | omega
@[simp] theorem ixN_c0 {n : Nat} : ixN (n + 1) 0 = some 0 := by simp [ixN]
@[simp] theorem ixN_c1 {n : Nat} : ixN (n + 1 + 1) 1 = some 1 := by simp [ixN]; omega
@[simp] theorem ixN_c2 {n : Nat} : ixN (n + 1 + 1 + 1) 2 = some 2 := by simp [ixN]; omega
theorem cut_of {t u : VS} {DV : VEnds} {env : Env} (Mid : Env → Prop) (h1 : ∀ L : Env → Prop, (∀ e, Mid e → L e) → t { DV with nx := L } env) (h2 : ∀ e, Mid e → u DV e) : vCut t u DV env := ⟨Mid, h1 Mid fun _ h => h, h2⟩
theorem VE.re {X : Cx} {c : VC} {Wx : WX} {e : Expr} {te te' : TE} {t : VT} (h : VE X c Wx e te t) (q : te = te') : VE X c Wx e te' t := q ▸ h
theorem VTs.re {X : Cx} {c : VC} {Wx : WX} {e : List Expr} {te te' : TT} {t : VTT} (h : VTs X c Wx e te t) (q : te = te') : VTs X c Wx e te' t := q ▸ h
theorem boot_int : bootBuiltins "int" = some (.type TyN.int.s) := by decide +kernel
theorem boot_bool : bootBuiltins "bool" = some (.type TyN.bool.s) := by decide +kernel
theorem boot_str : bootBuiltins "str" = some (.type TyN.str.s) := by decide +kernel
theorem boot_tuple : bootBuiltins "tuple" = some (.type TyN.tuple.s) := by decide +kernel
theorem all_true {acc : List D} (h : ∀ x ∈ acc, x = .bl true) : ∃ bs : List Bool, acc = bs.map D.bl ∧ bs.all id = true := by
  refine ⟨List.replicate acc.length true, ?_, by simp⟩
  rw [List.map_replicate]
  exact List.eq_replicate_iff.mpr ⟨rfl, h⟩
theorem seq_step {t u : VS} {DV : VEnds} {env : Env} (h : ∀ L : Env → Prop, (∀ e, u DV e → L e) → t { DV with nx := L } env) : vSeq t u DV env := h _ fun _ h => h
theorem loop_step {g : VG} {b : VS} {DV : VEnds} {d : D} {ds : List D} {env : Env} (h : ∀ L : Env → Prop, (∀ e, loopF g b DV ds e → L e) → g d env fun env1 => b { DV with nx := L, ct := L, bk := DV.nx } env1) : loopF g b DV (d :: ds) env := h _ fun _ h => h
theorem loop_end {g : VG} {b : VS} {DV : VEnds} {env : Env} (h : DV.nx env) : loopF g b DV [] env := h
theorem RpL.ofInts {K : PySem.W.Frag} {H : Hp} : ∀ ns : List Int, RpL K H (ns.map D.int) (ns.map V.int)
  | [] => .nil
  | n :: ns => .cons (.int n) (RpL.ofInts ns)
theorem law_start {K : PySem.W.Frag} {H : Hp} {a : Addr} {ns : List Int} {sp : VSp} (hsp : ∀ A B, A (.val (.bl true)) [.val (.scr (ns.map D.int))] → sp [.val (.scr (ns.map D.int))] A B) (h3 : SqL K H a (ns.map V.int)) : spOf K [] sp [.ref a] H (fun v _ => v = .bl true) fun _ _ _ => False := by
  refine ⟨H, [.val (.scr (ns.map D.int))], fun w _ => w = .val (.bl true), fun _ _ _ => False, ⟨Same.refl _, .cons (.scr h3 (RpL.ofInts ns)) .nil, List.nodup_nil, fun P h => by cases h⟩, hsp _ _ rfl, ?_, fun _ _ _ h => h.elim⟩
  rintro w outs rfl v H' Hb' _ r
  have r : Rp K Hb' (.bl true) v := r
  cases r
  rfl
theorem cx_none {P : Program} {w : World} {outer : List PySem.Env} {H : Hp} {s : Shared} {u : Value} {s' : Shared} (h : L2.CX P w outer H s (fun _ _ _ => False) u s') : False := by
  obtain ⟨_, _, _, _, _, _, _, _, _, _, _, _, h⟩ := h
  exact h
theorem loop_idx {g : VG} {b : VS} {DV : VEnds} {items : List D} (I : Nat → Env → Prop)
    (step : ∀ i d env (L : Env → Prop), items[i]? = some d → I i env → (∀ env', I (i + 1) env' → L env') → g d env fun env1 => b { DV with nx := L, ct := L, bk := DV.nx } env1)
    (fin : ∀ env, I items.length env → DV.nx env) : ∀ env, I 0 env → loopF g b DV items env := fun env h => by
  refine loop_ind (fun its env => ∃ i, i ≤ items.length ∧ its = items.drop i ∧ I i env) ?_ ?_ items env ⟨0, Nat.zero_le _, rfl, h⟩
  · rintro d rest env L ⟨i, hi, e, h⟩ k
    have hlt : i < items.length := by
      refine Nat.lt_of_le_of_ne hi fun z => ?_
      rw [z, List.drop_length] at e; cases e
    rw [List.drop_eq_getElem_cons hlt] at e
    cases e
    exact step i _ env L (List.getElem?_eq_getElem hlt) h fun env' h' => k env' ⟨i + 1, hlt, rfl, h'⟩
  · rintro env ⟨i, hi, e, h⟩
    have : i = items.length := by
      have := congrArg List.length e
      simp at this; omega
    subst this
    exact fin env h
theorem comp_idx {vg : VG} {vt : VTT} {ve : VT} {vs : List Nat} {Q : List D → Env → Prop} {items : List D} (I : Nat → List D → Env → Prop)
    (step : ∀ i d acc env (L : List D → Env → Prop), items[i]? = some d → I i acc env → (∀ acc' env', I (i + 1) acc' env' → L acc' env') →
      vg d env fun env1 => vt env1 (fun b env2 => if b = true then ve env2 (fun w env3 => fz w env3 fun d' env4 => acc.length < sizeLine ∧ L (acc ++ [d']) (wipeE env4 vs)) noX else L acc (wipeE env2 vs)) noX)
    (fin : ∀ acc env, I items.length acc env → Q acc env) : ∀ env, I 0 [] env → compF vg vt ve vs Q items [] env := fun env h => by
  refine comp_ind (fun its acc env => ∃ i, i ≤ items.length ∧ its = items.drop i ∧ I i acc env) ?_ ?_ items [] env ⟨0, Nat.zero_le _, rfl, h⟩
  · rintro d rest acc env L ⟨i, hi, e, h⟩ k
    have hlt : i < items.length := by
      refine Nat.lt_of_le_of_ne hi fun z => ?_
      rw [z, List.drop_length] at e; cases e
    rw [List.drop_eq_getElem_cons hlt] at e
    cases e
    exact step i _ acc env L (List.getElem?_eq_getElem hlt) h fun acc' env' h' => k acc' env' ⟨i + 1, hlt, rfl, h'⟩
  · rintro acc env ⟨i, hi, e, h⟩
    have : i = items.length := by
      have := congrArg List.length e
      simp at this; omega
    subst this
    exact fin acc env h
theorem range_at {n i : Nat} {d : D} (h : ((List.range n).map fun k : Nat => D.int (k : Int))[i]? = some d) : i < n ∧ d = .int (i : Nat) := by
  rw [List.getElem?_map] at h
  cases q : (List.range n)[i]? with
  | none => rw [q] at h; cases h
  | some k =>
    rw [q] at h
    obtain ⟨h1, h2⟩ := List.getElem?_eq_some_iff.mp q
    rw [List.getElem_range] at h2
    subst h2
    cases h
    exact ⟨by simpa using h1, rfl⟩
theorem map_at {α : Type} {f : α → D} {xs : List α} {i : Nat} {d : D} (h : (xs.map f)[i]? = some d) : ∃ x, xs[i]? = some x ∧ d = f x := by
  rw [List.getElem?_map] at h
  cases q : xs[i]? with
  | none => rw [q] at h; cases h
  | some k => rw [q] at h; cases h; exact ⟨k, rfl, rfl⟩
theorem atI_map {α : Type} {f : α → D} {xs : List α} {i : Nat} {x : α} (h : xs[i]? = some x) : atI (xs.map f) (i : Int) = some (f x) := atI_nat (by rw [List.getElem?_map, h]; rfl)
/-- the promise of nothing -/
theorem Callee.none {P : Program} {w : World} {K : PySem.W.Frag} {mg : Str → Option Value} {base : Heap} {T : List Addr} {x : Str} {st : Stmt} {k : Nat} {ps : List Str} {f : Addr} {fd : FuncData} (F : FunB K mg x st ps f fd) : Callee P w K mg base T x k ps (fun _ _ _ => False) f fd :=
  ⟨⟨fun vs H Q E h => by obtain ⟨_, _, _, _, _, h, _⟩ := h; exact h.elim, fun A outer s H args us vs Q E _ _ _ _ h => by obtain ⟨_, _, _, _, _, h, _⟩ := h; exact h.elim⟩, F.g, F.b, F.F.kp⟩
end VL

set_option Elab.async false
set_option linter.all false
set_option maxRecDepth 100000
set_option maxHeartbeats 4000000
/-! VL10: a call whose first argument is new and handed over. -/
namespace VL
open PySem PySem.Spec PyProof.Rows L2
section
variable {K : PySem.W.Frag} {c : VC} {Wx : WX} {X : Cx}
def hid (H : Hp) (a : Addr) : Hp := fun b => if b = a then none else H b
theorem hid_at {H : Hp} {a : Addr} : hid H a a = none := if_pos rfl
theorem hid_ne {H : Hp} {a b : Addr} (h : b ≠ a) : hid H a b = H b := if_neg h
theorem hid_sub {H : Hp} {a : Addr} : Same (hid H a) H := fun b o e => by
  by_cases h : b = a
  · subst h; rw [hid_at] at e; cases e
  · rwa [hid_ne h] at e
theorem hid_upd {H : Hp} {a : Addr} {o : HO} (h : H a = some o) : upd (hid H a) a o = H := by
  funext b
  by_cases e : b = a
  · subst e; rw [upd_same, h]
  · rw [upd_ne e, hid_ne e]
theorem Rl.drop {f : Fm} {Hb H : Hp} {env : Env} {σ : L2.St} {a : Addr} {oc : OC} (R : Rl K c f Hb env σ H) (hb : Hb a = none) (hf : f.Fr a = none) (hc : Cont K Hb H a oc) (hn : ∀ (i : Nat) (oc' : OC), env[i]? = some (some (.own oc')) → σ[i]? ≠ some (some (.ref a))) : Rl K c f Hb env σ (hid H a) := by
  refine ⟨R.len, R.val, fun {i oc'} e => ?_, R.inj, fun b o e => ?_, fun b o e => ?_, R.frb, fun P hP => ?_, R.fix⟩
  · obtain ⟨a', h1, h2, h3, h4⟩ := R.own e
    have ne : a' ≠ a := by rintro rfl; exact hn i oc' e h1
    exact ⟨a', h1, h2, h3, h4.mn (Same.refl _) fun o ho => by rw [hid_ne ne]; exact ho⟩
  · rw [hid_ne (ne_of_none e hb)]; exact R.sub b o e
  · rw [hid_ne (ne_of_none e hf)]; exact R.frm b o e
  · obtain ⟨h1, h2, h3⟩ := R.tab P hP
    have ne : P ≠ a := hc.notab h1
    obtain ⟨ps, g1, g2⟩ := h1
    exact ⟨⟨ps, by rw [hid_ne ne]; exact g1, g2⟩, h2, h3⟩
def handT (w : W) (k : OC → Prop) : Prop := match w with
  | .tmp oc => k oc
  | _ => False
@[simp] theorem handT_tmp {oc : OC} {k : OC → Prop} : handT (.tmp oc) k = k oc := rfl
@[simp] def vCallT (sp : VSp) (t0 : VT) (t : VTA) : VT := fun env Q QX => t0 env (fun w env1 => handT w fun oc => t env1 (fun ws env2 => argMs ws env2 fun ms => (cels ws env2).Nodup ∧ sp (.own oc :: ms) (fun w outs => Q w (wb env2 ws outs.tail)) fun C fs outs => QX C fs (wb env2 ws outs.tail)) QX) QX
theorem MR.mn {Hb H H' : Hp} {m : M} {v : V} (h : MR K Hb H m v) (s : Same H H') : MR K Hb H' m v := by
  cases m with
  | val d => exact h
  | own oc =>
    obtain ⟨a, e, h1, h2⟩ := h
    exact ⟨a, e, h1, h2.mn (Same.refl _) fun o ho => s _ _ ho⟩
theorem MRs.mn {Hb H H' : Hp} : ∀ {ms : List M} {vs : List V}, Paired (MR K Hb H) ms vs → Same H H' → Paired (MR K Hb H') ms vs
  | [], _, h, _ => by cases h; exact .nil
  | m :: ms, _, h, s => by cases h with | cons a r => exact .cons (MR.mn a s) (MRs.mn r s)
theorem owns_there {Hb H : Hp} {ms : List M} {vs : List V} {a : Addr} (h : Paired (MR K Hb H) ms vs) (ha : a ∈ owns ms vs) : ∃ o, H a = some o := by
  obtain ⟨k, oc, h1, h2⟩ := mem_owns h ha
  obtain ⟨v, g1, a', e, _, g2⟩ := pget h h1
  rw [h2] at g1; cases g1; cases e
  exact g2.there
theorem ve_callT {CX : CXT} {k : Nat} {fa : Addr} {fd : FuncData} {ps : List Str} {sp : VSp} {x : Str} {p pos : Pos} {e : Expr} {es : List Expr} {t0 : TE} {v0 : VT} {t : TA} {v : VTA} (F : FnOk X.prog X.w X.K X.mg X.base CX k fa fd ps (spOf X.K c.T sp)) (hr : Room k X.A) (hm : X.mg x = some (.ref fa)) (hk : PySem.W.keepIn X.K (.ref fa) = true) (hb : Binds X.K fd ps []) (hx : ∀ σ, PassesAt CX X σ (WE Wx σ))
    (h0 : VE X c Wx e t0 v0) (ha : VA X c Wx es t v) (hg : Gl X x := by rfl) (hdb : (x == ("__debug__" : Str)) = false := by decide) (he : starEach (e :: es) X.env = (false, eval e X.env) :: starEach es X.env := by rfl) (hpl : (backTo pos (starEach es X.env)).any (·.1) = false := by rfl) :
    VE X c Wx (.Call (.Name x p) (e :: es) [] pos) (tCallSD (spOf X.K c.T sp) [] (WE Wx) (tCons t0 t)) (vCallT sp v0 v) := by
  refine ⟨pe_callSD F hr hg hm hk hb .nil hx (pa_cons h0.pe ha.pa he) hdb he hpl, fun f Hb env σ H Q QX Q' R q px k => ?_⟩
  refine h0.sim f Hb env σ H _ QX _ R q px fun w1 env1 v1 H1 Hb1 s1 R1 r1 q1 => ?_
  cases w1 with
  | val d => exact False.elim q1
  | cel i => exact False.elim q1
  | tmp oc =>
    obtain ⟨a, rfl, hb1, hf, hc, hn⟩ := r1
    obtain ⟨o, ho⟩ := hc.there
    have Rp := (R1.drop hb1 hf hc hn).put (o := o) hid_at
    rw [hid_upd ho] at Rp
    refine ha.sim (f.put a o) Hb1 env1 σ H1 _ QX _ Rp q1 (fun C fs env' d H' Hb' s R' => px C fs env' d H' Hb' (s1.trans s) (R'.unput hf)) fun ws env2 vs H2 Hb2 s2 R2 r2 q2 => ?_
    obtain ⟨ha2, hb2⟩ := R2.atD
    have R3 := R2.unput hf
    have hc2 : Cont X.K Hb2 H2 a oc := hc.mn s2 fun o' e => by rw [ho] at e; cases e; exact ha2
    have hn2 : ∀ (i : Nat) (oc' : OC), env2[i]? = some (some (.own oc')) → σ[i]? ≠ some (some (.ref a)) := fun i oc' e z => by
      obtain ⟨a', h1, _, h3, _⟩ := R2.own e
      rw [z] at h1; cases h1
      have h3 : upd f.Fr a o a = none := h3
      rw [upd_same] at h3; cases h3
    have R4 := R3.drop hb2 hf hc2 hn2
    obtain ⟨ms, ao, nd, q2⟩ := R4.argMs r2 q2
    have na : a ∉ owns ms vs := fun z => by
      obtain ⟨o', e⟩ := owns_there ao.rel z
      rw [hid_at] at e; cases e
    show spOf X.K c.T sp ((V.ref a :: vs) ++ []) H2 Q' (WE Wx σ)
    rw [List.append_nil]
    have toP : ∀ {outs : List M} {Hb' H' : Hp}, Post X.K c.T Hb2 (.own oc :: ms) (V.ref a :: vs) H2 outs Hb' H' → Post X.K c.T Hb2 ms vs (hid H2 a) outs.tail Hb' H' := fun {outs Hb' H'} p => by
      have sh := p.shape
      cases outs with
      | nil => exact False.elim sh
      | cons m os =>
        cases m with
        | val d => exact False.elim sh
        | own oc' =>
          refine ⟨p.b, p.s, fun b u e h1 h2 => ?_, fun b u e => p.n b u (hid_sub _ _ e), ?_, sh, p.tab⟩
          · have ne : b ≠ a := by rintro rfl; rw [hid_at] at e; cases e
            refine p.keep b u (hid_sub _ _ e) (fun z => ?_) h2
            have z : b ∈ a :: owns ms vs := z
            rcases List.mem_cons.mp z with z | z
            · exact ne z
            · exact h1 z
          · have pa := p.args
            cases pa with
            | cons _ r => exact r
    refine ⟨Hb2, .own oc :: ms, _, _, ⟨R3.sub, .cons ⟨a, rfl, hb2, hc2⟩ (MRs.mn ao.rel hid_sub), List.nodup_cons.mpr ⟨na, ao.nd nd⟩, fun P hP => ⟨(R3.tab P hP).1, (R3.tab P hP).2.1⟩⟩, q2, fun w outs qw v H' Hb' p ro => ?_, fun C fs outs qx d H' Hb' p xr => ?_⟩
    · have p' := toP p
      have R5 := R4.post ao p'
      have ro' : RO X.K Hb' (hid H2 a) H' w v := by
        cases w with
        | val d => exact ro
        | cel i => exact ro
        | tmp oc2 =>
          obtain ⟨a2, e, h1, h2, h3⟩ := ro
          refine ⟨a2, e, h1, ?_, h3⟩
          by_cases z : a2 = a
          · subst z; exact hid_at
          · rw [hid_ne z]; exact h2
      exact k w _ v H' Hb' ((s1.trans s2).trans p'.b) R5 (ro_rw R4 R5 (wb_own ao p'.shape) ro') qw
    · have p' := toP p
      exact px C fs _ d H' Hb' ((s1.trans s2).trans p'.b) (R4.post ao p') xr qx
theorem ve_fnT {x : Str} {k : Nat} {ps : List Str} {sp : VSp} {fa : Addr} {fd : FuncData} {p pos : Pos} {e : Expr} {es : List Expr} {t0 : TE} {v0 : VT} {t : TA} {v : VTA} (C : Callee X.prog X.w X.K X.mg X.base c.T x k ps sp fa fd) (hr : Room k X.A) (hx : Takes X Wx)
    (h0 : VE X c Wx e t0 v0) (ha : VA X c Wx es t v) (hg : Gl X x := by rfl) (hdb : (x == ("__debug__" : Str)) = false := by decide) (he : starEach (e :: es) X.env = (false, eval e X.env) :: starEach es X.env := by rfl) (hpl : (backTo pos (starEach es X.env)).any (·.1) = false := by rfl) :
    VE X c Wx (.Call (.Name x p) (e :: es) [] pos) (tCallSD (spOf X.K c.T sp) [] (WE Wx) (tCons t0 t)) (vCallT sp v0 v) := ve_callT C.ok hr C.g C.kp C.b (fun σ => passAt hx σ) h0 ha hg hdb he hpl
end
/-- a pair of ints of the module -/
theorem glob_pair {K : PySem.W.Frag} {mg : Str → Option Value} {x : Str} {a : Addr} {od : Option Addr} {n : Nat} {sl : Array (Option Value)} {i j : Int} {ti tj : Nat} (h : mg x = some (.ref a)) (l : K.lookup a = some ⟨.type "tuple", od, .seq #[.int i ti, .int j tj] n, sl⟩) : GlobK K mg x (.tup [.int i, .int j]) (.ref a) :=
  ⟨⟨_, h, rfl⟩, fun H => .tup (vs := [.int i, .int j]) (.inr ⟨_, _, _, l, rfl, rfl, show 2 ≤ sizeLine by decide, .cons ⟨_, rfl⟩ (.cons ⟨_, rfl⟩ .nil)⟩) (.cons (.int i) (.cons (.int j) .nil))⟩
end VL

set_option Elab.async false
set_option linter.all false
set_option maxRecDepth 100000
set_option maxHeartbeats 4000000
/-! VL11: in, join, max of three, texts of the module. -/
namespace VL
open PySem PySem.Spec PyProof.Rows L2
section
variable {K : PySem.W.Frag} {c : VC} {Wx : WX} {X : Cx}
def hasS (j i : Str) : Bool := !(Builtin.Str.occurrences j i 0 j.length 1).isEmpty
theorem hasS_one (j : Str) (n : Nat) : hasS j ⟨#[n]⟩ = decide (n ∈ j.cps.toList) := PySem.StrLaws.found_one j n
def dInSeq (neg : Bool) (d : D) (ds : List D) (Q : W → Prop) : Prop := (∃ (x : Str) (ss : List Str), d = .str x ∧ ds = ss.map D.str ∧ Q (.val (.bl (neg ^^ ss.any fun y => y == x)))) ∨ ∃ (x : Int) (ss : List Int), d = .int x ∧ ds = ss.map D.int ∧ Q (.val (.bl (neg ^^ ss.any fun y => y == x)))
@[simp] def dIn (neg : Bool) : G2
  | .str i, .str j, Q => Q (.val (.bl (neg ^^ hasS j i)))
  | d, .tup ds, Q => dInSeq neg d ds Q
  | d, .lst ds, Q => dInSeq neg d ds Q
  | _, _, _ => False
theorem RpL.strs {Hb : Hp} : ∀ {bs : List Str} {vs : List V}, RpL K Hb (bs.map D.str) vs → vs = bs.map V.str
  | [], _, h => by cases h; rfl
  | b :: bs, _, h => by
    cases h with
    | cons a r => cases a; rw [RpL.strs r]; rfl
theorem inV_strs (x : Str) : ∀ ss : List Str, inV (.str x) (ss.map V.str) = ss.any fun y => y == x
  | [] => rfl
  | s :: ss => by
    have ih := inV_strs x ss
    unfold inV at ih ⊢
    rw [List.map_cons, List.any_cons, List.any_cons, ih]
    rfl
theorem inV_ints (x : Int) : ∀ ss : List Int, inV (.int x) (ss.map V.int) = ss.any fun y => y == x
  | [] => rfl
  | s :: ss => by
    have ih := inV_ints x ss
    unfold inV at ih ⊢
    rw [List.map_cons, List.any_cons, List.any_cons, ih]
    rfl
theorem inSeq_ok {Hb H : Hp} {neg : Bool} {d : D} {ds : List D} {p : Addr} {v : V} {vs : List V} {Q : W → Prop} {Q' : VK} (s : Same Hb H) (hd : RR K Hb H d v) (hq : SqL K H p vs ∨ SqT K H p vs) (hr : RpL K Hb ds vs) (g : dInSeq neg d ds Q)
    (k : ∀ w v H' Hb', ExtH Hb H Hb' H' → RO K Hb' H H' w v → Q w → Q' v H') : rIn K neg v (.ref p) H Q' := by
  rcases g with ⟨x, ss, rfl, rfl, g⟩ | ⟨x, ss, rfl, rfl, g⟩
  · cases hd
    cases hr.strs
    refine ⟨p, _, rfl, hq, rfl, by simp [flatV], k (.val (.bl _)) _ _ _ (.refl s) ?_ g⟩
    rw [inV_strs]
    cases neg
    · simp; exact .bl _
    · simp; exact .bl _
  · cases hd
    cases hr.ints
    refine ⟨p, _, rfl, hq, rfl, by simp [flatV], k (.val (.bl _)) _ _ _ (.refl s) ?_ g⟩
    rw [inV_ints]
    cases neg
    · simp; exact .bl _
    · simp; exact .bl _
def rInAll (K : PySem.W.Frag) : R2 := fun x y H Q => (∃ i j, x = .str i ∧ y = .str j ∧ Q (.bl (!(Builtin.Str.occurrences j i 0 j.length 1).isEmpty)) H) ∨ rIn K false x y H Q
def rNinAll (K : PySem.W.Frag) : R2 := fun x y H Q => (∃ i j, x = .str i ∧ y = .str j ∧ Q (.bl (!(!(Builtin.Str.occurrences j i 0 j.length 1).isEmpty))) H) ∨ rIn K true x y H Q
theorem ops_in : OpS K (rInAll K) (dIn false) := by
  intro Hb H d1 d2 v1 v2 Q Q' s r1 r2 g k
  unfold dIn at g
  split at g
  · cases r1; cases r2
    exact .inl ⟨_, _, rfl, rfl, k (.val (.bl _)) _ _ _ (.refl s) (.bl _) (by simpa [hasS] using g)⟩
  · cases r2 with
    | tup s1 p1 => exact .inr (inSeq_ok s r1 (.inr (same_seqT s s1)) p1 g k)
  · cases r2 with
    | lst s1 p1 => exact .inr (inSeq_ok s r1 (.inl (.of s1)) p1 g k)
  · exact g.elim
theorem ops_nin : OpS K (rNinAll K) (dIn true) := by
  intro Hb H d1 d2 v1 v2 Q Q' s r1 r2 g k
  unfold dIn at g
  split at g
  · cases r1; cases r2
    exact .inl ⟨_, _, rfl, rfl, k (.val (.bl _)) _ _ _ (.refl s) (.bl _) (by simpa [hasS] using g)⟩
  · cases r2 with
    | tup s1 p1 => exact .inr (inSeq_ok s r1 (.inr (same_seqT s s1)) p1 g k)
  · cases r2 with
    | lst s1 p1 => exact .inr (inSeq_ok s r1 (.inl (.of s1)) p1 g k)
  · exact g.elim
variable {a b : Expr} {ta tb : TE} {va vb : VT} {pos : Pos}
theorem ve_in (ha : VE X c Wx a ta va) (hb : VE X c Wx b tb vb) (hm : behindInMarks .In b = false := by rfl) : VE X c Wx (.Compare a [.In] [b] pos) (tOp (rInAll X.K) ta tb) (vOp (dIn false) va vb) := ve_cmp (OpR.or op_in_str op_in_seq) ops_in hm ha hb
theorem vt_in (ha : VE X c Wx a ta va) (hb : VE X c Wx b tb vb) (hm : behindInMarks .In b = false := by rfl) : VTe X c Wx (.Compare a [.In] [b] pos) (tTest (tOp (rInAll X.K) ta tb)) (vTest (vOp (dIn false) va vb)) := vt_cmp (OpR.or op_in_str op_in_seq) ops_in hm ha hb
/-! sep.join(texts) -/
def dJoin (a : Str) (d : D) (Q : W → Prop) : Prop := match d with
  | .tup ds => ∃ ss : List Str, ds = ss.map D.str ∧ (ss.map (·.length)).sum + ss.length * a.length ≤ 16777216 ∧ Q (.val (.str (Txt.join a ss)))
  | .lst ds => ∃ ss : List Str, ds = ss.map D.str ∧ (ss.map (·.length)).sum + ss.length * a.length ≤ 16777216 ∧ Q (.val (.str (Txt.join a ss)))
  | _ => False
@[simp] theorem dJoin_tup {a : Str} {ds : List D} {Q : W → Prop} : dJoin a (.tup ds) Q = ∃ ss : List Str, ds = ss.map D.str ∧ (ss.map (·.length)).sum + ss.length * a.length ≤ 16777216 ∧ Q (.val (.str (Txt.join a ss))) := rfl
@[simp] theorem dJoin_lst {a : Str} {ds : List D} {Q : W → Prop} : dJoin a (.lst ds) Q = ∃ ss : List Str, ds = ss.map D.str ∧ (ss.map (·.length)).sum + ss.length * a.length ≤ 16777216 ∧ Q (.val (.str (Txt.join a ss))) := rfl
def strW (w : W) (k : Str → Prop) : Prop := match w with
  | .val (.str a) => k a
  | _ => False
@[simp] theorem strW_s {a : Str} {k : Str → Prop} : strW (.val (.str a)) k = k a := rfl
@[simp] def vJoin (ta tb : VT) : VT := fun env Q QX => ta env (fun w1 env1 => strW w1 fun a => tb env1 (fun w2 env2 => rd w2 env2 fun d2 => dJoin a d2 fun w => Q w env2) QX) QX
theorem ve_join {o e : Expr} {to te : TE} {vo ve : VT} {apos pos : Pos} (ho : VE X c Wx o to vo) (he : VE X c Wx e te ve) (hs : starEach [e] X.env = [(false, eval e X.env)] := by rfl) (hbase : attributeBase o "join" X.env (eval o X.env) = eval o X.env := by rfl) (hline : (apos.endLine == pos.line) = true := by rfl) :
    VE X c Wx (.Call (.Attribute o "join" apos) [e] [] pos) (tM1 (fun x xs H Q => ∃ a p, ∃ ys : List Str, x = .str a ∧ xs = [.ref p] ∧ (SqL X.K H p (ys.map V.str) ∨ SqT X.K H p (ys.map V.str)) ∧
      (ys.map (·.length)).sum + ys.length * a.length ≤ 16777216 ∧ Q (.str (Txt.join a ys)) H) to te) (vJoin vo ve) := by
  refine ⟨pe_join ho.pe he.pe hs hbase hline, fun f Hb env σ H Q QX Q' R q px k => ?_⟩
  refine ho.sim f Hb env σ H _ QX _ R q px fun w1 env1 v1 H1 Hb1 s1 R1 r1 q1 => ?_
  unfold strW at q1
  split at q1
  · rename_i a
    have r1 : Rp X.K Hb1 (.str a) v1 := r1
    cases r1
    refine ⟨⟨_, rfl⟩, ?_⟩
    refine he.sim f Hb1 env1 σ H1 _ QX _ R1 q1 (px.mn s1) fun w2 env2 v2 H2 Hb2 s2 R2 r2 q2 => ?_
    obtain ⟨d2, e2, q2⟩ := rd_of q2
    have rr2 := R2.rd r2 e2
    unfold dJoin at q2
    split at q2
    · obtain ⟨ss, rfl, hz, q2⟩ := q2
      cases rr2 with
      | tup g1 p1 =>
        cases p1.strs
        exact ⟨_, _, ss, rfl, rfl, .inr (same_seqT R2.sub g1), hz, k (.val (.str _)) _ _ _ _ (s1.trans s2) R2 (.str _) q2⟩
    · obtain ⟨ss, rfl, hz, q2⟩ := q2
      cases rr2 with
      | lst g1 p1 =>
        cases p1.strs
        exact ⟨_, _, ss, rfl, rfl, .inl (.of g1), hz, k (.val (.str _)) _ _ _ _ (s1.trans s2) R2 (.str _) q2⟩
    · exact q2.elim
  · exact q1.elim
/-! max(i, j, k) -/
@[simp] def dMax3 : GN
  | [.int i, .int j, .int k], Q => Q (.val (.int (if (if i < j then j else i) < k then k else (if i < j then j else i))))
  | _, _ => False
theorem paired3 {α β : Type} {F : α → β → Prop} {a a' a'' : α} {bs : List β} (h : Paired F [a, a', a''] bs) : ∃ b b' b'', bs = [b, b', b''] ∧ F a b ∧ F a' b' ∧ F a'' b'' := by
  cases h with
  | cons p r => obtain ⟨b, b', rfl, q, q'⟩ := paired2 r; exact ⟨_, _, _, rfl, p, q, q'⟩
theorem calls_max3 : CallS K (rNuC3 nuMax3) dMax3 := by
  intro Hb H ds vs Q Q' s p g k
  unfold dMax3 at g
  split at g
  · rename_i i j l
    obtain ⟨v, v', v'', rfl, r, r', r''⟩ := paired3 p
    cases r; cases r'; cases r''
    refine ⟨_, _, _, .int (if (if i < j then j else i) < l then l else (if i < j then j else i)), rfl, ?_, k (.val (.int _)) _ _ _ (.refl s) (.int _) g⟩
    unfold nuMax3 nuMax2 nuLt nuCB
    by_cases h1 : i < j
    · by_cases h2 : j < l <;> simp [h1, h2]
    · by_cases h2 : i < l <;> simp [h1, h2]
  · exact g.elim
theorem ve_max3 {p : Pos} {d : Expr} {t : TA} {v : VTA} (hm : X.mg "max" = none) (ha : VA X c Wx [a, b, d] t v) (hc : X.calm = true := by rfl) (hg : Gl X "max" := by rfl) (he : starEach [a, b, d] X.env = (false, eval a X.env) :: starEach [b, d] X.env := by rfl) (hpl : (backTo pos (starEach [b, d] X.env)).any (·.1) = false := by rfl) : VE X c Wx (.Call (.Name "max" p) [a, b, d] [] pos) (tCB (rNuC3 nuMax3) t) (vCB dMax3 v) := ve_callB (call_max3Nu hc) calls_max3 hm (by decide +kernel) ha hg (by decide) (by decide) he hpl
end
theorem while_pure {t : VTT} {b : VS} {DV : VEnds} {env : Env} (I : Nat → Env → Prop) (h0 : ∃ m, I m env)
    (turn : ∀ m env, I m env → ∃ c : Bool, (∀ Q : Bool → Env → Prop, Q c env → t env Q DV.ex) ∧ (c = true → ∀ L : Env → Prop, (∀ m' e, m' < m → I m' e → L e) → b { DV with nx := L, ct := L, bk := DV.nx } env) ∧ (c = false → DV.nx env)) : vWhile t b DV env := by
  refine ⟨I, h0, fun m env i => ?_⟩
  obtain ⟨c, h1, h2, h3⟩ := turn m env i
  refine h1 _ ?_
  cases c with
  | false => rw [if_neg Bool.false_ne_true]; exact h3 rfl
  | true => rw [if_pos rfl]; exact h2 rfl (fun e => ∃ m', m' < m ∧ I m' e) fun m' e a b => ⟨m', a, b⟩
/-- a text of the module -/
theorem glob_str {K : PySem.W.Frag} {mg : Str → Option Value} {x y : Str} {t : Nat} (h : mg x = some (.str y t)) : GlobK K mg x (.str y) (.str y) := ⟨⟨_, h, ⟨_, rfl⟩⟩, fun H => .str y⟩
theorem glob_int {K : PySem.W.Frag} {mg : Str → Option Value} {x : Str} {i : Int} {t : Nat} (h : mg x = some (.int i t)) : GlobK K mg x (.int i) (.int i) := ⟨⟨_, h, ⟨_, rfl⟩⟩, fun H => .int i⟩
end VL

set_option Elab.async false
set_option linter.all false
set_option maxRecDepth 100000
set_option maxHeartbeats 4000000
namespace K08
open PySem PySem.Spec PyProof.Rows L2 VL
def topS (i : Nat) : Stmt := PySem.Challenge.pw_cubesums_k08_tokens.main.body.getD i (.Pass ⟨0, 0, 0, 0⟩)
/-! ### tokens, in plain lists -/
def lettersS : Str := Str.ofString "abcdefghijklmnopqrstuvwxyz"
def digitsS : Str := Str.ofString "0123456789"
def letters : List Nat := lettersS.cps.toList
def digits : List Nat := digitsS.cps.toList
def blanks : List Nat := (Str.ofString " ").cps.toList
def kind (c : Nat) : Nat := if c ∈ letters then 1 else if c ∈ digits then 2 else 0
theorem apart : ∀ c ∈ digits, c ∉ letters := by decide +kernel
theorem blank_eq : blanks = [32] := by decide +kernel
theorem kind_blank : kind 32 = 0 := by decide +kernel
theorem kind1 {c : Nat} : kind c = 1 ↔ c ∈ letters := by
  unfold kind
  by_cases h : c ∈ letters
  · simp [h]
  · by_cases h2 : c ∈ digits <;> simp [h, h2]
theorem kind2 {c : Nat} : kind c = 2 ↔ c ∈ digits := by
  unfold kind
  by_cases h : c ∈ letters
  · simp [h]
    intro h2
    exact apart c h2 h
  · by_cases h2 : c ∈ digits <;> simp [h, h2]
theorem kind_le {c : Nat} : kind c = 0 ∨ kind c = 1 ∨ kind c = 2 := by
  unfold kind
  by_cases h : c ∈ letters
  · simp [h]
  · by_cases h2 : c ∈ digits <;> simp [h, h2]
/-- the run behind a sign -/
def runK (c : Nat) (r : List Nat) : List Nat := if kind c = 0 then [] else r.takeWhile fun x => kind x == kind c
theorem runK_le (c : Nat) (r : List Nat) : (runK c r).length ≤ r.length := by
  unfold runK
  split
  · exact Nat.zero_le _
  · exact (List.takeWhile_sublist _).length_le
def tok : List Nat → List (List Nat)
  | [] => []
  | c :: r => if c = 32 then tok r else (c :: runK c r) :: tok (r.drop (runK c r).length)
termination_by l => l.length
decreasing_by
  · simp
  · simp; omega
theorem drop_tw {p : Nat → Bool} : ∀ l : List Nat, l.drop (l.takeWhile p).length = l.dropWhile p
  | [] => rfl
  | c :: r => by
    by_cases h : p c = true
    · simp [List.takeWhile, List.dropWhile, h, drop_tw r]
    · simp [List.takeWhile, List.dropWhile, h]
theorem take_tw {p : Nat → Bool} : ∀ l : List Nat, l.take (l.takeWhile p).length = l.takeWhile p
  | [] => rfl
  | c :: r => by
    by_cases h : p c = true
    · simp [List.takeWhile, h, take_tw r]
    · simp [List.takeWhile, h]
theorem tok_skip : ∀ l : List Nat, tok (l.dropWhile fun x => decide (x ∈ blanks)) = tok l
  | [] => rfl
  | c :: r => by
    by_cases h : c = 32
    · subst h
      rw [List.dropWhile_cons, if_pos (by rw [blank_eq]; decide), tok_skip r]
      conv => rhs; rw [tok]
      rw [if_pos rfl]
    · rw [List.dropWhile_cons, if_neg (by rw [blank_eq]; simpa using h)]
theorem head_skip {l r : List Nat} {c : Nat} (h : l.dropWhile (fun x => decide (x ∈ blanks)) = c :: r) : c ≠ 32 := fun e => by
  induction l with
  | nil => cases h
  | cons a l ih =>
    rw [List.dropWhile_cons] at h
    split at h
    · exact ih h
    · rename_i z
      cases h
      rw [e, blank_eq] at z
      exact z (by decide)
/-- where a run of signs ends -/
def runL (s L : List Nat) (a : Nat) : Nat := a + ((L.drop a).takeWhile fun x => decide (x ∈ s)).length
theorem drop_run (s L : List Nat) (a : Nat) : L.drop (runL s L a) = (L.drop a).dropWhile fun x => decide (x ∈ s) := by
  unfold runL
  rw [← List.drop_drop, drop_tw]
theorem run_max {L r : List Nat} {a c : Nat} (h : L.drop a = c :: r) (hc : c ≠ 32) : max (max (runL letters L a) (runL digits L a)) (a + 1) = a + 1 + (runK c r).length := by
  unfold runL runK
  rw [h]
  have p1 : (fun x => decide (x ∈ letters)) = fun x => kind x == 1 := by
    funext x
    by_cases z : x ∈ letters
    · simp [z, kind1.mpr z]
    · have : kind x ≠ 1 := fun e => z (kind1.mp e)
      simp [z, this]
  have p2 : (fun x => decide (x ∈ digits)) = fun x => kind x == 2 := by
    funext x
    by_cases z : x ∈ digits
    · simp [z, kind2.mpr z]
    · have : kind x ≠ 2 := fun e => z (kind2.mp e)
      simp [z, this]
  rw [p1, p2]
  rcases kind_le (c := c) with e | e | e
  · simp [List.takeWhile_cons, e]
  · simp [List.takeWhile_cons, e]; omega
  · simp [List.takeWhile_cons, e]; omega
abbrev tS (w : List Nat) : D := .str ⟨w.toArray⟩
def spRunEnd : VSp := fun ms A _ => ∃ (t s : Str) (a : Nat), ms = [.val (.str t), .val (.int a), .val (.str s)] ∧ t.length ≤ 10000 ∧ A (.val (.int (runL s.cps.toList t.cps.toList a : Nat))) ms
def spTokens : VSp := fun ms A _ => ∃ t : Str, ms = [.val (.str t)] ∧ t.length ≤ 10000 ∧ A (.val (.tup ((tok t.cps.toList).map tS))) ms
section
variable {P : Program} {w : World} {K : PySem.W.Frag} {mg : Str → Option Value} {base : Heap}
abbrev sRunEnd : Stmt := topS 3
theorem scRunEnd : FnScope ["text", "at", "signs"] ["text", "at", "signs"] (defScope sRunEnd) := ⟨rfl, rfl, rfl, by decide +kernel, rfl, by decide +kernel, by decide +kernel⟩
/-- the derivation of run_end: slots 0=text 1=at 2=signs -/
theorem okRunEnd {f : Addr} {fd : FuncData} {k : Nat} {T : List Addr}
    (F : FunB K mg "run_end" sRunEnd ["text", "at", "signs"] f fd)
    (m_len : mg "len" = none) : Callee P w K mg base T "run_end" (k + 1) ["text", "at", "signs"] spRunEnd f fd := by
  have nd := scRunEnd.nd
  refine vl_fn (fx := []) F scRunEnd (by decide) (fun ms A B h => ?_) (fun cdv A outer s H E hr => ⟨_, (vss_cons (vst_while (passes_of rfl) (VW.vt (vw_and (vt_lt (ve_name 1) (ve_len m_len (va_cons (ve_name 0) va_nil))) (vw_and1 (vt_in (ve_ix (ve_name 0) (ve_name 1)) (ve_name 2))))) (vss_one (vst_set 1 nd (ve_add (ve_name 1) ve_int))))
      (vss_one (vst_ret (ve_name 1))))⟩) ?_
  · obtain ⟨t, s, a, rfl, hz, h⟩ := h
    exact hl0 rfl (by simp)
  · intro ms A B h
    obtain ⟨t, s, a, rfl, hz, h⟩ := h
    have hz2 : t.length ≤ sizeLine := Nat.le_trans hz (by decide)
    have hl : t.length = t.cps.toList.length := by simp [Str.length]
    simp
    refine ⟨fun m e => ∃ b : Nat, e = [some (.val (.str t)), some (.val (.int b)), some (.val (.str s))] ∧ m = t.length - b ∧ runL s.cps.toList t.cps.toList b = runL s.cps.toList t.cps.toList a, ⟨_, a, rfl, rfl, rfl⟩, ?_⟩
    rintro m e ⟨b, rfl, rfl, hb⟩
    by_cases hlt : b < t.length
    · have e1 : t.cps.toList[b]? = some t.cps.toList[b] := List.getElem?_eq_getElem (by omega)
      have e2 : atI t.cps.toList (b : Int) = some t.cps.toList[b] := atI_nat e1
      have e3 : t.cps.toList.drop b = t.cps.toList[b] :: t.cps.toList.drop (b + 1) := List.drop_eq_getElem_cons (by omega)
      generalize t.cps.toList[b] = n at *
      simp [hlt, hz2, e2, hasS_one]
      by_cases hn : n ∈ s.cps.toList
      · have hn' : n ∈ s.cps := by simpa using hn
        simp [hn']
        refine ⟨t.length - (b + 1), by omega, b + 1, by simp, rfl, ?_⟩
        rw [← hb]
        unfold runL
        rw [e3, List.takeWhile_cons, if_pos (by simpa using hn)]
        simp; omega
      · have hn' : n ∉ s.cps := by simpa using hn
        simp [hn']
        have : runL s.cps.toList t.cps.toList b = b := by
          unfold runL
          rw [e3, List.takeWhile_cons, if_neg (by simpa using hn)]
          rfl
        rw [← hb, this] at h
        exact h
    · simp [hlt, hz2]
      have : runL s.cps.toList t.cps.toList b = b := by
        unfold runL
        rw [List.drop_eq_nil_of_le (by omega)]
        rfl
      rw [← hb, this] at h
      exact h
end
end K08

set_option Elab.async false
set_option linter.all false
set_option maxRecDepth 100000
set_option maxHeartbeats 4000000
namespace K08
open PySem PySem.Spec PyProof.Rows L2 VL
section
variable {P : Program} {w : World} {K : PySem.W.Frag} {mg : Str → Option Value} {base : Heap}
abbrev sTokens : Stmt := topS 4
theorem scTokens : FnScope ["text", "found", "at", "behind"] ["text"] (defScope sTokens) := ⟨rfl, rfl, rfl, by decide +kernel, rfl, by decide +kernel, by decide +kernel⟩
/-- the derivation of tokens: slots 0=text 1=found 2=at 3=behind -/
theorem okTokens {f : Addr} {fd : FuncData} {k : Nat} {T : List Addr}
    (F : FunB K mg "tokens" sTokens ["text"] f fd)
    {fRunEnd : Addr} {fdRunEnd : FuncData} (C_run_end : Callee P w K mg base T "run_end" k ["text", "at", "signs"] spRunEnd fRunEnd fdRunEnd)
    (m_len : mg "len" = none)
    (m_max : mg "max" = none)
    (m_tuple : mg "tuple" = none)
     {v_LETTERS : V} (G_LETTERS : GlobK K mg "LETTERS" (.str lettersS) v_LETTERS) {v_DIGITS : V} (G_DIGITS : GlobK K mg "DIGITS" (.str digitsS) v_DIGITS) : Callee P w K mg base T "tokens" (k + 1) ["text"] spTokens f fd := by
  have nd := scTokens.nd
  refine vl_fn (fx := []) F scTokens (by decide) (fun ms A B h => ?_) (fun cdv A outer s H E hr => ⟨_, (vss_cons (vst_own 1 nd (ve_lst va_nil))
      (vss_cons (vst_set 2 nd (ve_fn C_run_end hr (takes_of rfl rfl rfl rfl) (va_cons (ve_name 0) (va_cons ve_int (va_cons ve_str va_nil)))))
      (vss_cons (vst_while (passes_of rfl) (vt_lt (ve_name 2) (ve_len m_len (va_cons (ve_name 0) va_nil))) (vss_cons (vst_set 3 nd (ve_max3 m_max (va_cons (ve_fn C_run_end hr (takes_of rfl rfl rfl rfl) (va_cons (ve_name 0) (va_cons (ve_name 2) (va_cons (ve_gl G_LETTERS) va_nil)))) (va_cons (ve_fn C_run_end hr (takes_of rfl rfl rfl rfl) (va_cons (ve_name 0) (va_cons (ve_name 2) (va_cons (ve_gl G_DIGITS) va_nil)))) (va_cons (ve_add (ve_name 2) ve_int) va_nil)))))
      (vss_cons (vst_expr (ve_append (ve_name 1) (va_cons (ve_sl (ve_name 0) (vo_some (ve_name 2)) (vo_some (ve_name 3))) va_nil)))
      (vss_one (vst_set 2 nd (ve_fn C_run_end hr (takes_of rfl rfl rfl rfl) (va_cons (ve_name 0) (va_cons (ve_name 3) (va_cons ve_str va_nil)))))))))
      (vss_one (vst_ret (ve_tuplec m_tuple (va_cons (ve_name 1) va_nil)))))))⟩) ?_
  · obtain ⟨t, rfl, hz, h⟩ := h
    exact hl0 rfl (by simp)
  · intro ms A B h
    obtain ⟨t, rfl, hz, h⟩ := h
    have hz2 : t.length ≤ sizeLine := Nat.le_trans hz (by decide)
    have hl : t.length = t.cps.toList.length := by simp [Str.length]
    generalize hL : t.cps.toList = L at *
    refine seq_step fun K0 k => ?_
    simp
    apply k; clear k K0
    refine seq_step fun K0 k => ?_
    simp
    refine ⟨t, _, 0, rfl, hz, ?_⟩
    simp
    apply k; clear k K0
    refine seq_step fun K0 k => ?_
    rw [hL]
    refine while_pure (fun m e => ∃ (a : Nat) (fs : List (List Nat)) (a3 : Option M), e = [some (.val (.str t)), some (.own (.lst (fs.map tS))), some (.val (.int a)), a3] ∧ m = t.length - a ∧ fs ++ tok (L.drop a) = tok L ∧ fs.length ≤ a ∧ (∀ c r, L.drop a = c :: r → c ≠ 32)) ⟨_, runL blanks L 0, [], none, rfl, rfl, ?_, Nat.zero_le _, ?_⟩ ?_
    · rw [drop_run, tok_skip]; rfl
    · intro c r e
      rw [drop_run] at e
      exact head_skip e
    rintro m e ⟨a, fs, a3, rfl, rfl, ht, hf, hc⟩
    refine ⟨decide (a < t.length), fun Q hQ => ?_, fun hb L0 k0 => ?_, fun hb => ?_⟩
    · simp
      exact ⟨hz2, hQ⟩
    · have hlt : a < t.length := of_decide_eq_true hb
      have e3 : L.drop a = L[a] :: L.drop (a + 1) := List.drop_eq_getElem_cons (by omega)
      have c32 := hc _ _ e3
      generalize L[a] = c at *
      generalize hr : L.drop (a + 1) = r at *
      have rm := run_max e3 c32
      have rk := runK_le c r
      have rl : r.length = t.length - (a + 1) := by rw [← hr, List.length_drop, ← hl]
      have hsz : (20000 : Nat) ≤ sizeLine := by decide
      refine seq_step fun L1 k1 => ?_
      simp
      refine ⟨t, _, a, rfl, hz, ?_⟩
      simp
      refine ⟨t, _, a, rfl, hz, ?_⟩
      simp
      rw [hL]
      change max (max (runL lettersS.cps.toList L a) (runL digitsS.cps.toList L a)) (a + 1) = _ at rm
      generalize runL lettersS.cps.toList L a = A1 at *
      generalize runL digitsS.cps.toList L a = B1 at *
      have em : (if (if A1 < B1 then (B1 : Int) else (A1 : Int)) < (a : Int) + 1 then (a : Int) + 1 else if A1 < B1 then (B1 : Int) else (A1 : Int)) = ((a + 1 + (runK c r).length : Nat) : Int) := by
        rw [← rm]
        split <;> split <;> omega
      rw [em]
      apply k1; clear k1 L1
      have ec : cutS t (some (a : Int)) (some ((a + 1 + (runK c r).length : Nat) : Int)) = ⟨(c :: runK c r).toArray⟩ := by
        unfold cutS
        rw [HT.sIx_nat, HT.sIx_nat, hL, Nat.min_eq_left (by omega), Nat.min_eq_left (by omega), e3]
        have : a + 1 + (runK c r).length - a = (runK c r).length + 1 := by omega
        rw [this, List.take_succ_cons]
        have : r.take (runK c r).length = runK c r := by
          unfold runK
          split
          · rfl
          · exact take_tw r
        rw [this]
      generalize hbh : a + 1 + (runK c r).length = bh at *
      refine seq_step fun L1 k1 => ?_
      simp
      refine ⟨hz2, by omega, ?_⟩
      apply k1; clear k1 L1
      rw [ec]
      simp
      refine ⟨t, _, bh, rfl, hz, ?_⟩
      simp
      rw [hL]
      have tk : tok (c :: r) = (c :: runK c r) :: tok (r.drop (runK c r).length) := by
        rw [tok, if_neg c32]
      have db : L.drop bh = r.drop (runK c r).length := by
        rw [← hbh, ← hr, List.drop_drop]
      refine k0 _ _ ?_ ⟨runL blanks L bh, fs ++ [c :: runK c r], some (.val (.int bh)), ?_, rfl, ?_, ?_, ?_⟩
      · have : bh ≤ runL blanks L bh := Nat.le_add_right _ _
        omega
      · rw [List.map_append]
        rfl
      · rw [drop_run, tok_skip, db, List.append_assoc, List.singleton_append, ← tk, ← e3]
        exact ht
      · have : bh ≤ runL blanks L bh := Nat.le_add_right _ _
        simp; omega
      · intro c' r' e
        rw [drop_run] at e
        exact head_skip e
    · have hlt : ¬a < t.length := of_decide_eq_false hb
      apply k
      simp
      have e0 : L.drop a = [] := List.drop_eq_nil_of_le (by omega)
      rw [e0] at ht
      have e1 : fs = tok L := by rw [← ht]; simp [tok]
      subst e1
      exact h
end
end K08

set_option Elab.async false
set_option linter.all false
set_option maxRecDepth 100000
set_option maxHeartbeats 4000000
namespace K08
open PySem PySem.Spec PyProof.Rows L2 VL
section
variable {P : Program} {w : World} {K : PySem.W.Frag} {mg : Str → Option Value} {base : Heap}
/-! ### the script's box -/
abbrev iD (ns : List Int) : List D := ns.map D.int
abbrev boxD (ds : List Int) (at_ : Int) : OC := .lst [.lst (iD ds), .int at_]
def spLawCell : VSp := fun ms A _ => ∃ (ns : List Int) (k : Int), ms = [.val (.scr (iD ns)), .val (.int k)] ∧ 0 ≤ k ∧ ∀ i : Int, A (.val (.int i)) ms
def spLawDigits : VSp := fun ms A _ => ∃ c at_ : Int, ms = [.val (.int c), .val (.int at_)] ∧ ∀ ds : List Int, ds.length ≤ 60 → A (.tmp (.lst (iD ds))) ms
def spLawBox : VSp := fun ms A _ => ∃ (ns : List Int) (at_ : Int), ms = [.val (.scr (iD ns)), .val (.int at_)] ∧ 0 ≤ at_ ∧ ∀ ds : List Int, ds.length ≤ 60 → A (.tmp (boxD ds 0)) ms
def spLawDraw : VSp := fun ms A _ => ∃ (ds : List Int) (at_ many : Int), ms = [.own (boxD ds at_), .val (.int many)] ∧ 0 ≤ at_ ∧ 0 < many ∧ ∀ r : Int, 0 ≤ r → r < many → A (.val (.int r)) [.own (boxD ds (at_ + 1)), .val (.int many)]
theorem atI_ints {ns : List Int} {k : Int} (h0 : 0 ≤ k) (h : k < ns.length) : ∃ i, atI (iD ns) k = some (.int i) := by
  obtain ⟨j, rfl⟩ : ∃ j : Nat, k = j := ⟨k.toNat, by omega⟩
  have hj : j < ns.length := by omega
  exact ⟨ns[j], atI_nat (by rw [List.getElem?_map, List.getElem?_eq_getElem hj]; rfl)⟩
abbrev sLawCell : Stmt := topS 6
theorem scLawCell : FnScope ["_law_script", "_law_k"] ["_law_script", "_law_k"] (defScope sLawCell) := ⟨rfl, rfl, rfl, by decide +kernel, rfl, by decide +kernel, by decide +kernel⟩
/-- the derivation of _law_cell: slots 0=_law_script 1=_law_k -/
theorem okLawCell {f : Addr} {fd : FuncData} {k : Nat} {T : List Addr}
    (F : FunB K mg "_law_cell" sLawCell ["_law_script", "_law_k"] f fd)
    (m_len : mg "len" = none)
    (m_int : mg "int" = none) : Callee P w K mg base T "_law_cell" (k + 1) ["_law_script", "_law_k"] spLawCell f fd := by
  have nd := scLawCell.nd
  refine vl_fn (fx := []) F scLawCell (by decide) (fun ms A B h => ?_) (fun cdv A outer s H E hr => ⟨_, (vss_cons (vst_if (vt_lt (ve_name 1) (ve_len m_len (va_cons (ve_name 0) va_nil))) (vss_one (vst_ret (ve_intc m_int (va_cons (ve_ix (ve_name 0) (ve_name 1)) va_nil)))) vss_nil)
      (vss_one (vst_ret ve_int)))⟩) ?_
  · obtain ⟨ns, k, rfl, h0, h⟩ := h
    exact hl0 rfl (by simp)
  · intro ms A B h
    obtain ⟨ns, k, rfl, h0, h⟩ := h
    simp
    refine ite2 (fun e => ?_) (fun e => h 0)
    obtain ⟨i, hi⟩ := atI_ints h0 e
    rw [hi]
    exact ⟨_, rfl, h i⟩
abbrev sLawDigits : Stmt := topS 7
theorem scLawDigits : FnScope ["_law_cell_here", "_law_at", "_law_digits_here", "_law_turn", "_law_seed"] ["_law_cell_here", "_law_at"] (defScope sLawDigits) := ⟨rfl, rfl, rfl, by decide +kernel, rfl, by decide +kernel, by decide +kernel⟩
/-- the derivation of _law_digits: slots 0=_law_cell_here 1=_law_at 2=_law_digits_here 3=_law_turn 4=_law_seed -/
theorem okLawDigits {f : Addr} {fd : FuncData} {k : Nat} {T : List Addr}
    (F : FunB K mg "_law_digits" sLawDigits ["_law_cell_here", "_law_at"] f fd)
    (m_range : mg "range" = none)
    (m_int : mg "int" = none) : Callee P w K mg base T "_law_digits" (k + 1) ["_law_cell_here", "_law_at"] spLawDigits f fd := by
  have nd := scLawDigits.nd
  refine vl_fn (fx := []) F scLawDigits (by decide) (fun ms A B h => ?_) (fun cdv A outer s H E hr => ⟨_, (vss_cons (vst_own 2 nd (ve_lst va_nil))
      (vss_cut (vst_if (vt_lt (ve_name 0) ve_int) (vss_one (vst_set 0 nd (ve_sub ve_int (ve_mul ve_int (ve_name 0))))) vss_nil)
      (vss_cut (vst_if (vt_ge (ve_name 0) (ve_pow ve_int ve_int)) (vss_one (vst_for (passes_of rfl) (vi_range1 m_range (va_cons ve_int va_nil)) (vg_name 3 nd) (vss_one (vst_if (vt_gt (ve_name 0) ve_int) (vss_cons (vst_expr (ve_append (ve_name 2) (va_cons (ve_mod (ve_intc m_int (va_cons (ve_name 0) va_nil)) ve_int) va_nil)))
      (vss_one (vst_set 0 nd (ve_div (ve_name 0) ve_int)))) vss_nil)))) (vss_cons (vst_set 4 nd (ve_mod (ve_intc m_int (va_cons (ve_add (ve_add (ve_mul (ve_name 0) ve_int) (ve_mul (ve_name 1) ve_int)) ve_int) va_nil)) ve_int))
      (vss_one (vst_for (passes_of rfl) (vi_range1 m_range (va_cons ve_int va_nil)) (vg_name 3 nd) (vss_cons (vst_set 4 nd (ve_mod (ve_intc m_int (va_cons (ve_add (ve_add (ve_mul (ve_name 4) ve_int) (ve_mul ve_int (ve_name 3))) ve_int) va_nil)) ve_int))
      (vss_one (vst_expr (ve_append (ve_name 2) (va_cons (ve_mod (ve_intc m_int (va_cons (ve_div (ve_name 4) ve_int) va_nil)) ve_int) va_nil)))))))))
      (vss_one (vst_ret (ve_name 2))))))⟩) ?_
  · obtain ⟨c, at_, rfl, h⟩ := h
    exact hl0 rfl (by simp)
  · intro ms A B h
    obtain ⟨c, at_, rfl, h⟩ := h
    simp
    refine cut_of (fun e => ∃ c' : Int, e = [some (.val (.int c')), some (.val (.int at_)), some (.own (.lst [])), none, none]) (fun L k => ?_) ?_
    · simp
      exact ite2 (fun e => ⟨mulL (by omega), k _ ⟨_, rfl⟩⟩) (fun e => k _ ⟨c, rfl⟩)
    · rintro e ⟨c', rfl⟩
      refine cut_of (fun e => ∃ (a0 : D) (ds : List Int) (a3 a4 : Option M), e = [some (.val a0), some (.val (.int at_)), some (.own (.lst (iD ds))), a3, a4] ∧ ds.length ≤ 60) (fun L k => ?_) ?_
      · simp
        refine ⟨by unfold CPow; decide, ite2 (fun e => ?_) (fun e => ?_)⟩
        · refine loop_ind (fun items env => ∃ (c : Int) (ds : List Int) (a3 a4 : Option M), env = [some (.val (.int c)), some (.val (.int at_)), some (.own (.lst (iD ds))), a3, a4] ∧ ds.length + items.length ≤ 60) ?_ ?_ _ _ ?_
          · rintro d rest env L ⟨c, ds, a3, a4, rfl, hl⟩ k
            simp
            refine ite2 (fun e => ?_) (fun e => k _ ⟨_, _, _, _, rfl, by simp at hl ⊢; omega⟩)
            refine ⟨by simp at hl; have : (100 : Nat) ≤ sizeLine := by decide
                       omega, divW (by decide) (by decide), k _ ⟨_, ds ++ [Int.fmod c 1000], _, _, by simp; exact ⟨rfl, rfl, rfl⟩, by simp at hl ⊢; omega⟩⟩
          · rintro env ⟨c, ds, a3, a4, rfl, hl⟩
            exact k _ ⟨_, _, _, _, rfl, by simpa using hl⟩
          · exact ⟨c', [], none, none, rfl, by simp⟩
        · refine ⟨mulR (by omega), mulR (by omega), ?_⟩
          refine loop_ind (fun items env => ∃ (s : Int) (ds is : List Int) (a3 : Option M), items = iD is ∧ env = [some (.val (.int c')), some (.val (.int at_)), some (.own (.lst (iD ds))), a3, some (.val (.int s))] ∧ ds.length + is.length ≤ 60) ?_ ?_ _ _ ?_
          · rintro d rest env L ⟨s, ds, is, a3, e, rfl, hl⟩ k
            cases is with
            | nil => cases e
            | cons i is =>
              cases e
              simp
              have hl : ds.length + (is.length + 1) ≤ 60 := hl
              have : (100 : Nat) ≤ sizeLine := by decide
              exact ⟨mulR (by omega), mulL (by omega), divW (by decide) (by decide), by omega, k _ ⟨_, ds ++ [Int.fmod ((s * 16807 + 7 * i + 1).fmod 2147483647 |>.fdiv 997) 1000], is, _, rfl, by simp; exact ⟨rfl, rfl⟩, by simp; omega⟩⟩
          · rintro env ⟨s, ds, is, a3, e, rfl, hl⟩
            exact k _ ⟨_, _, _, _, rfl, by omega⟩
          · exact ⟨_, [], (List.range 60).map fun k : Nat => (k : Int), none, by simp [iD], rfl, by simp⟩
      · rintro e ⟨a0, ds, a3, a4, rfl, hl⟩
        simp
        exact h ds hl
abbrev sLawBox : Stmt := topS 8
theorem scLawBox : FnScope ["_law_script", "_law_at"] ["_law_script", "_law_at"] (defScope sLawBox) := ⟨rfl, rfl, rfl, by decide +kernel, rfl, by decide +kernel, by decide +kernel⟩
/-- the derivation of _law_box: slots 0=_law_script 1=_law_at -/
theorem okLawBox {f : Addr} {fd : FuncData} {k : Nat} {T : List Addr}
    (F : FunB K mg "_law_box" sLawBox ["_law_script", "_law_at"] f fd)
    {fLawDigits : Addr} {fdLawDigits : FuncData} (C__law_digits : Callee P w K mg base T "_law_digits" k ["_law_cell_here", "_law_at"] spLawDigits fLawDigits fdLawDigits)
    {fLawCell : Addr} {fdLawCell : FuncData} (C__law_cell : Callee P w K mg base T "_law_cell" k ["_law_script", "_law_k"] spLawCell fLawCell fdLawCell) : Callee P w K mg base T "_law_box" (k + 1) ["_law_script", "_law_at"] spLawBox f fd := by
  have nd := scLawBox.nd
  refine vl_fn (fx := []) F scLawBox (by decide) (fun ms A B h => ?_) (fun cdv A outer s H E hr => ⟨_, (vss_one (vst_ret (ve_lst (va_cons (ve_fn C__law_digits hr (takes_of rfl rfl rfl rfl) (va_cons (ve_fn C__law_cell hr (takes_of rfl rfl rfl rfl) (va_cons (ve_name 0) (va_cons (ve_name 1) va_nil))) (va_cons (ve_name 1) va_nil))) (va_cons ve_int va_nil)))))⟩) ?_
  · obtain ⟨ns, at_, rfl, h0, h⟩ := h
    exact hl0 rfl (by simp)
  · intro ms A B h
    obtain ⟨ns, at_, rfl, h0, h⟩ := h
    simp
    refine ⟨_, _, rfl, h0, fun i => ?_⟩
    simp
    refine ⟨_, _, rfl, fun ds hl => ?_⟩
    simp
    exact ⟨by decide, h ds hl⟩
abbrev sLawDraw : Stmt := topS 9
theorem scLawDraw : FnScope ["_law_box_here", "_law_many", "_law_at"] ["_law_box_here", "_law_many"] (defScope sLawDraw) := ⟨rfl, rfl, rfl, by decide +kernel, rfl, by decide +kernel, by decide +kernel⟩
/-- the derivation of _law_draw: slots 0=_law_box_here 1=_law_many 2=_law_at -/
theorem okLawDraw {f : Addr} {fd : FuncData} {k : Nat} {T : List Addr}
    (F : FunB K mg "_law_draw" sLawDraw ["_law_box_here", "_law_many"] f fd)
    (m_len : mg "len" = none)
    (m_int : mg "int" = none) : Callee P w K mg base T "_law_draw" (k + 1) ["_law_box_here", "_law_many"] spLawDraw f fd := by
  have nd := scLawDraw.nd
  refine vl_fn (fx := [0]) F scLawDraw (by decide) (fun ms A B h => ?_) (fun cdv A outer s H E hr => ⟨_, (vss_cons (vst_set 2 nd (ve_ix (ve_name 0) ve_int))
      (vss_cons (vst_asg (ve_add (ve_name 2) ve_int) (vg_sub (Wx := W0) (ve_name 0) ve_int))
      (vss_cons (vst_if (vt_lt (ve_name 2) (ve_len m_len (va_cons (ve_ix (ve_name 0) ve_int) va_nil))) (vss_one (vst_ret (ve_mod (ve_intc m_int (va_cons (ve_ix (ve_ix (ve_name 0) ve_int) (ve_name 2)) va_nil)) (ve_name 1)))) vss_nil)
      (vss_one (vst_ret ve_int)))))⟩) ?_
  · obtain ⟨ds, at_, many, rfl, h0, hm, h⟩ := h
    exact hl0 rfl (by simp)
  · intro ms A B h
    obtain ⟨ds, at_, many, rfl, h0, hm, h⟩ := h
    simp
    refine ite2 (fun e => ?_) (fun e => h 0 (by omega) hm)
    obtain ⟨i, hi⟩ := atI_ints h0 e
    rw [hi]
    exact ⟨_, rfl, by omega, h _ (Int.fmod_nonneg_of_pos _ hm) (Int.fmod_lt_of_pos _ hm)⟩
/-! ### the law's comparison -/
def dueOk : Nat → D → Prop
  | _, .int _ => True
  | _, .bl _ => True
  | _, .str _ => True
  | _, .non => True
  | n + 1, .tup ds => ds.length ≤ 1000 ∧ ∀ d ∈ ds, dueOk n d
  | _, _ => False
def spLawIsInteger : VSp := fun ms A _ => ∃ i : Int, ms = [.val (.int i)] ∧ A (.val (.bl true)) ms
/-- of depth below n -/
def spLawSame : Nat → VSp
  | 0 => fun _ _ _ => False
  | n + 1 => fun ms A _ => ∃ d : D, ms = [.val d, .val d] ∧ dueOk n d ∧ A (.val (.bl true)) ms
abbrev sLawIsInteger : Stmt := topS 10
theorem scLawIsInteger : FnScope ["_law_actual"] ["_law_actual"] (defScope sLawIsInteger) := ⟨rfl, rfl, rfl, by decide +kernel, rfl, by decide +kernel, by decide +kernel⟩
/-- the derivation of _law_is_integer: slots 0=_law_actual -/
theorem okLawIsInteger {f : Addr} {fd : FuncData} {k : Nat} {T : List Addr}
    (F : FunB K mg "_law_is_integer" sLawIsInteger ["_law_actual"] f fd)
    (m_isinstance : mg "isinstance" = none)
    (m_bool : mg "bool" = none)
    (m_int : mg "int" = none) : Callee P w K mg base T "_law_is_integer" (k + 1) ["_law_actual"] spLawIsInteger f fd := by
  have nd := scLawIsInteger.nd
  refine vl_fn (fx := []) F scLawIsInteger (by decide) (fun ms A B h => ?_) (fun cdv A outer s H E hr => ⟨_, (vss_one (vst_ret (ve_and (ve_isi .int m_isinstance m_int VL.boot_int (ve_name 0)) (ve_one (ve_not (ve_isi .bool m_isinstance m_bool VL.boot_bool (ve_name 0)))))))⟩) ?_
  · obtain ⟨i, rfl, h⟩ := h
    exact hl0 rfl (by simp)
  · intro ms A B h
    obtain ⟨i, rfl, h⟩ := h
    simp [isT]
    exact h
abbrev sLawSame : Stmt := topS 11
theorem scLawSame : FnScope ["_law_actual", "_law_due", "_law_at"] ["_law_actual", "_law_due"] (defScope sLawSame) := ⟨rfl, rfl, rfl, by decide +kernel, rfl, by decide +kernel, by decide +kernel⟩
/-- the derivation of _law_same: slots 0=_law_actual 1=_law_due 2=_law_at -/
theorem okLawSame {f : Addr} {fd : FuncData} {k : Nat} {T : List Addr}
    (F : FunB K mg "_law_same" sLawSame ["_law_actual", "_law_due"] f fd)
    {fLawIsInteger : Addr} {fdLawIsInteger : FuncData} (C__law_is_integer : Callee P w K mg base T "_law_is_integer" k ["_law_actual"] spLawIsInteger fLawIsInteger fdLawIsInteger)
    (m_isinstance : mg "isinstance" = none)
    (m_tuple : mg "tuple" = none)
    (m_len : mg "len" = none)
    (m_all : mg "all" = none)
    (m_range : mg "range" = none)
    (m_bool : mg "bool" = none)
    (m_int : mg "int" = none)
    (m_str : mg "str" = none)
     {n : Nat} {fLawSame : Addr} {fdLawSame : FuncData} (C__law_same : Callee P w K mg base T "_law_same" k ["_law_actual", "_law_due"] (spLawSame n) fLawSame fdLawSame) : Callee P w K mg base T "_law_same" (k + 1) ["_law_actual", "_law_due"] (spLawSame (n + 1)) f fd := by
  have nd := scLawSame.nd
  refine vl_fn (fx := []) F scLawSame (by decide) (fun ms A B h => ?_) (fun cdv A outer s H E hr => ⟨_, (vss_cons (vst_if (vt_val (ve_isi .tuple m_isinstance m_tuple VL.boot_tuple (ve_name 1))) (vss_cons (vst_if (VW.vt (vw_or (vt_not (vt_val (ve_isi .tuple m_isinstance m_tuple VL.boot_tuple (ve_name 0)))) (vw_or1 (vt_ne hr.units (ve_len m_len (va_cons (ve_name 0) va_nil)) (ve_len m_len (va_cons (ve_name 1) va_nil)))))) (vss_one (vst_ret ve_bl)) vss_nil)
      (vss_one (vst_ret (ve_all m_all (va_cons (ve_lc nd (vi_range1 m_range (va_cons (ve_len m_len (va_cons (ve_name 1) va_nil)) va_nil)) ⟨(blkOk_by (N := ["_law_actual", "_law_due", "_law_at"]) (sc := defScope sLawSame) (own := [("_law_at", 2)]) (by decide +kernel)), (by decide), (fun _ _ _ _ _ => (vg_name 2 nd)), (fun _ _ _ _ _ => VTs.re vts_nil (by first | rfl | (dsimp only [L2.Cx.blk] <;> rfl))), (fun _ _ _ _ _ => VE.re (ve_fn C__law_same (by exact hr) takes0 (va_cons (ve_ix (ve_name 0) (ve_name 2)) (va_cons (ve_ix (ve_name 1) (ve_name 2)) va_nil))) (by first | rfl | (dsimp only [L2.Cx.blk] <;> rfl)))⟩) va_nil))))) vss_nil)
      (vss_cons (vst_if (vt_val (ve_isi .bool m_isinstance m_bool VL.boot_bool (ve_name 1))) (vss_one (vst_ret (ve_and (ve_isi .bool m_isinstance m_bool VL.boot_bool (ve_name 0)) (ve_one (ve_eq hr.units (ve_name 0) (ve_name 1)))))) vss_nil)
      (vss_cons (vst_if (vt_val (ve_isi .int m_isinstance m_int VL.boot_int (ve_name 1))) (vss_one (vst_ret (ve_and (ve_fn C__law_is_integer hr (takes_of rfl rfl rfl rfl) (va_cons (ve_name 0) va_nil)) (ve_one (ve_eq hr.units (ve_name 0) (ve_name 1)))))) vss_nil)
      (vss_cons (vst_if (vt_val (ve_isi .str m_isinstance m_str VL.boot_str (ve_name 1))) (vss_one (vst_ret (ve_and (ve_isi .str m_isinstance m_str VL.boot_str (ve_name 0)) (ve_one (ve_eq hr.units (ve_name 0) (ve_name 1)))))) vss_nil)
      (vss_one (vst_ret (ve_and (ve_isN (ve_name 0) ve_non) (ve_one (ve_isN (ve_name 1) ve_non)))))))))⟩) ?_
  · obtain ⟨d, rfl, hd, h⟩ := h
    exact hl0 rfl (by simp)
  · intro ms A B h
    obtain ⟨d, rfl, hd, h⟩ := h
    cases d with
    | int i => simp [isT]; exact ⟨_, rfl, by simpa using h⟩
    | bl b => simp [isT]; exact h
    | str x => simp [isT]; exact h
    | non => simp [isT]; exact h
    | tup ds =>
      cases n with
      | zero => exact hd.elim
      | succ n =>
        obtain ⟨hl, hd⟩ := hd
        simp [isT]
        refine ⟨by omega, by simp [okVs], ?_⟩
        refine comp_ind (fun items acc env => ∃ is : List Nat, items = is.map (fun k => D.int (k : Nat)) ∧ (∀ k ∈ is, k < ds.length) ∧ env = [some (.val (.tup ds)), some (.val (.tup ds)), none] ∧ (∀ x ∈ acc, x = .bl true) ∧ acc.length + is.length ≤ 1000) ?_ ?_ _ _ _ ?_
        · rintro d rest acc env L ⟨is, e, hi, rfl, ha, hz⟩ k
          cases is with
          | nil => cases e
          | cons i is =>
            cases e
            have hi0 : i < ds.length := hi i (List.mem_cons_self ..)
            have : (1000 : Nat) < sizeLine := by decide
            have hz : acc.length + (is.length + 1) ≤ 1000 := hz
            have ea : atI ds (i : Int) = some ds[i] := atI_nat (List.getElem?_eq_getElem hi0)
            simp [ea]
            refine ⟨ds[i], rfl, hd _ (List.getElem_mem hi0), ?_⟩
            simp
            refine ⟨by omega, k _ _ ⟨is, rfl, fun k hk => hi k (List.mem_cons_of_mem _ hk), rfl, fun x hx => ?_, by simp; omega⟩⟩
            rcases List.mem_append.mp hx with hx | hx
            · exact ha x hx
            · simpa using hx
        · rintro acc env ⟨is, e, hi, rfl, ha, hz⟩
          obtain ⟨bs, e1, e2⟩ := all_true ha
          refine ⟨bs, e1, ?_⟩
          rw [e2]
          exact h
        · exact ⟨List.range ds.length, rfl, fun k hk => List.mem_range.mp hk, rfl, by simp, by simp; omega⟩
    | lst ds => cases n <;> exact hd.elim
    | obj C fs => cases n <;> exact hd.elim
    | scr ds => cases n <;> exact hd.elim
def pieces : List Str := ["sum", "where", "in", "and", "(", ")", "+", "-", "*", ",", "/", "town", "a", "abcdefgh", "abcdefghi", "0", "7", "1000", "1001", "007", "sums", "?", "A", "_", "\n"]
theorem pieces_at {r : Int} (h0 : 0 ≤ r) (h : r < 25) : ∃ x : Str, atI (pieces.map D.str) r = some (.str x) ∧ x.length ≤ 9 := by
  obtain ⟨j, rfl⟩ : ∃ j : Nat, r = j := ⟨r.toNat, by omega⟩
  have hl : pieces.length = 25 := rfl
  have hj : j < pieces.length := by omega
  have hs : ∀ x ∈ pieces, x.length ≤ 9 := by decide +kernel
  exact ⟨pieces[j], atI_map (List.getElem?_eq_getElem hj), hs _ (List.getElem_mem hj)⟩
def spLawSigns : VSp := fun ms A _ => ∃ (ds : List Int) (at_ : Int), ms = [.own (boxD ds at_)] ∧ 0 ≤ at_ ∧ ∀ x : Str, x.length ≤ 9 → A (.val (.str x)) [.own (boxD ds (at_ + 1))]
def spLawGap : VSp := fun ms A _ => ∃ (ds : List Int) (at_ : Int), ms = [.own (boxD ds at_)] ∧ 0 ≤ at_ ∧ ∀ x : Str, x.length ≤ 3 → A (.val (.str x)) [.own (boxD ds (at_ + 1))]
def spLawKind : VSp := fun ms A _ => ∃ c : Nat, ms = [.val (.str ⟨#[c]⟩)] ∧ A (.val (.int (kind c : Nat))) ms
def spLawSplit : VSp := fun ms A _ => ∃ t : Str, ms = [.val (.str t)] ∧ t.length ≤ 10000 ∧ A (.tmp (.lst ((tok t.cps.toList).map tS))) ms
/-- how far the split has come -/
def Split (L : List Nat) (i : Nat) (fs : List (List Nat)) (last : Nat) : Prop :=
  (last = 0 ∧ fs ++ tok (L.drop i) = tok L) ∨ ∃ fs' w, 0 < last ∧ fs = fs' ++ [w] ∧ fs' ++ (w ++ (L.drop i).takeWhile fun x => kind x == last) :: tok ((L.drop i).dropWhile fun x => kind x == last) = tok L
theorem tok_blank (r : List Nat) : tok (32 :: r) = tok r := by rw [tok, if_pos rfl]
theorem tok_cons {c : Nat} (r : List Nat) (h : c ≠ 32) : tok (c :: r) = (c :: runK c r) :: tok (r.drop (runK c r).length) := by rw [tok, if_neg h]
/-- where the next sign does not go on with the last word -/
theorem Split.flat {L r : List Nat} {i c last : Nat} {fs : List (List Nat)} (h : Split L i fs last) (e : L.drop i = c :: r) (hk : last = 0 ∨ kind c ≠ last) : fs ++ tok (c :: r) = tok L := by
  rcases h with ⟨_, h⟩ | ⟨fs', w, h0, rfl, h⟩
  · rwa [e] at h
  · have hk : kind c ≠ last := by rcases hk with z | z; omega; exact z
    have hk2 : ¬(kind c == last) = true := by simpa using hk
    rw [e, List.takeWhile_cons, if_neg hk2, List.dropWhile_cons, if_neg hk2, List.append_nil] at h
    rw [List.append_assoc]
    exact h
theorem Split.new {L r : List Nat} {i c last : Nat} {fs : List (List Nat)} (h : Split L i fs last) (e : L.drop i = c :: r) (e2 : L.drop (i + 1) = r) (h32 : c ≠ 32) (hk : last = 0 ∨ kind c ≠ last) : Split L (i + 1) (fs ++ [[c]]) (kind c) := by
  have f := h.flat e hk
  rw [tok_cons r h32] at f
  unfold Split
  rw [e2]
  by_cases z : kind c = 0
  · refine .inl ⟨z, ?_⟩
    have : runK c r = [] := if_pos z
    rw [this] at f
    rw [List.append_assoc]
    exact f
  · refine .inr ⟨fs, [c], by omega, rfl, ?_⟩
    have : runK c r = r.takeWhile fun x => kind x == kind c := if_neg z
    rw [this, drop_tw] at f
    exact f
theorem Split.go {L r : List Nat} {i c : Nat} {fs : List (List Nat)} {w : List Nat} (h : Split L i (fs ++ [w]) (kind c)) (e : L.drop i = c :: r) (e2 : L.drop (i + 1) = r) (hk : 0 < kind c) : Split L (i + 1) (fs ++ [w ++ [c]]) (kind c) := by
  rcases h with ⟨z, _⟩ | ⟨fs', w', h0, ew, h⟩
  · omega
  · obtain ⟨e5, e6⟩ := List.append_inj' ew rfl
    subst e5
    have e7 : w = w' := by simpa using e6
    subst e7
    unfold Split
    rw [e2]
    refine .inr ⟨_, _, hk, rfl, ?_⟩
    have hk2 : (kind c == kind c) = true := by simp
    rw [e, List.takeWhile_cons, if_pos hk2, List.dropWhile_cons, if_pos hk2] at h
    rw [List.append_assoc]
    exact h
theorem Split.blank {L r : List Nat} {i last : Nat} {fs : List (List Nat)} (h : Split L i fs last) (e : L.drop i = 32 :: r) (e2 : L.drop (i + 1) = r) : Split L (i + 1) fs 0 := by
  have f := h.flat e (by rw [kind_blank]; omega)
  rw [tok_blank] at f
  exact .inl ⟨rfl, by rw [e2]; exact f⟩
theorem Split.fin {L : List Nat} {fs : List (List Nat)} {last : Nat} (h : Split L L.length fs last) : fs = tok L := by
  rcases h with ⟨_, h⟩ | ⟨fs', w, _, rfl, h⟩
  · rw [List.drop_length] at h
    rw [← h]; simp [tok]
  · rw [List.drop_length] at h
    rw [← h]; simp [tok]
theorem sp_one : Str.ofString " " = ⟨#[32]⟩ := by decide +kernel
theorem one_eq {c d : Nat} : (⟨#[c]⟩ : Str) = ⟨#[d]⟩ ↔ c = d := by simp
abbrev sLawSigns : Stmt := topS 12
theorem scLawSigns : FnScope ["_law_box_here", "_law_pieces"] ["_law_box_here"] (defScope sLawSigns) := ⟨rfl, rfl, rfl, by decide +kernel, rfl, by decide +kernel, by decide +kernel⟩
/-- the derivation of _law_signs: slots 0=_law_box_here 1=_law_pieces -/
theorem okLawSigns {f : Addr} {fd : FuncData} {k : Nat} {T : List Addr}
    (F : FunB K mg "_law_signs" sLawSigns ["_law_box_here"] f fd)
    {fLawDraw : Addr} {fdLawDraw : FuncData} (C__law_draw : Callee P w K mg base T "_law_draw" k ["_law_box_here", "_law_many"] spLawDraw fLawDraw fdLawDraw)
    (m_len : mg "len" = none) : Callee P w K mg base T "_law_signs" (k + 1) ["_law_box_here"] spLawSigns f fd := by
  have nd := scLawSigns.nd
  refine vl_fn (fx := [0]) F scLawSigns (by decide) (fun ms A B h => ?_) (fun cdv A outer s H E hr => ⟨_, (vss_cons (vst_set 1 nd (ve_tup (va_cons ve_str (va_cons ve_str (va_cons ve_str (va_cons ve_str (va_cons ve_str (va_cons ve_str (va_cons ve_str (va_cons ve_str (va_cons ve_str (va_cons ve_str (va_cons ve_str (va_cons ve_str (va_cons ve_str (va_cons ve_str (va_cons ve_str (va_cons ve_str (va_cons ve_str (va_cons ve_str (va_cons ve_str (va_cons ve_str (va_cons ve_str (va_cons ve_str (va_cons ve_str (va_cons ve_str (va_cons ve_str va_nil)))))))))))))))))))))))))))
      (vss_one (vst_ret (ve_ix (ve_name 1) (ve_fn C__law_draw hr (takes_of rfl rfl rfl rfl) (va_cons (ve_name 0) (va_cons (ve_len m_len (va_cons (ve_name 1) va_nil)) va_nil)))))))⟩) ?_
  · obtain ⟨ds, at_, rfl, h0, h⟩ := h
    exact hl0 rfl (by simp)
  · intro ms A B h
    obtain ⟨ds, at_, rfl, h0, h⟩ := h
    refine seq_step fun L k => ?_
    simp
    refine ⟨by decide, ?_⟩
    apply k; clear k L
    simp
    refine ⟨_, _, _, rfl, h0, by decide, fun r hr0 hr1 => ?_⟩
    simp
    obtain ⟨x, hx, hl⟩ := pieces_at hr0 hr1
    exact ⟨.str x, hx, h x hl⟩
abbrev sLawGap : Stmt := topS 13
theorem scLawGap : FnScope ["_law_box_here"] ["_law_box_here"] (defScope sLawGap) := ⟨rfl, rfl, rfl, by decide +kernel, rfl, by decide +kernel, by decide +kernel⟩
/-- the derivation of _law_gap: slots 0=_law_box_here -/
theorem okLawGap {f : Addr} {fd : FuncData} {k : Nat} {T : List Addr}
    (F : FunB K mg "_law_gap" sLawGap ["_law_box_here"] f fd)
    {fLawDraw : Addr} {fdLawDraw : FuncData} (C__law_draw : Callee P w K mg base T "_law_draw" k ["_law_box_here", "_law_many"] spLawDraw fLawDraw fdLawDraw) : Callee P w K mg base T "_law_gap" (k + 1) ["_law_box_here"] spLawGap f fd := by
  have nd := scLawGap.nd
  refine vl_fn (fx := [0]) F scLawGap (by decide) (fun ms A B h => ?_) (fun cdv A outer s H E hr => ⟨_, (vss_one (vst_ret (ve_sl ve_str vo_none (vo_some (ve_fn C__law_draw hr (takes_of rfl rfl rfl rfl) (va_cons (ve_name 0) (va_cons ve_int va_nil)))))))⟩) ?_
  · obtain ⟨ds, at_, rfl, h0, h⟩ := h
    exact hl0 rfl (by simp)
  · intro ms A B h
    obtain ⟨ds, at_, rfl, h0, h⟩ := h
    simp
    refine ⟨_, _, _, rfl, h0, by decide, fun r hr0 hr1 => ?_⟩
    simp
    refine ⟨by decide +kernel, h _ (Nat.le_trans (cutS_length _ _ _) (by decide +kernel))⟩
abbrev sLawKind : Stmt := topS 14
theorem scLawKind : FnScope ["_law_sign"] ["_law_sign"] (defScope sLawKind) := ⟨rfl, rfl, rfl, by decide +kernel, rfl, by decide +kernel, by decide +kernel⟩
/-- the derivation of _law_kind: slots 0=_law_sign -/
theorem okLawKind {f : Addr} {fd : FuncData} {k : Nat} {T : List Addr}
    (F : FunB K mg "_law_kind" sLawKind ["_law_sign"] f fd) : Callee P w K mg base T "_law_kind" (k + 1) ["_law_sign"] spLawKind f fd := by
  have nd := scLawKind.nd
  refine vl_fn (fx := []) F scLawKind (by decide) (fun ms A B h => ?_) (fun cdv A outer s H E hr => ⟨_, (vss_cons (vst_if (vt_in (ve_name 0) ve_str) (vss_one (vst_ret ve_int)) vss_nil)
      (vss_cons (vst_if (vt_in (ve_name 0) ve_str) (vss_one (vst_ret ve_int)) vss_nil)
      (vss_one (vst_ret ve_int))))⟩) ?_
  · obtain ⟨c, rfl, h⟩ := h
    exact hl0 rfl (by simp)
  · intro ms A B h
    obtain ⟨c, rfl, h⟩ := h
    simp
    rw [hasS_one, hasS_one]
    change A (W.val (D.int ((if c ∈ letters then 1 else if c ∈ digits then 2 else 0 : Nat) : Int))) _ at h
    refine ite2 (fun h1 => ?_) (fun h1 => ite2 (fun h2 => ?_) (fun h2 => ?_))
    · have h1 : c ∈ letters := of_decide_eq_true h1
      rw [if_pos h1] at h
      exact h
    · have h1 : c ∉ letters := fun z => h1 (decide_eq_true z)
      have h2 : c ∈ digits := of_decide_eq_true h2
      rw [if_neg h1, if_pos h2] at h
      exact h
    · have h1 : c ∉ letters := fun z => h1 (decide_eq_true z)
      have h2 : c ∉ digits := fun z => h2 (decide_eq_true z)
      rw [if_neg h1, if_neg h2] at h
      exact h
end
end K08

set_option Elab.async false
set_option linter.all false
set_option maxRecDepth 100000
set_option maxHeartbeats 4000000
namespace K08
open PySem PySem.Spec PyProof.Rows L2 VL
section
variable {P : Program} {w : World} {K : PySem.W.Frag} {mg : Str → Option Value} {base : Heap}
theorem ixN_m1 {n : Nat} : ixN (n + 1) (-1) = some n := by
  unfold ixN
  rw [if_neg (by omega), if_pos (by omega)]
  congr 1
  omega
abbrev sLawSplit : Stmt := topS 15
theorem scLawSplit : FnScope ["_law_text", "_law_found", "_law_last", "_law_at", "_law_kind_here"] ["_law_text"] (defScope sLawSplit) := ⟨rfl, rfl, rfl, by decide +kernel, rfl, by decide +kernel, by decide +kernel⟩
/-- the derivation of _law_split: slots 0=_law_text 1=_law_found 2=_law_last 3=_law_at 4=_law_kind_here -/
theorem okLawSplit {f : Addr} {fd : FuncData} {k : Nat} {T : List Addr}
    (F : FunB K mg "_law_split" sLawSplit ["_law_text"] f fd)
    {fLawKind : Addr} {fdLawKind : FuncData} (C__law_kind : Callee P w K mg base T "_law_kind" k ["_law_sign"] spLawKind fLawKind fdLawKind)
    (m_range : mg "range" = none)
    (m_len : mg "len" = none) : Callee P w K mg base T "_law_split" (k + 1) ["_law_text"] spLawSplit f fd := by
  have nd := scLawSplit.nd
  refine vl_fn (fx := []) F scLawSplit (by decide) (fun ms A B h => ?_) (fun cdv A outer s H E hr => ⟨_, (vss_cons (vst_own 1 nd (ve_lst va_nil))
      (vss_cons (vst_set 2 nd ve_int)
      (vss_cons (vst_for (passes_of rfl) (vi_range1 m_range (va_cons (ve_len m_len (va_cons (ve_name 0) va_nil)) va_nil)) (vg_name 3 nd) (vss_cons (vst_set 4 nd (ve_fn C__law_kind hr (takes_of rfl rfl rfl rfl) (va_cons (ve_ix (ve_name 0) (ve_name 3)) va_nil)))
      (vss_one (vst_if (vt_ne hr.units (ve_ix (ve_name 0) (ve_name 3)) ve_str) (vss_cut (vst_if (VW.vt (vw_and (vt_gt (ve_name 4) ve_int) (vw_and1 (vt_eq hr.units (ve_name 4) (ve_name 2))))) (vss_one (vst_asg (ve_add (ve_ix (ve_name 1) (ve_neg ve_int)) (ve_ix (ve_name 0) (ve_name 3))) (vg_sub (Wx := W0) (ve_name 1) (ve_neg ve_int)))) (vss_one (vst_expr (ve_append (ve_name 1) (va_cons (ve_ix (ve_name 0) (ve_name 3)) va_nil)))))
      (vss_one (vst_set 2 nd (ve_name 4)))) (vss_one (vst_set 2 nd ve_int))))))
      (vss_one (vst_ret (ve_name 1))))))⟩) ?_
  · obtain ⟨t, rfl, hz, h⟩ := h
    exact hl0 rfl (by simp)
  · intro ms A B h
    obtain ⟨t, rfl, hz, h⟩ := h
    have hz2 : t.length ≤ sizeLine := Nat.le_trans hz (by decide)
    have hsz : (20100 : Nat) ≤ sizeLine := by decide
    have hl : t.length = t.cps.toList.length := by simp [Str.length]
    generalize hL : t.cps.toList = L at *
    refine seq_step fun K0 k => ?_
    simp
    apply k; clear k K0
    refine seq_step fun K0 k => ?_
    simp
    apply k; clear k K0
    refine seq_step fun K0 k => ?_
    simp
    refine ⟨hz2, by omega, ?_⟩
    refine loop_idx (fun i env => ∃ (fs : List (List Nat)) (last : Nat) (a3 a4 : Option M), env = [some (.val (.str t)), some (.own (.lst (fs.map tS))), some (.val (.int last)), a3, a4] ∧ Split L i fs last ∧ fs.length ≤ i ∧ ∀ w ∈ fs, w.length ≤ i) ?_ ?_ _ ⟨[], 0, none, none, rfl, .inl ⟨rfl, rfl⟩, Nat.le_refl _, nofun⟩
    · rintro i d env L0 hd ⟨fs, last, a3, a4, rfl, hs, hn, hw⟩ k0
      obtain ⟨hi, rfl⟩ := range_at hd
      obtain ⟨c, e1⟩ : ∃ c, t.cps.toList[i]? = some c := ⟨_, List.getElem?_eq_getElem (by rw [hL]; omega)⟩
      have e2 : atI t.cps.toList (i : Int) = some c := atI_nat e1
      have e3 : L.drop i = c :: L.drop (i + 1) := by
        rw [hL] at e1
        obtain ⟨g1, g2⟩ := List.getElem?_eq_some_iff.mp e1
        rw [← g2]
        exact List.drop_eq_getElem_cons g1
      have w1 : ∀ w ∈ fs, w.length ≤ i + 1 := fun w hw' => Nat.le_succ_of_le (hw w hw')
      simp only [vgName]
      refine ⟨by simp, ?_⟩
      refine seq_step fun L1 k1 => ?_
      simp [hz2, e2]
      refine ⟨c, rfl, ?_⟩
      simp
      apply k1; clear k1 L1
      have put : ∀ (x : Str), x = ⟨#[c]⟩ → [some (M.val (.str t)), some (.own (.lst (fs.map tS ++ [D.str x]))), some (.val (.int (kind c : Nat))), some (.val (.int i)), some (.val (.int (kind c : Nat)))] = [some (M.val (.str t)), some (.own (.lst ((fs ++ [[c]]).map tS))), some (.val (.int (kind c : Nat))), some (.val (.int i)), some (.val (.int (kind c : Nat)))] := fun x hx => by
        subst hx; rw [List.map_append]; rfl
      have wn : ∀ w ∈ fs ++ [[c]], w.length ≤ i + 1 := fun w hw' => by
        rcases List.mem_append.mp hw' with z | z
        · exact w1 w z
        · have : w = [c] := by simpa using z
          subst this; simp
      simp [hz2, e2, sp_one]
      refine ite2 (fun hc => ?_) (fun hc => ?_)
      · subst hc
        exact k0 _ ⟨fs, 0, _, _, rfl, hs.blank e3 rfl, by omega, w1⟩
      · refine cut_of (fun e => ∃ fs' : List (List Nat), e = [some (.val (.str t)), some (.own (.lst (fs'.map tS))), some (.val (.int last)), some (.val (.int i)), some (.val (.int (kind c : Nat)))] ∧ Split L (i + 1) fs' (kind c) ∧ fs'.length ≤ i + 1 ∧ ∀ w ∈ fs', w.length ≤ i + 1) (fun L2 k2 => ?_) ?_
        · by_cases hk : 0 < kind c ∧ kind c = last
          · obtain ⟨hk, rfl⟩ := hk
            rcases hs with ⟨z, _⟩ | ⟨fs', w, h0, rfl, hs⟩
            · omega
            · have hw' := hw w (List.mem_append_right _ (List.mem_singleton.mpr rfl))
              have hs' : Split L i (fs' ++ [w]) (kind c) := .inr ⟨fs', w, h0, rfl, hs⟩
              have g := hs'.go e3 rfl hk
              have hn' : fs'.length + 1 ≤ i := by simpa using hn
              simp [hk, hz2, e2, atI_last, Str.length, ixN_m1]
              have eS : (⟨w.toArray⟩ : Str) ++ ⟨#[c]⟩ = ⟨(w ++ [c]).toArray⟩ := by
                show (⟨w.toArray ++ #[c]⟩ : Str) = _
                simp
              rw [eS]
              have yes := k2 _ ⟨fs' ++ [w ++ [c]], rfl, g, by simp; omega, fun v hv => by
                rcases List.mem_append.mp hv with z | z
                · exact w1 v (List.mem_append_left _ z)
                · have : v = w ++ [c] := by simpa using z
                  subst this; simp; omega⟩
              rw [List.map_append] at yes
              exact ⟨hz2, by omega, yes⟩
          · have g := hs.new e3 rfl hc (by omega)
            have yes := k2 _ ⟨fs ++ [[c]], rfl, g, by simp; omega, wn⟩
            rw [List.map_append] at yes
            simp [hz2, e2]
            refine ite2 (fun h1 => ite2 (fun h2 => ?_) (fun h2 => ?_)) (fun h1 => ?_)
            · exact absurd ⟨h1, by omega⟩ hk
            · exact ⟨by omega, yes⟩
            · exact ⟨by omega, yes⟩
        · rintro e ⟨fs', rfl, g1, g2, g3⟩
          simp
          exact k0 _ ⟨fs', kind c, _, _, rfl, g1, g2, g3⟩
    · rintro env ⟨fs, last, a3, a4, rfl, hs, hn, hw⟩
      apply k
      have hs : Split L L.length fs last := by
        have : ((List.range t.length).map fun k : Nat => D.int (k : Int)).length = L.length := by simp [hl]
        rwa [this] at hs
      have e := hs.fin
      subst e
      simp
      exact h
end
end K08

set_option Elab.async false
set_option linter.all false
set_option maxRecDepth 100000
set_option maxHeartbeats 4000000
namespace K08
open PySem PySem.Spec PyProof.Rows L2 VL
section
variable {P : Program} {w : World} {K : PySem.W.Frag} {mg : Str → Option Value} {base : Heap}
/-- what a token is: a sign that is no blank, and behind it its run -/
def isTok (w : List Nat) : Prop := ∃ c r, w = c :: r ∧ c ≠ 32 ∧ (r = [] ∨ (kind c ≠ 0 ∧ ∀ x ∈ r, kind x = kind c))
theorem runK_kind (c : Nat) (r : List Nat) : runK c r = [] ∨ (kind c ≠ 0 ∧ ∀ x ∈ runK c r, kind x = kind c) := by
  unfold runK
  by_cases h : kind c = 0
  · rw [if_pos h]; exact .inl rfl
  · rw [if_neg h]
    exact .inr ⟨h, fun x hx => by
      have z := List.all_eq_true.mp (List.all_takeWhile (p := fun x => kind x == kind c) (l := r)) x hx
      simpa using z⟩
theorem tok_isTok : ∀ (n : Nat) (l : List Nat), l.length ≤ n → ∀ w ∈ tok l, isTok w
  | _, [], _, w, h => by simp [tok] at h
  | 0, c :: r, h, _, _ => by simp at h
  | n + 1, c :: r, h, w, hw => by
    have h' : r.length ≤ n := by simpa using h
    by_cases z : c = 32
    · subst z
      rw [tok_blank] at hw
      exact tok_isTok n r h' w hw
    · rw [tok_cons r z] at hw
      rcases List.mem_cons.mp hw with rfl | hw
      · exact ⟨c, _, rfl, z, runK_kind c r⟩
      · exact tok_isTok n _ (by rw [List.length_drop]; omega) w hw
theorem runK_join {c : Nat} {r s : List Nat} (h : r = [] ∨ (kind c ≠ 0 ∧ ∀ x ∈ r, kind x = kind c)) (hs : s = [] ∨ ∃ s', s = 32 :: s') (h0 : kind c ≠ 0 ∨ r = []) : runK c (r ++ s) = r := by
  have ts : kind c ≠ 0 → s.takeWhile (fun x => kind x == kind c) = [] := fun k0 => by
    rcases hs with rfl | ⟨s', rfl⟩
    · rfl
    · rw [List.takeWhile_cons, if_neg]
      rw [kind_blank]
      simp
      omega
  unfold runK
  by_cases k0 : kind c = 0
  · rw [if_pos k0]
    rcases h with h | ⟨h, _⟩
    · exact h.symm
    · exact absurd k0 h
  · rw [if_neg k0]
    rcases h with rfl | ⟨_, h⟩
    · exact ts k0
    · rw [List.takeWhile_append_of_pos (fun x hx => by simpa using h x hx), ts k0, List.append_nil]
theorem tok_one {w s : List Nat} (h : isTok w) (hs : s = [] ∨ ∃ s', s = 32 :: s') : tok (w ++ s) = w :: tok s := by
  obtain ⟨c, r, rfl, h32, h⟩ := h
  have e := runK_join h hs (by rcases h with h | ⟨h, _⟩; exact .inr h; exact .inl h)
  rw [List.cons_append, tok_cons _ h32, e, List.drop_left]
theorem tok_join : ∀ ws : List (List Nat), (∀ w ∈ ws, isTok w) → tok (TL.joinL [32] ws) = ws
  | [], _ => by show tok [] = []; simp [tok]
  | [w], h => by
    have := tok_one (s := []) (h w (List.mem_cons_self ..)) (.inl rfl)
    rw [List.append_nil] at this
    show tok w = [w]
    rw [this]; simp [tok]
  | w :: v :: r, h => by
    show tok (w ++ (32 :: TL.joinL [32] (v :: r))) = _
    rw [tok_one (h w (List.mem_cons_self ..)) (.inr ⟨_, rfl⟩), tok_blank, tok_join (v :: r) fun x hx => h x (List.mem_cons_of_mem _ hx)]
theorem tok_sum : ∀ (n : Nat) (l : List Nat), l.length ≤ n → (tok l).length ≤ l.length ∧ ((tok l).map List.length).sum ≤ l.length
  | _, [], _ => by simp [tok]
  | 0, c :: r, h => by simp at h
  | n + 1, c :: r, h => by
    have h' : r.length ≤ n := by simpa using h
    by_cases z : c = 32
    · subst z
      rw [tok_blank]
      have := tok_sum n r h'
      simp; omega
    · rw [tok_cons r z]
      have := tok_sum n (r.drop (runK c r).length) (by rw [List.length_drop]; omega)
      have k := runK_le c r
      rw [List.length_drop] at this
      simp; omega
theorem join_len : ∀ ws : List (List Nat), (TL.joinL [32] ws).length ≤ (ws.map List.length).sum + ws.length
  | [] => Nat.zero_le _
  | [w] => by show w.length ≤ _; simp
  | w :: v :: r => by
    have ih := join_len (v :: r)
    show (w ++ ([32] ++ TL.joinL [32] (v :: r))).length ≤ _
    rw [List.length_append, List.length_append, List.map_cons, List.sum_cons]
    have : ([32] : List Nat).length = 1 := rfl
    have : (w :: v :: r).length = (v :: r).length + 1 := rfl
    omega
theorem due_tok {l : List Nat} (h : l.length ≤ 900) : dueOk 1 (.tup ((tok l).map tS)) := ⟨by rw [List.length_map]; have := (tok_sum _ l (Nat.le_refl _)).1; omega, fun d hd => by
  obtain ⟨w, _, rfl⟩ := List.mem_map.mp hd
  trivial⟩
theorem tS_strs (ws : List (List Nat)) : ws.map tS = (ws.map SX.S).map D.str := by rw [List.map_map]; rfl
theorem strs_len (ws : List (List Nat)) : ((ws.map SX.S).map (·.length)) = ws.map List.length := by
  rw [List.map_map]
  refine List.map_congr_left fun w _ => ?_
  show w.toArray.size = _
  simp
def spLaw : VSp := fun ms A _ => ∃ ns : List Int, ms = [.val (.scr (iD ns))] ∧ A (.val (.bl true)) ms
section
variable {P : Program} {w : World} {K : PySem.W.Frag} {mg : Str → Option Value} {base : Heap}
abbrev sLaw : Stmt := topS 16
theorem scLaw : FnScope ["_law_script", "_law_k", "_law_box_here", "_law_text", "_law_turn", "_law_due"] ["_law_script"] (defScope sLaw) := ⟨rfl, rfl, rfl, by decide +kernel, rfl, by decide +kernel, by decide +kernel⟩
/-- the derivation of law: slots 0=_law_script 1=_law_k 2=_law_box_here 3=_law_text 4=_law_turn 5=_law_due -/
theorem okLaw {f : Addr} {fd : FuncData} {k : Nat} {T : List Addr}
    (F : FunB K mg "law" sLaw ["_law_script"] f fd)
    {fLawBox : Addr} {fdLawBox : FuncData} (C__law_box : Callee P w K mg base T "_law_box" k ["_law_script", "_law_at"] spLawBox fLawBox fdLawBox)
    {fLawGap : Addr} {fdLawGap : FuncData} (C__law_gap : Callee P w K mg base T "_law_gap" k ["_law_box_here"] spLawGap fLawGap fdLawGap)
    {fLawDraw : Addr} {fdLawDraw : FuncData} (C__law_draw : Callee P w K mg base T "_law_draw" k ["_law_box_here", "_law_many"] spLawDraw fLawDraw fdLawDraw)
    {fLawSigns : Addr} {fdLawSigns : FuncData} (C__law_signs : Callee P w K mg base T "_law_signs" k ["_law_box_here"] spLawSigns fLawSigns fdLawSigns)
    {fLawSplit : Addr} {fdLawSplit : FuncData} (C__law_split : Callee P w K mg base T "_law_split" k ["_law_text"] spLawSplit fLawSplit fdLawSplit)
    {fTokens : Addr} {fdTokens : FuncData} (C_tokens : Callee P w K mg base T "tokens" k ["text"] spTokens fTokens fdTokens)
    (m_range : mg "range" = none)
    (m_tuple : mg "tuple" = none)
     {fLawSame : Addr} {fdLawSame : FuncData} (C__law_same : Callee P w K mg base T "_law_same" k ["_law_actual", "_law_due"] (spLawSame 2) fLawSame fdLawSame) : Callee P w K mg base T "law" (k + 1) ["_law_script"] spLaw f fd := by
  have nd := scLaw.nd
  refine vl_fn (fx := []) F scLaw (by decide) (fun ms A B h => ?_) (fun cdv A outer s H E hr => ⟨_, (vss_cons (vst_for (passes_of rfl) (vi_range1 m_range (va_cons ve_int va_nil)) (vg_name 1 nd) (vss_cons (vst_own 2 nd (ve_fn C__law_box hr (takes_of rfl rfl rfl rfl) (va_cons (ve_name 0) (va_cons (ve_name 1) va_nil))))
      (vss_cons (vst_set 3 nd (ve_fn C__law_gap hr (takes_of rfl rfl rfl rfl) (va_cons (ve_name 2) va_nil)))
      (vss_cons (vst_for (passes_of rfl) (vi_range1 m_range (va_cons (ve_fn C__law_draw hr (takes_of rfl rfl rfl rfl) (va_cons (ve_name 2) (va_cons ve_int va_nil))) va_nil)) (vg_name 4 nd) (vss_one (vst_set 3 nd (ve_add (ve_add (ve_name 3) (ve_fn C__law_signs hr (takes_of rfl rfl rfl rfl) (va_cons (ve_name 2) va_nil))) (ve_fn C__law_gap hr (takes_of rfl rfl rfl rfl) (va_cons (ve_name 2) va_nil))))))
      (vss_cons (vst_set 5 nd (ve_tuplec m_tuple (va_cons (ve_fn C__law_split hr (takes_of rfl rfl rfl rfl) (va_cons (ve_sl (ve_name 3) vo_none (vo_some ve_int)) va_nil)) va_nil)))
      (vss_one (vst_if (VW.vt (vw_or (vt_not (vt_val (ve_fn C__law_same hr (takes_of rfl rfl rfl rfl) (va_cons (ve_fn C_tokens hr (takes_of rfl rfl rfl rfl) (va_cons (ve_sl (ve_name 3) vo_none (vo_some ve_int)) va_nil)) (va_cons (ve_name 5) va_nil))))) (vw_or1 (vt_not (vt_val (ve_fn C__law_same hr (takes_of rfl rfl rfl rfl) (va_cons (ve_fn C_tokens hr (takes_of rfl rfl rfl rfl) (va_cons (ve_join ve_str (ve_name 5)) va_nil)) (va_cons (ve_name 5) va_nil)))))))) (vss_one (vst_ret ve_bl)) vss_nil)))))))
      (vss_one (vst_ret ve_bl)))⟩) ?_
  · obtain ⟨ns, rfl, h⟩ := h
    exact hl0 rfl (by simp)
  · intro ms A B h
    obtain ⟨ns, rfl, h⟩ := h
    refine seq_step fun L k => ?_
    simp
    refine loop_idx (fun i env => ∃ a1 a2 a3 a4 a5 : Option M, env = [some (.val (.scr (iD ns))), a1, a2, a3, a4, a5]) ?_ ?_ _ ⟨_, _, _, _, _, rfl⟩
    · rintro i d env L0 hd ⟨a1, a2, a3, a4, a5, rfl⟩ k0
      obtain ⟨hi, rfl⟩ := range_at hd
      simp only [vgName]
      refine ⟨by simp, ?_⟩
      refine seq_step fun L1 k1 => ?_
      simp
      refine ⟨_, _, rfl, by omega, fun ds _ => ?_⟩
      simp
      apply k1; clear k1 L1
      refine seq_step fun L1 k1 => ?_
      simp
      refine ⟨_, _, rfl, by decide, fun x0 hx0 => ?_⟩
      simp
      apply k1; clear k1 L1
      refine seq_step fun L1 k1 => ?_
      simp
      refine ⟨_, _, _, rfl, by decide, by decide, fun r hr0 hr1 => ?_⟩
      simp
      refine ⟨by omega, ?_⟩
      have hsz : (20100 : Nat) ≤ sizeLine := by decide
      have ap : ∀ x y : Str, (x ++ y).length = x.length + y.length := fun x y => Array.size_append
      refine loop_idx (fun j env => ∃ (x : Str) (at' : Int) (a4 : Option M), env = [some (.val (.scr (iD ns))), some (.val (.int i)), some (.own (boxD ds at')), some (.val (.str x)), a4, a5] ∧ 0 ≤ at' ∧ x.length ≤ 3 + 12 * j) ?_ ?_ _ ⟨x0, _, _, rfl, by omega, by omega⟩
      · rintro j d env L2 hd2 ⟨x, at', a4, rfl, ha, hx⟩ k2
        have hj : j < r.toNat := by have := (List.getElem?_eq_some_iff.mp hd2).1; simpa using this
        simp
        refine ⟨_, _, rfl, ha, fun y hy => ?_⟩
        simp
        refine ⟨by omega, _, _, rfl, by omega, fun z hz => ?_⟩
        have e1 := ap x y
        have e2 := ap (x ++ y) z
        simp
        exact ⟨by omega, k2 _ ⟨_, _, _, rfl, by omega, by omega⟩⟩
      · rintro env ⟨x, at', a4, rfl, ha, hx⟩
        have hx : x.length ≤ 400 := by
          simp at hx; omega
        apply k1; clear k1 L1
        have hc := cutS_length x none (some 300)
        generalize hT : cutS x none (some 300) = t at *
        have tl : t.cps.toList.length = t.length := by simp [Str.length]
        have ts := tok_sum _ t.cps.toList (Nat.le_refl _)
        refine seq_step fun L1 k1 => ?_
        simp
        refine ⟨by omega, ?_⟩
        rw [hT]
        refine ⟨t, rfl, by omega, ?_⟩
        simp
        apply k1; clear k1 L1
        have du := due_tok (l := t.cps.toList) (by omega)
        have jl := join_len (tok t.cps.toList)
        simp
        refine ⟨by omega, ?_⟩
        rw [hT]
        refine ⟨t, rfl, by omega, ?_⟩
        simp
        refine ⟨_, rfl, du, ?_⟩
        simp
        refine ⟨(tok t.cps.toList).map SX.S, tS_strs _, ?_, ?_⟩
        · rw [strs_len, List.length_map]
          have : (Str.ofString " ").length = 1 := by decide +kernel
          rw [this]
          omega
        · have ej : Txt.join (Str.ofString " ") ((tok t.cps.toList).map SX.S) = SX.S (TL.joinL [32] (tok t.cps.toList)) := by
            rw [sp_one]
            exact SX.join_S [32] _
          rw [ej]
          refine ⟨_, rfl, ?_, ?_⟩
          · show (TL.joinL [32] (tok t.cps.toList)).toArray.size ≤ 10000
            simp; omega
          · have e5 : (SX.S (TL.joinL [32] (tok t.cps.toList))).cps.toList = TL.joinL [32] (tok t.cps.toList) := by
              show (TL.joinL [32] (tok t.cps.toList)).toArray.toList = _
              simp
            rw [e5, tok_join _ (tok_isTok _ _ (Nat.le_refl _))]
            simp
            refine ⟨_, rfl, du, ?_⟩
            simp
            exact k0 _ ⟨_, _, _, _, _, rfl⟩
    · rintro env ⟨a1, a2, a3, a4, a5, rfl⟩
      apply k
      simp
      exact h
end
end
end K08

set_option Elab.async false
set_option linter.all false
set_option maxRecDepth 100000
set_option maxHeartbeats 4000000
namespace K08
open PySem PySem.Spec PyProof.Rows L2 VL
section
variable {P : Program} {w : World} {K : PySem.W.Frag} {mg : Str → Option Value} {base : Heap}
theorem ok_all
    {fLawDigits : Addr} {dLawDigits : FuncData} (FLawDigits : FunB K mg "_law_digits" sLawDigits ["_law_cell_here", "_law_at"] fLawDigits dLawDigits)
    {fLawCell : Addr} {dLawCell : FuncData} (FLawCell : FunB K mg "_law_cell" sLawCell ["_law_script", "_law_k"] fLawCell dLawCell)
    {fLawBox : Addr} {dLawBox : FuncData} (FLawBox : FunB K mg "_law_box" sLawBox ["_law_script", "_law_at"] fLawBox dLawBox)
    {fLawDraw : Addr} {dLawDraw : FuncData} (FLawDraw : FunB K mg "_law_draw" sLawDraw ["_law_box_here", "_law_many"] fLawDraw dLawDraw)
    {fLawGap : Addr} {dLawGap : FuncData} (FLawGap : FunB K mg "_law_gap" sLawGap ["_law_box_here"] fLawGap dLawGap)
    {fLawSigns : Addr} {dLawSigns : FuncData} (FLawSigns : FunB K mg "_law_signs" sLawSigns ["_law_box_here"] fLawSigns dLawSigns)
    {fLawKind : Addr} {dLawKind : FuncData} (FLawKind : FunB K mg "_law_kind" sLawKind ["_law_sign"] fLawKind dLawKind)
    {fLawSplit : Addr} {dLawSplit : FuncData} (FLawSplit : FunB K mg "_law_split" sLawSplit ["_law_text"] fLawSplit dLawSplit)
    {fLawIsInteger : Addr} {dLawIsInteger : FuncData} (FLawIsInteger : FunB K mg "_law_is_integer" sLawIsInteger ["_law_actual"] fLawIsInteger dLawIsInteger)
    {fLawSame : Addr} {dLawSame : FuncData} (FLawSame : FunB K mg "_law_same" sLawSame ["_law_actual", "_law_due"] fLawSame dLawSame)
    {fRunEnd : Addr} {dRunEnd : FuncData} (FRunEnd : FunB K mg "run_end" sRunEnd ["text", "at", "signs"] fRunEnd dRunEnd)
    {fTokens : Addr} {dTokens : FuncData} (FTokens : FunB K mg "tokens" sTokens ["text"] fTokens dTokens)
    {fLaw : Addr} {dLaw : FuncData} (FLaw : FunB K mg "law" sLaw ["_law_script"] fLaw dLaw)
    (m_range : mg "range" = none)
    (m_int : mg "int" = none)
    (m_len : mg "len" = none)
    (m_isinstance : mg "isinstance" = none)
    (m_bool : mg "bool" = none)
    (m_tuple : mg "tuple" = none)
    (m_all : mg "all" = none)
    (m_str : mg "str" = none)
    (m_max : mg "max" = none)
    {v_DIGITS : V} (G_DIGITS : GlobK K mg "DIGITS" (.str digitsS) v_DIGITS)
    {v_LETTERS : V} (G_LETTERS : GlobK K mg "LETTERS" (.str lettersS) v_LETTERS) : FnOk P w K mg base (L2.CX P w) 4 fLaw dLaw ["_law_script"] (spOf K [] spLaw) := by
  have CLawDigits := okLawDigits (P := P) (w := w) (base := base) (T := []) (k := 0) FLawDigits  (m_range := m_range) (m_int := m_int)
  have CLawCell := okLawCell (P := P) (w := w) (base := base) (T := []) (k := 0) FLawCell  (m_len := m_len) (m_int := m_int)
  have CLawBox := okLawBox (P := P) (w := w) (base := base) (T := []) (k := 1) FLawBox (C__law_digits := CLawDigits.mono (by decide)) (C__law_cell := CLawCell.mono (by decide)) 
  have CLawDraw := okLawDraw (P := P) (w := w) (base := base) (T := []) (k := 0) FLawDraw  (m_len := m_len) (m_int := m_int)
  have CLawGap := okLawGap (P := P) (w := w) (base := base) (T := []) (k := 1) FLawGap (C__law_draw := CLawDraw.mono (by decide)) 
  have CLawSigns := okLawSigns (P := P) (w := w) (base := base) (T := []) (k := 1) FLawSigns (C__law_draw := CLawDraw.mono (by decide)) (m_len := m_len)
  have CLawKind := okLawKind (P := P) (w := w) (base := base) (T := []) (k := 0) FLawKind  
  have CLawSplit := okLawSplit (P := P) (w := w) (base := base) (T := []) (k := 1) FLawSplit (C__law_kind := CLawKind.mono (by decide)) (m_range := m_range) (m_len := m_len)
  have CLawIsInteger := okLawIsInteger (P := P) (w := w) (base := base) (T := []) (k := 0) FLawIsInteger  (m_isinstance := m_isinstance) (m_bool := m_bool) (m_int := m_int)
  have CLawSame_0 := Callee.none (P := P) (w := w) (base := base) (T := []) (k := 1) FLawSame
  have CLawSame_1 := okLawSame (n := 0) (k := 1) FLawSame (C__law_is_integer := CLawIsInteger.mono (by decide)) (C__law_same := CLawSame_0) (m_isinstance := m_isinstance) (m_tuple := m_tuple) (m_len := m_len) (m_all := m_all) (m_range := m_range) (m_bool := m_bool) (m_int := m_int) (m_str := m_str)
  have CLawSame_2 := okLawSame (n := 1) (k := 2) FLawSame (C__law_is_integer := CLawIsInteger.mono (by decide)) (C__law_same := CLawSame_1) (m_isinstance := m_isinstance) (m_tuple := m_tuple) (m_len := m_len) (m_all := m_all) (m_range := m_range) (m_bool := m_bool) (m_int := m_int) (m_str := m_str)
  have CLawSame := CLawSame_2
  have CRunEnd := okRunEnd (P := P) (w := w) (base := base) (T := []) (k := 0) FRunEnd  (m_len := m_len)
  have CTokens := okTokens (P := P) (w := w) (base := base) (T := []) (k := 1) FTokens (C_run_end := CRunEnd.mono (by decide)) (m_len := m_len) (m_max := m_max) (m_tuple := m_tuple) (G_DIGITS := G_DIGITS) (G_LETTERS := G_LETTERS)
  have CLaw := okLaw (P := P) (w := w) (base := base) (T := []) (k := 3) FLaw (C__law_box := CLawBox.mono (by decide)) (C__law_gap := CLawGap.mono (by decide)) (C__law_draw := CLawDraw.mono (by decide)) (C__law_signs := CLawSigns.mono (by decide)) (C__law_split := CLawSplit.mono (by decide)) (C__law_same := CLawSame.mono (by decide)) (C_tokens := CTokens.mono (by decide)) (m_range := m_range) (m_tuple := m_tuple)
  exact CLaw.ok
end
/-! ### what the top has written; the law's own head -/
theorem all_mk {l : PySem.W.OpenLaw} {w : World} {K : PySem.W.Frag} {h : Heap} {mg : Str → Option Value} {fa : Addr} (X : K.In h) (G : h.Ns mainGlobals mg) (hfa : mg "law" = some (.ref fa))
    {odLawDigits anLawDigits : Option Addr} {slLawDigits : Array (Option Value)} {ocLawDigits kVLawDigits dcLawDigits pmLawDigits cdLawDigits ctLawDigits : Value} {aLawDigits : Addr}
    (xLawDigits : PySem.W.nsIn K mainGlobals "_law_digits" = some (some (.ref aLawDigits))) (lLawDigits : K.lookup aLawDigits = some ⟨ocLawDigits, odLawDigits, .func (PySem.W.fnOf "_law_digits" "_law_digits" (defArgs sLawDigits) (defBody sLawDigits) (defScope sLawDigits) .none kVLawDigits dcLawDigits pmLawDigits anLawDigits cdLawDigits ctLawDigits), slLawDigits⟩) (cLawDigits : PySem.W.codeIn K cdLawDigits "_law_digits" = true) (kLawDigits : PySem.W.keepIn K (.ref aLawDigits) = true)
    {odLawCell anLawCell : Option Addr} {slLawCell : Array (Option Value)} {ocLawCell kVLawCell dcLawCell pmLawCell cdLawCell ctLawCell : Value} {aLawCell : Addr}
    (xLawCell : PySem.W.nsIn K mainGlobals "_law_cell" = some (some (.ref aLawCell))) (lLawCell : K.lookup aLawCell = some ⟨ocLawCell, odLawCell, .func (PySem.W.fnOf "_law_cell" "_law_cell" (defArgs sLawCell) (defBody sLawCell) (defScope sLawCell) .none kVLawCell dcLawCell pmLawCell anLawCell cdLawCell ctLawCell), slLawCell⟩) (cLawCell : PySem.W.codeIn K cdLawCell "_law_cell" = true) (kLawCell : PySem.W.keepIn K (.ref aLawCell) = true)
    {odLawBox anLawBox : Option Addr} {slLawBox : Array (Option Value)} {ocLawBox kVLawBox dcLawBox pmLawBox cdLawBox ctLawBox : Value} {aLawBox : Addr}
    (xLawBox : PySem.W.nsIn K mainGlobals "_law_box" = some (some (.ref aLawBox))) (lLawBox : K.lookup aLawBox = some ⟨ocLawBox, odLawBox, .func (PySem.W.fnOf "_law_box" "_law_box" (defArgs sLawBox) (defBody sLawBox) (defScope sLawBox) .none kVLawBox dcLawBox pmLawBox anLawBox cdLawBox ctLawBox), slLawBox⟩) (cLawBox : PySem.W.codeIn K cdLawBox "_law_box" = true) (kLawBox : PySem.W.keepIn K (.ref aLawBox) = true)
    {odLawDraw anLawDraw : Option Addr} {slLawDraw : Array (Option Value)} {ocLawDraw kVLawDraw dcLawDraw pmLawDraw cdLawDraw ctLawDraw : Value} {aLawDraw : Addr}
    (xLawDraw : PySem.W.nsIn K mainGlobals "_law_draw" = some (some (.ref aLawDraw))) (lLawDraw : K.lookup aLawDraw = some ⟨ocLawDraw, odLawDraw, .func (PySem.W.fnOf "_law_draw" "_law_draw" (defArgs sLawDraw) (defBody sLawDraw) (defScope sLawDraw) .none kVLawDraw dcLawDraw pmLawDraw anLawDraw cdLawDraw ctLawDraw), slLawDraw⟩) (cLawDraw : PySem.W.codeIn K cdLawDraw "_law_draw" = true) (kLawDraw : PySem.W.keepIn K (.ref aLawDraw) = true)
    {odLawGap anLawGap : Option Addr} {slLawGap : Array (Option Value)} {ocLawGap kVLawGap dcLawGap pmLawGap cdLawGap ctLawGap : Value} {aLawGap : Addr}
    (xLawGap : PySem.W.nsIn K mainGlobals "_law_gap" = some (some (.ref aLawGap))) (lLawGap : K.lookup aLawGap = some ⟨ocLawGap, odLawGap, .func (PySem.W.fnOf "_law_gap" "_law_gap" (defArgs sLawGap) (defBody sLawGap) (defScope sLawGap) .none kVLawGap dcLawGap pmLawGap anLawGap cdLawGap ctLawGap), slLawGap⟩) (cLawGap : PySem.W.codeIn K cdLawGap "_law_gap" = true) (kLawGap : PySem.W.keepIn K (.ref aLawGap) = true)
    {odLawSigns anLawSigns : Option Addr} {slLawSigns : Array (Option Value)} {ocLawSigns kVLawSigns dcLawSigns pmLawSigns cdLawSigns ctLawSigns : Value} {aLawSigns : Addr}
    (xLawSigns : PySem.W.nsIn K mainGlobals "_law_signs" = some (some (.ref aLawSigns))) (lLawSigns : K.lookup aLawSigns = some ⟨ocLawSigns, odLawSigns, .func (PySem.W.fnOf "_law_signs" "_law_signs" (defArgs sLawSigns) (defBody sLawSigns) (defScope sLawSigns) .none kVLawSigns dcLawSigns pmLawSigns anLawSigns cdLawSigns ctLawSigns), slLawSigns⟩) (cLawSigns : PySem.W.codeIn K cdLawSigns "_law_signs" = true) (kLawSigns : PySem.W.keepIn K (.ref aLawSigns) = true)
    {odLawKind anLawKind : Option Addr} {slLawKind : Array (Option Value)} {ocLawKind kVLawKind dcLawKind pmLawKind cdLawKind ctLawKind : Value} {aLawKind : Addr}
    (xLawKind : PySem.W.nsIn K mainGlobals "_law_kind" = some (some (.ref aLawKind))) (lLawKind : K.lookup aLawKind = some ⟨ocLawKind, odLawKind, .func (PySem.W.fnOf "_law_kind" "_law_kind" (defArgs sLawKind) (defBody sLawKind) (defScope sLawKind) .none kVLawKind dcLawKind pmLawKind anLawKind cdLawKind ctLawKind), slLawKind⟩) (cLawKind : PySem.W.codeIn K cdLawKind "_law_kind" = true) (kLawKind : PySem.W.keepIn K (.ref aLawKind) = true)
    {odLawSplit anLawSplit : Option Addr} {slLawSplit : Array (Option Value)} {ocLawSplit kVLawSplit dcLawSplit pmLawSplit cdLawSplit ctLawSplit : Value} {aLawSplit : Addr}
    (xLawSplit : PySem.W.nsIn K mainGlobals "_law_split" = some (some (.ref aLawSplit))) (lLawSplit : K.lookup aLawSplit = some ⟨ocLawSplit, odLawSplit, .func (PySem.W.fnOf "_law_split" "_law_split" (defArgs sLawSplit) (defBody sLawSplit) (defScope sLawSplit) .none kVLawSplit dcLawSplit pmLawSplit anLawSplit cdLawSplit ctLawSplit), slLawSplit⟩) (cLawSplit : PySem.W.codeIn K cdLawSplit "_law_split" = true) (kLawSplit : PySem.W.keepIn K (.ref aLawSplit) = true)
    {odLawIsInteger anLawIsInteger : Option Addr} {slLawIsInteger : Array (Option Value)} {ocLawIsInteger kVLawIsInteger dcLawIsInteger pmLawIsInteger cdLawIsInteger ctLawIsInteger : Value} {aLawIsInteger : Addr}
    (xLawIsInteger : PySem.W.nsIn K mainGlobals "_law_is_integer" = some (some (.ref aLawIsInteger))) (lLawIsInteger : K.lookup aLawIsInteger = some ⟨ocLawIsInteger, odLawIsInteger, .func (PySem.W.fnOf "_law_is_integer" "_law_is_integer" (defArgs sLawIsInteger) (defBody sLawIsInteger) (defScope sLawIsInteger) .none kVLawIsInteger dcLawIsInteger pmLawIsInteger anLawIsInteger cdLawIsInteger ctLawIsInteger), slLawIsInteger⟩) (cLawIsInteger : PySem.W.codeIn K cdLawIsInteger "_law_is_integer" = true) (kLawIsInteger : PySem.W.keepIn K (.ref aLawIsInteger) = true)
    {odLawSame anLawSame : Option Addr} {slLawSame : Array (Option Value)} {ocLawSame kVLawSame dcLawSame pmLawSame cdLawSame ctLawSame : Value} {aLawSame : Addr}
    (xLawSame : PySem.W.nsIn K mainGlobals "_law_same" = some (some (.ref aLawSame))) (lLawSame : K.lookup aLawSame = some ⟨ocLawSame, odLawSame, .func (PySem.W.fnOf "_law_same" "_law_same" (defArgs sLawSame) (defBody sLawSame) (defScope sLawSame) .none kVLawSame dcLawSame pmLawSame anLawSame cdLawSame ctLawSame), slLawSame⟩) (cLawSame : PySem.W.codeIn K cdLawSame "_law_same" = true) (kLawSame : PySem.W.keepIn K (.ref aLawSame) = true)
    {odRunEnd anRunEnd : Option Addr} {slRunEnd : Array (Option Value)} {ocRunEnd kVRunEnd dcRunEnd pmRunEnd cdRunEnd ctRunEnd : Value} {aRunEnd : Addr}
    (xRunEnd : PySem.W.nsIn K mainGlobals "run_end" = some (some (.ref aRunEnd))) (lRunEnd : K.lookup aRunEnd = some ⟨ocRunEnd, odRunEnd, .func (PySem.W.fnOf "run_end" "run_end" (defArgs sRunEnd) (defBody sRunEnd) (defScope sRunEnd) .none kVRunEnd dcRunEnd pmRunEnd anRunEnd cdRunEnd ctRunEnd), slRunEnd⟩) (cRunEnd : PySem.W.codeIn K cdRunEnd "run_end" = true) (kRunEnd : PySem.W.keepIn K (.ref aRunEnd) = true)
    {odTokens anTokens : Option Addr} {slTokens : Array (Option Value)} {ocTokens kVTokens dcTokens pmTokens cdTokens ctTokens : Value} {aTokens : Addr}
    (xTokens : PySem.W.nsIn K mainGlobals "tokens" = some (some (.ref aTokens))) (lTokens : K.lookup aTokens = some ⟨ocTokens, odTokens, .func (PySem.W.fnOf "tokens" "tokens" (defArgs sTokens) (defBody sTokens) (defScope sTokens) .none kVTokens dcTokens pmTokens anTokens cdTokens ctTokens), slTokens⟩) (cTokens : PySem.W.codeIn K cdTokens "tokens" = true) (kTokens : PySem.W.keepIn K (.ref aTokens) = true)
    {odLaw anLaw : Option Addr} {slLaw : Array (Option Value)} {ocLaw kVLaw dcLaw pmLaw cdLaw ctLaw : Value} {aLaw : Addr}
    (xLaw : PySem.W.nsIn K mainGlobals "law" = some (some (.ref aLaw))) (lLaw : K.lookup aLaw = some ⟨ocLaw, odLaw, .func (PySem.W.fnOf "law" "law" (defArgs sLaw) (defBody sLaw) (defScope sLaw) .none kVLaw dcLaw pmLaw anLaw cdLaw ctLaw), slLaw⟩) (cLaw : PySem.W.codeIn K cdLaw "law" = true) (kLaw : PySem.W.keepIn K (.ref aLaw) = true)
    {tg_DIGITS : Nat} (xg_DIGITS : PySem.W.nsIn K mainGlobals "DIGITS" = some (some (.str "0123456789" tg_DIGITS)))
    {tg_LETTERS : Nat} (xg_LETTERS : PySem.W.nsIn K mainGlobals "LETTERS" = some (some (.str "abcdefghijklmnopqrstuvwxyz" tg_LETTERS)))
    (z_range : PySem.W.nsIn K mainGlobals "range" = some none)
    (z_int : PySem.W.nsIn K mainGlobals "int" = some none)
    (z_len : PySem.W.nsIn K mainGlobals "len" = some none)
    (z_isinstance : PySem.W.nsIn K mainGlobals "isinstance" = some none)
    (z_bool : PySem.W.nsIn K mainGlobals "bool" = some none)
    (z_tuple : PySem.W.nsIn K mainGlobals "tuple" = some none)
    (z_all : PySem.W.nsIn K mainGlobals "all" = some none)
    (z_str : PySem.W.nsIn K mainGlobals "str" = some none)
    (z_max : PySem.W.nsIn K mainGlobals "max" = some none) :
    ∃ fd : FuncData, (∀ (s : Shared) (v : Value), BindsTo s fd ⟨[v], []⟩ [("_law_script", v)]) ∧ ∀ base : Heap, K.In base → base.Ns mainGlobals mg → FnOk l.prog w K mg base (L2.CX l.prog w) 4 fa fd ["_law_script"] (spOf K [] spLaw) := by
  have e := hfa.symm.trans (PySem.W.mg_of X G xLaw)
  cases e
  have ULawDigits := fun_mk (st := sLawDigits) lLawDigits cLawDigits kLawDigits
  have BLawDigits := ULawDigits.binds (ps := ["_law_cell_here", "_law_at"]) fun _ _ _ _ _ _ us hl => match us, hl with | [_, _], _ => rfl
  have ULawCell := fun_mk (st := sLawCell) lLawCell cLawCell kLawCell
  have BLawCell := ULawCell.binds (ps := ["_law_script", "_law_k"]) fun _ _ _ _ _ _ us hl => match us, hl with | [_, _], _ => rfl
  have ULawBox := fun_mk (st := sLawBox) lLawBox cLawBox kLawBox
  have BLawBox := ULawBox.binds (ps := ["_law_script", "_law_at"]) fun _ _ _ _ _ _ us hl => match us, hl with | [_, _], _ => rfl
  have ULawDraw := fun_mk (st := sLawDraw) lLawDraw cLawDraw kLawDraw
  have BLawDraw := ULawDraw.binds (ps := ["_law_box_here", "_law_many"]) fun _ _ _ _ _ _ us hl => match us, hl with | [_, _], _ => rfl
  have ULawGap := fun_mk (st := sLawGap) lLawGap cLawGap kLawGap
  have BLawGap := ULawGap.binds (ps := ["_law_box_here"]) fun _ _ _ _ _ _ us hl => match us, hl with | [_], _ => rfl
  have ULawSigns := fun_mk (st := sLawSigns) lLawSigns cLawSigns kLawSigns
  have BLawSigns := ULawSigns.binds (ps := ["_law_box_here"]) fun _ _ _ _ _ _ us hl => match us, hl with | [_], _ => rfl
  have ULawKind := fun_mk (st := sLawKind) lLawKind cLawKind kLawKind
  have BLawKind := ULawKind.binds (ps := ["_law_sign"]) fun _ _ _ _ _ _ us hl => match us, hl with | [_], _ => rfl
  have ULawSplit := fun_mk (st := sLawSplit) lLawSplit cLawSplit kLawSplit
  have BLawSplit := ULawSplit.binds (ps := ["_law_text"]) fun _ _ _ _ _ _ us hl => match us, hl with | [_], _ => rfl
  have ULawIsInteger := fun_mk (st := sLawIsInteger) lLawIsInteger cLawIsInteger kLawIsInteger
  have BLawIsInteger := ULawIsInteger.binds (ps := ["_law_actual"]) fun _ _ _ _ _ _ us hl => match us, hl with | [_], _ => rfl
  have ULawSame := fun_mk (st := sLawSame) lLawSame cLawSame kLawSame
  have BLawSame := ULawSame.binds (ps := ["_law_actual", "_law_due"]) fun _ _ _ _ _ _ us hl => match us, hl with | [_, _], _ => rfl
  have URunEnd := fun_mk (st := sRunEnd) lRunEnd cRunEnd kRunEnd
  have BRunEnd := URunEnd.binds (ps := ["text", "at", "signs"]) fun _ _ _ _ _ _ us hl => match us, hl with | [_, _, _], _ => rfl
  have UTokens := fun_mk (st := sTokens) lTokens cTokens kTokens
  have BTokens := UTokens.binds (ps := ["text"]) fun _ _ _ _ _ _ us hl => match us, hl with | [_], _ => rfl
  have ULaw := fun_mk (st := sLaw) lLaw cLaw kLaw
  have BLaw := ULaw.binds (ps := ["_law_script"]) fun _ _ _ _ _ _ us hl => match us, hl with | [_], _ => rfl
  exact ⟨PySem.W.fnOf "law" "law" (defArgs sLaw) (defBody sLaw) (defScope sLaw) .none kVLaw dcLaw pmLaw anLaw cdLaw ctLaw, fun s v => .of_eq rfl, fun base _ _ => ok_all ⟨ULawDigits, PySem.W.mg_of X G xLawDigits, BLawDigits⟩ ⟨ULawCell, PySem.W.mg_of X G xLawCell, BLawCell⟩ ⟨ULawBox, PySem.W.mg_of X G xLawBox, BLawBox⟩ ⟨ULawDraw, PySem.W.mg_of X G xLawDraw, BLawDraw⟩ ⟨ULawGap, PySem.W.mg_of X G xLawGap, BLawGap⟩ ⟨ULawSigns, PySem.W.mg_of X G xLawSigns, BLawSigns⟩ ⟨ULawKind, PySem.W.mg_of X G xLawKind, BLawKind⟩ ⟨ULawSplit, PySem.W.mg_of X G xLawSplit, BLawSplit⟩ ⟨ULawIsInteger, PySem.W.mg_of X G xLawIsInteger, BLawIsInteger⟩ ⟨ULawSame, PySem.W.mg_of X G xLawSame, BLawSame⟩ ⟨URunEnd, PySem.W.mg_of X G xRunEnd, BRunEnd⟩ ⟨UTokens, PySem.W.mg_of X G xTokens, BTokens⟩ ⟨ULaw, PySem.W.mg_of X G xLaw, BLaw⟩ (PySem.W.mg_none_of X G z_range) (PySem.W.mg_none_of X G z_int) (PySem.W.mg_none_of X G z_len) (PySem.W.mg_none_of X G z_isinstance) (PySem.W.mg_none_of X G z_bool) (PySem.W.mg_none_of X G z_tuple) (PySem.W.mg_none_of X G z_all) (PySem.W.mg_none_of X G z_str) (PySem.W.mg_none_of X G z_max) (VL.glob_str (PySem.W.mg_of X G xg_DIGITS)) (VL.glob_str (PySem.W.mg_of X G xg_LETTERS))⟩
theorem hsp_law {K : PySem.W.Frag} {H : Hp} {a : Addr} {ns : List Int} (h1 : ns.length ≤ 63) (h2 : Only H) (h3 : SqL K H a (ns.map V.int)) : spOf K [] spLaw [.ref a] H (fun v _ => v = .bl true) fun _ _ _ => False := VL.law_start (fun A B h => ⟨ns, rfl, h⟩) h3
end K08
open PySem PySem.W PyProof.Rows
set_option maxHeartbeats 0 in
theorem PySem.Challenge.cw_cubesums_k08_tokens_holds : PySem.Challenge.rw_cubesums_k08_tokens.Holds := by
  w_on; o_law; k_head; (case hw => w_witness2)
  k_fill
  refine L2.walk_of (l := PySem.Challenge.rw_cubesums_k08_tokens) (n := 63) (k := 4) (x := "_law_script") (CX := fun w => L2.CX PySem.Challenge.rw_cubesums_k08_tokens.prog w) (sp := fun w => VL.spOf _ [] K08.spLaw) rfl (by decide) rfl ⟨rfl, by decide, by decide⟩ (fun w h Y => PySem.W.kIn_of Y) ?F (fun _ _ a ns hl hO hS => K08.hsp_law hl hO hS) ?hCX
  case hCX => exact fun _ _ _ _ _ h => VL.cx_none h
  case F =>
    intro w mg fa h KX G hmg
    refine' K08.all_mk KX G hmg ?xLawDigits ?lLawDigits ?cLawDigits ?kLawDigits ?xLawCell ?lLawCell ?cLawCell ?kLawCell ?xLawBox ?lLawBox ?cLawBox ?kLawBox ?xLawDraw ?lLawDraw ?cLawDraw ?kLawDraw ?xLawGap ?lLawGap ?cLawGap ?kLawGap ?xLawSigns ?lLawSigns ?cLawSigns ?kLawSigns ?xLawKind ?lLawKind ?cLawKind ?kLawKind ?xLawSplit ?lLawSplit ?cLawSplit ?kLawSplit ?xLawIsInteger ?lLawIsInteger ?cLawIsInteger ?kLawIsInteger ?xLawSame ?lLawSame ?cLawSame ?kLawSame ?xRunEnd ?lRunEnd ?cRunEnd ?kRunEnd ?xTokens ?lTokens ?cTokens ?kTokens ?xLaw ?lLaw ?cLaw ?kLaw ?xg_DIGITS ?xg_LETTERS ?z_range ?z_int ?z_len ?z_isinstance ?z_bool ?z_tuple ?z_all ?z_str ?z_max
    (case xLawDigits => k_is); (case lLawDigits => k_is); (case cLawDigits => k_is); (case kLawDigits => k_is); (case xLawCell => k_is); (case lLawCell => k_is); (case cLawCell => k_is); (case kLawCell => k_is); (case xLawBox => k_is); (case lLawBox => k_is); (case cLawBox => k_is); (case kLawBox => k_is); (case xLawDraw => k_is); (case lLawDraw => k_is); (case cLawDraw => k_is); (case kLawDraw => k_is); (case xLawGap => k_is); (case lLawGap => k_is); (case cLawGap => k_is); (case kLawGap => k_is); (case xLawSigns => k_is); (case lLawSigns => k_is); (case cLawSigns => k_is); (case kLawSigns => k_is); (case xLawKind => k_is); (case lLawKind => k_is); (case cLawKind => k_is); (case kLawKind => k_is); (case xLawSplit => k_is); (case lLawSplit => k_is); (case cLawSplit => k_is); (case kLawSplit => k_is); (case xLawIsInteger => k_is); (case lLawIsInteger => k_is); (case cLawIsInteger => k_is); (case kLawIsInteger => k_is); (case xLawSame => k_is); (case lLawSame => k_is); (case cLawSame => k_is); (case kLawSame => k_is); (case xRunEnd => k_is); (case lRunEnd => k_is); (case cRunEnd => k_is); (case kRunEnd => k_is); (case xTokens => k_is); (case lTokens => k_is); (case cTokens => k_is); (case kTokens => k_is); (case xLaw => k_is); (case lLaw => k_is); (case cLaw => k_is); (case kLaw => k_is); (case xg_DIGITS => k_is); (case xg_LETTERS => k_is); (case z_range => k_is); (case z_int => k_is); (case z_len => k_is); (case z_isinstance => k_is); (case z_bool => k_is); (case z_tuple => k_is); (case z_all => k_is); (case z_str => k_is); (case z_max => k_is)
