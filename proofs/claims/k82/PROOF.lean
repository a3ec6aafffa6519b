import PyProof.Rows.All
import Wide.All
import OpenK.AllK
import Wide.FinOn
import KE.KStateDown
import Lean
import HandS.ForMost
import HandS.Exc
import HandS.ExcOwn
import HandS.ExcCtx
import HandS.SuiteRaise
import HandS.HotCalls
import HandS.Defaults
import HandS.IsInst
import HandS.ExcField
import HandS.ExcIs
import HandS.ClsMeth
import HandS.RaiseFrom
import HandS.ExcInitHot
import KE.KExcIs
import HandS.Codes
import HandS.Head0
import HandS.Head1
import HandS.Head2
import HandS.HeadEnd
import HandS.HeadHook1
import HandS.HeadHook2
import HandS.Evl
import HandS.Wide
import HandS.Steps
import HandS.Replace
import KE.IntTextLaws
import PyProof.ToksMono
import PyProof.P3Eq
import PySem.Challenge.RW_thinbook_k82_rules_written
set_option Elab.async false
set_option linter.all false
set_option maxRecDepth 100000
set_option maxHeartbeats 4000000
/-! Y1: exceptions with the chain of their contexts: what flies, raise (calm, and in a suite), try with any clauses. -/
namespace Y
open PySem PySem.Spec PyProof.Rows L2
abbrev Ch := List (Addr × Obj)
/-- the context that an exception ahead of this chain names -/
def nxt : Ch → Value
  | [] => .none
  | p :: _ => .ref p.1
def ChOk : Ch → Prop
  | [] => True
  | p :: r => (∃ fv : Array Value, p.2.data = .fields fv ∧ fv[2]? = some (nxt r)) ∧ ChOk r
def Ctx (c : Value) (o : Obj) : Prop := ∀ fv : Array Value, o.data = .fields fv → fv[2]? = some c
theorem ctx_steady (c : Value) : PXN.Steady1 (Ctx c) := fun o v hc => by
  obtain ⟨oc, od, dt, sl⟩ := o
  cases dt with
  | fields f0 =>
    intro fv hfv
    have q1 : f0.setIfInBounds 1 v = fv := Data.fields.inj hfv
    rw [← q1, show (f0.setIfInBounds 1 v)[2]? = f0[2]? from by first | exact Array.getElem?_setIfInBounds_ne (by decide) | simp [Array.getElem?_setIfInBounds]]
    exact hc f0 rfl
  | _ =>
    intro fv hfv
    first | exact Data.noConfusion hfv | cases hfv
/-- class, own dict, context -/
def Zy (cls : Value) (d : Option Addr) (ch : Ch) : Obj → Prop := fun o => o.cls = cls ∧ o.dict = d ∧ Ctx (nxt ch) o
theorem zy_steady {cls : Value} {d : Option Addr} {ch : Ch} : PXN.Steady1 (Zy cls d ch) := fun o v z => ⟨PXN.steady_cls o v z.1, PXN.steady_dict o v z.2.1, ctx_steady _ o v z.2.2⟩
theorem zy_zc {cls : Value} {d : Option Addr} {ch : Ch} {o : Obj} (z : Zy cls d ch o) : Zc cls d o := ⟨z.1, z.2.1⟩
/-- the chain stands in B, untracked -/
def ChIn (ch : Ch) (B : Heap) (H : Hp) : Prop := ChOk ch ∧ ∀ p ∈ ch, B.get? p.1 = some p.2 ∧ H p.1 = none ∧ ∀ v, p.2.data ≠ .cell v
theorem ChIn.nil {B : Heap} {H : Hp} : ChIn [] B H := ⟨trivial, fun p hp => by cases hp⟩
/-- the frame that a context runs in (a comprehension's block: the def's) -/
def fr (env : Env) : Addr := env.frame.getD env.locals
theorem fr_of {env : Env} (hf : env.frame = some env.locals) : fr env = env.locals := by
  unfold fr
  rw [hf]
  rfl
/-- an exception in the air of X -/
def XE (X : Cx) (W : WX) (u : Value) (s' : Shared) : Prop :=
  ∃ (a : Addr) (B : Heap) (s0 : Shared) (pins : List (Addr × Obj)) (σ : L2.St) (H : Hp) (cls : Value) (d : Option Addr) (ch : Ch),
    u = .ref a ∧ Inv X pins σ H s0 ∧ (∀ b o, s0.heap.get? b = some o → b ∉ frs X.stack → B.get? b = some o) ∧ s0.heap.UpToSlots s'.heap ∧
      Sky B X.stack a (Zy cls d ch) (fr X.env) s'.heap ∧ H a = none ∧ s'.os = s0.os ∧ AllBare s'.gens ∧ ChIn ch B H ∧ W cls d σ H
def Takes (X : Cx) (W : WX) : Prop := ∀ u s', XE X W u s' → X.xe u s'
theorem takes_none {X : Cx} : Takes X (fun _ _ _ _ => False) := fun _ _ ⟨_, _, _, _, _, _, _, _, _, _, _, _, _, _, _, _, _, _, w⟩ => w.elim
/-- behind a call that let an exception out -/
def CX (P : Program) (w : World) (outer : List Env) (H : Hp) (s : Shared) (E : XK) (u : Value) (s' : Shared) : Prop :=
  ∃ (a : Addr) (B : Heap) (H' : Hp) (cls : Value) (d : Option Addr) (ch : Ch), u = .ref a ∧ HandSPX.FlyingZ B outer a (Zy cls d ch) s'.heap ∧ HOk P w H' B ∧ UB (frs outer) H H' s.heap B s'.heap ∧
    H' a = none ∧ s'.os = s.os ∧ AllBare s'.gens ∧ ChIn ch B H' ∧ E cls d H'
theorem cx_none {P : Program} {w : World} {outer : List Env} {H : Hp} {s : Shared} {u : Value} {s' : Shared} (c : CX P w outer H s (fun _ _ _ => False) u s') : False := by
  obtain ⟨_, _, _, _, _, _, _, _, _, _, _, _, _, _, e⟩ := c
  exact e
section
variable {X : Cx} {pins : List (Addr × Obj)} {σ : L2.St} {H : Hp} {s0 s s' : Shared} {B : Heap} {W : WX} {E : XK}
theorem xe_call (I : Inv X pins σ H s) (hW : ∀ cls d H', E cls d H' → W cls d σ H') {u : Value} (c : CX X.prog X.w X.stack H s E u s') : XE X W u s' := by
  obtain ⟨a, B, H', cls, d, ch, rfl, fl, hok, ub, na, os, ag, hch, hE⟩ := c
  obtain ⟨G, r1, r2⟩ := restrict s'.heap fun b => (B.get? b).isSome || decide (b ∈ frs X.stack)
  have st : B.StaysIn s'.heap := fl.1
  have iB : ∀ b o, B.get? b = some o → G.get? b = some o := fun b o e => (r1 b (by simp [e])).trans (st b o e)
  have iF : ∀ b, b ∈ frs X.stack → G.get? b = s'.heap.get? b := fun b hb => r1 b (by simp [hb])
  have oG : ∀ b o, G.get? b = some o → s'.heap.get? b = some o ∧ ((B.get? b).isSome = true ∨ b ∈ frs X.stack) := fun b o e => by
    cases q : ((B.get? b).isSome || decide (b ∈ frs X.stack)) with
    | false => exact absurd ((r2 b q).symm.trans e) (by intro z; cases z)
    | true => exact ⟨(r1 b q).symm.trans e, by simpa [Bool.or_eq_true] using q⟩
  refine ⟨a, B, { s with heap := G, gens := s'.gens, drawn := s'.drawn, toks := s'.toks }, pins, σ, H', cls, d, ch, rfl, ?_, fun b o e hb => ?_, Heap.UpToSlots.of_keeps fun b o e => (oG b o e).1, .inr (.inl fl), na, os, ag, hch, hW _ _ _ hE⟩
  · refine I.call (ch := []) ⟨fun b o e n hb _ => iB b o (ub.keep b o e n hb), fun b o e n hb _ => ?_, fun b o e n _ => ub.free b o e n, fun b o e _ => ?_, ub.tups, ub.frzs, ub.tbls⟩ (hok.kept iB) ag (fun _ z => nomatch z)
    · obtain ⟨sl, q⟩ := ub.slot b o e hb
      exact ⟨sl, (iF b hb).trans q⟩
    · by_cases hb : b ∈ frs X.stack
      · obtain ⟨sl, q⟩ := ub.slot b o e hb
        exact ⟨_, (iF b hb).trans q⟩
      · obtain ⟨o2, q⟩ := ub.there b o e hb
        exact ⟨o2, iB b o2 q⟩
  · obtain ⟨e2, hh⟩ := oG b o e
    rcases hh with hh | hh
    · obtain ⟨o2, q⟩ := Option.isSome_iff_exists.mp hh
      have z := (st b o2 q).symm.trans e2
      cases z
      exact q
    · exact absurd hh hb
/-- a new exception, its context the chain's first one -/
theorem xe_new {a : Addr} {oe : Obj} {fv : Array Value} {cls : Value} {d : Option Addr} {ch : Ch} (I : Inv X pins σ H s0) (k : ∀ b o, s0.heap.get? b = some o → s'.heap.get? b = some o) (hne : s0.heap.get? a = none) (he : s'.heap.get? a = some oe)
    (hz : Zy cls d ch oe) (hd : oe.data = .fields fv) (h1 : fv[1]? = some .none) (na : H a = none) (os : s'.os = s0.os) (ag : AllBare s'.gens) (hc : ChOk ch) (hp : ∀ p ∈ ch, p ∈ X.pn ++ pins) (w : W cls d σ H) : XE X W (.ref a) s' := by
  refine ⟨a, PySem.W.hideAll s0.heap (frs X.stack), s0, pins, σ, H, cls, d, ch, rfl, I, fun b o e hb => PySem.W.hideAll_get _ e hb, Heap.UpToSlots.of_keeps k,
    .inl ⟨fun b o e => k b o (PySem.W.of_hideAll _ e), ?_, ?_, oe, fv, he, hz, hd, h1⟩, na, os, ag, ⟨hc, fun p hp' => ?_⟩, w⟩
  · cases q : (PySem.W.hideAll s0.heap (frs X.stack)).get? a with
    | none => rfl
    | some o => exact absurd (hne.symm.trans (PySem.W.of_hideAll _ q)) (by intro z; cases z)
  · exact Heap.FunFrames.of_keeps (fun b o e _ => ⟨o, k b o e, rfl⟩) (funFrames_none I.stack fun b hb => PySem.W.hideAll_none _ hb)
  · obtain ⟨p1, p2, p3, p4, p5⟩ := I.pin p (hp p hp')
    refine ⟨PySem.W.hideAll_get _ p1 fun hm => ?_, p2, p5⟩
    rcases List.mem_cons.mp (I.stkSub _ hm) with z | z
    · exact p3 z
    · exact p4 z
/-- it leaves the def -/
theorem xe_leave (hs : X.stack = X.env :: X.outer) (hf : X.env.frame = some X.env.locals) (hex : X.ex = []) {E₁ : Value → Shared → Prop} (hW : ∀ cls d σ H, W cls d σ H → E cls d H) {u : Value} (x : XE X W u s') :
    wpAny (model X.prog X.w) X.A (leaving X.env u) (fun _ t => CX X.prog X.w X.outer X.H_0 X.s_0 E u t) E₁ s' := by
  obtain ⟨a, B, s0, pins, σ, H, cls, d, ch, rfl, I, nb, up, sky, na, os, ag, hch, w⟩ := x
  have frm : X.A.frames = some (X.env :: X.outer) := I.ok.frames.trans (congrArg some hs)
  have notS : ∀ b o, X.s_0.heap.get? b = some o → b ∉ X.fs → b ∉ frs X.stack := fun b o e hb hm => by
    rcases List.mem_cons.mp (I.stkSub b hm) with z | z
    · have l1 := Heap.lt_size e
      rw [z] at l1
      exact absurd (Nat.lt_of_lt_of_le l1 I.ok.above) (Nat.lt_irrefl _)
    · exact hb z
  have noE : ∀ b, b ∉ X.ex := fun b hb => by rw [hex] at hb; cases hb
  have gd := I.inGround nb
  have fin : ∀ h1, HandSPX.FlyingZ B X.outer a (Zy cls d ch) h1 → s'.heap.UpToSlots h1 → CX X.prog X.w X.outer X.H_0 X.s_0 E (.ref a) { s' with heap := h1 } := fun h1 fl up1 => by
    refine ⟨a, B, H, cls, d, ch, rfl, fl, gd, ⟨fun b o e n hb => nb b o (I.base.keep b o e n hb (noE b)) (notS b o e hb), fun b o e hb => ?_, fun b o e n => I.base.free b o e n (noE b), fun b o e hb => ?_, I.base.tups, I.base.frzs, I.base.tbls⟩,
      na, os.trans I.os, ag, hch, hW _ _ _ _ w⟩
    · obtain ⟨_, o₀, e₀, hnf⟩ := I.ok.funs.mem hb
      have z := e₀.symm.trans e
      cases z
      obtain ⟨l1, e1⟩ := I.base.slot b o e (I.ok.frf b hb) hb (noE b)
      obtain ⟨l2, e2⟩ := up b _ e1 hnf
      obtain ⟨l3, e3⟩ := up1 b _ e2 hnf
      exact ⟨l3, e3⟩
    · obtain ⟨o2, e1⟩ := I.base.there b o e (noE b)
      exact ⟨o2, nb b o2 e1 (notS b o e hb)⟩
  rw [hs, fr_of hf] at sky
  rcases sky with ⟨hB, hn, hl, oe, fv, he, hz, hd, h1⟩ | fl | hd
  · exact PXN.leaving_firstZ zy_steady frm hl hf he hB hn hd h1 hz fin
  · exact PXN.leaves_onZ zy_steady frm hf fl fin
  · exact HandSPX.leaves_heldZ hf hd fin
/-- a def's wish about exceptions -/
theorem takes_of (hs : X.stack = X.env :: X.outer) (hf : X.env.frame = some X.env.locals) (hex : X.ex = []) {E₁ : Value → Shared → Prop}
    (hx : X.xe = fun e t => wpAny (model X.prog X.w) X.A (leaving X.env e) (fun _ t2 => CX X.prog X.w X.outer X.H_0 X.s_0 E e t2) E₁ t) : Takes X (fun cls d _ H => E cls d H) := fun u t x => by
  rw [hx]
  exact xe_leave (W := fun cls d _ H => E cls d H) (E := E) hs hf hex (fun _ _ _ _ h => h) x
/-- what a callee lets out, wished for at these slots -/
def PassAt (X : Cx) (σ : L2.St) (E : XK) : Prop := PassesAt (Y.CX X.prog X.w) X σ E
theorem pass_at (tk : Takes X W) (σ : L2.St) : PassAt X σ (WE W σ) := fun _ _ _ e t I c => tk e t (xe_call I (fun _ _ _ h => h) c)
theorem sky_land {M : Model} {A : Around} {E₁ : Value → Shared → Prop} {env : Env} {outer : List Env} {L a : Addr} {Z : Obj → Prop} {Q : Unit → Shared → Prop} (hZ : PXN.Steady1 Z) (hfr : A.frames = some (env :: outer)) (hf : env.frame = some L)
    (x : Sky B (env :: outer) a Z L s.heap) (hQ : ∀ h1, HandSPX.FlyingZ B (env :: outer) a Z h1 → s.heap.UpToSlots h1 → Q () { s with heap := h1 }) :
    wpAny M A (noteFrame (.ref a) env) (fun _ s₂ => wpAny M A (setFlight (.ref a) none) Q E₁ s₂) E₁ s := L2N.Sky.land hZ hfr hf x hQ
end
/-! ### raise -/
/-- calm: the context is None -/
theorem ps_raiseY {X : Cx} {W : WX} {e : Expr} {t : L2.St → Hp → XK → Prop} {pos : Pos} (hc : X.calm = true) (tk : Takes X W) (he : L2N.PMk X e t) : PS X (.Raise (some e) none pos) (fun _ σ H => t σ H fun cls d H' => W cls d σ H') := by
  refine ⟨fun pins s σ H D I h => ?_⟩
  show wpAny _ _ (do standAt pos; raiseStmt X.env (some (do let v ← eval e X.env; standAt pos; pure v)) none) _ _ _
  refine wpAny_bind (wpAny_standAt (raise_made (I.ok.hd hc) (wpAny_bind (wpAny_mono (he pins s σ H _ I h) (fun u s1 hu => wpAny_bind (wpAny_standAt (wpAny_pure ?_))) fun _ _ x => x))))
  obtain ⟨a, oe, fv, sI, H1, cls, d, rfl, J, k, hne, ha, hz, hd, h1, na, os, ag, r, q⟩ := hu
  obtain ⟨r1, r2⟩ := r (model X.prog X.w) s1.heap (J.kIn.keeps k)
  exact ⟨a, oe, fv, cls, rfl, ha, hz.1, hd, h1, r1, r2, tk _ _ (xe_new (ch := []) J k hne ha ⟨hz.1, hz.2.1, hz.2.2⟩ hd h1 na os ag trivial (fun p hp => by cases hp) q)⟩
/-- in a suite: the handled exception heads a chain that is pinned -/
structure Hot (X : Cx) : Prop where
  ex : ∃ (p : Addr × Obj) (ch : Ch), X.A.handled = some (.ref p.1) ∧ ChOk (p :: ch) ∧ ∀ q ∈ p :: ch, q ∈ X.pn
section
variable {prog : Program} {w : World} {A : Around} {E : Value → Shared → Prop} {s : Shared}
/-- the walk along the contexts ends: the value is none of them -/
theorem unchain_go {a : Addr} : ∀ (ch : Ch) (p q : Addr × Obj) (c2 : Ch) (b : Bool) (Q : Value → Shared → Prop), ChOk (p :: ch) → ChOk (q :: c2) → ch.length ≤ c2.length → (∀ r, r ∈ p :: ch ∨ r ∈ q :: c2 → s.heap.get? r.1 = some r.2 ∧ r.1 ≠ a) → Q .none s →
    codeAny (model prog w) A (.builtin "proto.unchain" ⟨[.ref a, .ref p.1, .ref q.1, .bool b], []⟩) (fun r s' => ∃ v, r = .ok (.ret v) ∧ Q v s') s := by
  intro ch
  induction ch with
  | nil =>
    intro p q c2 b Q hc hq hl hs hQ
    obtain ⟨⟨fv, hd, h2⟩, _⟩ := hc
    refine codeAny_builtin HotX.entry_unchain ?_
    show wpAny _ _ (field (.ref p.1) 2 >>= _) _ _ s
    refine wpAny_bind (wpAny_field (hs p (.inl List.mem_cons_self)).1 hd h2 ?_)
    rw [if_pos (show (nxt [] == Value.none) = true from rfl)]
    exact wpAny_bind (wpAny_pure (wpAny_pure ⟨_, rfl, hQ⟩))
  | cons p2 ch ih =>
    intro p q c2 b Q hc hq hl hs hQ
    obtain ⟨⟨fv, hd, h2⟩, hc2⟩ := hc
    refine codeAny_builtin HotX.entry_unchain ?_
    show wpAny _ _ (field (.ref p.1) 2 >>= _) _ _ s
    refine wpAny_bind (wpAny_field (hs p (.inl List.mem_cons_self)).1 hd h2 ?_)
    have h3 := hs p2 (.inl (List.mem_cons_of_mem _ List.mem_cons_self))
    have e1 : ¬ ((nxt (p2 :: ch) == Value.none) = true) := by
      show ¬ ((Value.ref p2.1 == Value.none) = true)
      simp
    have e2 : ¬ ((nxt (p2 :: ch) == Value.ref a) = true) := by
      show ¬ ((Value.ref p2.1 == Value.ref a) = true)
      intro z
      exact h3.2 (Value.ref.inj (eq_of_beq z))
    rw [if_neg e1, if_neg e2]
    by_cases e3 : (nxt (p2 :: ch) == Value.ref q.1) = true
    · rw [if_pos e3]
      exact wpAny_bind (wpAny_rule (wpAny_bind (wpAny_pure (wpAny_pure ⟨_, rfl, hQ⟩))))
    · rw [if_neg e3]
      cases c2 with
      | nil => exact absurd hl (by simp)
      | cons q2 c3 =>
        have hl2 : ch.length ≤ c3.length := by simpa using hl
        cases b with
        | false =>
          rw [if_neg Bool.false_ne_true]
          refine wpAny_bind (wpAny_pure (wpAny_pure ⟨Code.quiet_builtin _ (by decide +kernel), ?_⟩))
          exact ih p2 q (q2 :: c3) _ Q hc2 hq (Nat.le_succ_of_le hl2) (fun r hr => hs r (hr.elim (fun z => .inl (List.mem_cons_of_mem _ z)) .inr)) hQ
        | true =>
          rw [if_pos rfl]
          obtain ⟨⟨fq, hdq, h2q⟩, hq2⟩ := hq
          refine wpAny_bind (wpAny_field (hs q (.inr List.mem_cons_self)).1 hdq h2q (wpAny_pure ⟨Code.quiet_builtin _ (by decide +kernel), ?_⟩))
          exact ih p2 q2 c3 _ Q hc2 hq2 hl2 (fun r hr => hs r (hr.elim (fun z => .inl (List.mem_cons_of_mem _ z)) fun z => .inr (List.mem_cons_of_mem _ z))) hQ
theorem unchain_ok {a : Addr} {p : Addr × Obj} {ch : Ch} {Q : Value → Shared → Prop} (hc : ChOk (p :: ch)) (hs : ∀ r ∈ p :: ch, s.heap.get? r.1 = some r.2 ∧ r.1 ≠ a) (q : Q .none s) :
    wpAny (model prog w) A (holding [Value.ref a] (runValue (.builtin "proto.unchain" ⟨[.ref a, .ref p.1, .ref p.1, .bool false], []⟩))) Q E s := by
  refine wpAny_holding (wpAny_runValue (codeAny_mono (unchain_go ch p p ch false Q hc hc (Nat.le_refl _) (fun r hr => hs r (hr.elim id id)) q) fun r s2 hr => ?_))
  obtain ⟨v, rfl, hv⟩ := hr
  exact hv
theorem raiseNew_hot {α : Type} {a : Addr} {p : Addr × Obj} {ch : Ch} {oe : Obj} {fv : Array Value} {Q : α → Shared → Prop} (hh : A.handled = some (.ref p.1)) (hc : ChOk (p :: ch)) (hs : ∀ r ∈ p :: ch, s.heap.get? r.1 = some r.2 ∧ r.1 ≠ a)
    (ha : s.heap.get? a = some oe) (da : oe.data = .fields fv) (hi : 2 < fv.size)
    (hE : E (.ref a) { s with heap := s.heap.update a (Obj.mapFields (·.setIfInBounds 2 (.ref p.1))) }) : wpAny (model prog w) A (raiseNew (.ref a) : Sem α) Q E s := by
  unfold raiseNew
  refine wpAny_bind (wpAny_handled ?_)
  rw [hh]
  have hb : (Value.ref p.1 != Value.ref a) = true := HotX.ref_bne (hs p List.mem_cons_self).2
  first
  | (show wpAny _ _ (if (Value.ref p.1 != Value.ref a) = true then _ else _) _ _ _
     rw [if_pos hb]
     first
     | exact wpAny_bind (unchain_ok hc hs (wpAny_bind (HotX.chained ha da hi (wpAny_throw hE))))
     | exact wpAny_bind (wpAny_bind (unchain_ok hc hs (HotX.chained ha da hi (wpAny_throw hE)))))
  | (refine wpAny_bind ?_
     show wpAny _ _ (if (Value.ref p.1 != Value.ref a) = true then _ else _) _ _ _
     rw [if_pos hb]
     exact wpAny_bind (unchain_ok hc hs (HotX.chained ha da hi (wpAny_throw hE))))
/-- raise of a made object while an exception is handled -/
theorem raise_suite {env : Env} {x : Sem Value} {Q : Flow → Shared → Prop} {p : Addr × Obj} {ch : Ch} (hh : A.handled = some (.ref p.1)) (hc : ChOk (p :: ch))
    (h : wpAny (model prog w) A x (fun v t => ∃ a oe fv cls, v = .ref a ∧ t.heap.get? a = some oe ∧ oe.cls = cls ∧ oe.data = .fields fv ∧ fv[1]? = some .none ∧ 2 < fv.size ∧ (∀ r ∈ p :: ch, t.heap.get? r.1 = some r.2 ∧ r.1 ≠ a) ∧
      PySem.W.Looks (model prog w) t.heap (isSubtype cls (.type "BaseException")) true ∧ PySem.W.Looks (model prog w) t.heap (typeOf cls) (.type "type") ∧ E (.ref a) { t with heap := t.heap.update a (Obj.mapFields (·.setIfInBounds 2 (.ref p.1))) }) E s) :
    wpAny (model prog w) A (raiseStmt env (some x) none) Q E s := by
  unfold raiseStmt
  dsimp only
  refine wpAny_bind (wpAny_mono h (fun v t ht => ?_) fun _ _ z => z)
  obtain ⟨a, oe, fv, cls, rfl, ha, hcls, hd, h1, hi, hne, M1, M3, hE⟩ := ht
  have tyA : PySem.W.Looks (model prog w) t.heap (typeOf (.ref a)) cls := fun A Q E s k q => wpAny_typeOf_ref (k _ _ ha) (by rw [hcls]; exact q)
  have isA : PySem.W.Looks (model prog w) t.heap (isInstance (.ref a) (.type "BaseException")) true := tyA.andThen M1
  have noTy : ∀ {Q' : Bool → Shared → Prop}, Q' false t → wpAny (model prog w) A (isType (.ref a)) Q' E t := by
    intro Q' hq
    simp only [isType, loadHead]
    refine wpAny_bind (wpAny_loadPart ha ?_)
    rw [hd]
    exact wpAny_pure hq
  refine wpAny_bind (wpAny_pure ?_)
  dsimp only
  refine wpAny_bind (wpAny_holding ?_)
  unfold excFromValue isExcClass
  refine wpAny_bind (wpAny_bind (noTy ?_))
  simp only [Bool.false_eq_true, if_false]
  refine wpAny_pure ?_
  simp only [Bool.false_eq_true, if_false]
  refine wpAny_bind (isA.here ?_)
  simp only [if_true]
  refine wpAny_pure ?_
  refine wpAny_bind (noTy ?_)
  simp only [Bool.false_eq_true, if_false]
  unfold raisedInstance
  refine wpAny_bind (wpAny_bind (tyA.here (wpAny_bind (M3.here ?_))))
  rw [if_pos (beq_self_eq_true _)]
  refine wpAny_pure ?_
  unfold setFlight
  refine wpAny_bind (wpAny_bind (wpAny_field ha hd h1 ?_))
  rw [if_neg (by decide)]
  refine wpAny_pure ?_
  exact raiseNew_hot hh hc hne ha hd hi hE
end
theorem ps_raiseYH {X : Cx} {W : WX} {e : Expr} {t : L2.St → Hp → XK → Prop} {pos : Pos} (hot : Hot X) (tk : Takes X W) (he : L2N.PMk X e t) : PS X (.Raise (some e) none pos) (fun _ σ H => t σ H fun cls d H' => W cls d σ H') := by
  refine ⟨fun pins s σ H D I h => ?_⟩
  obtain ⟨p, ch, hh, hc, hp⟩ := hot.ex
  show wpAny _ _ (do standAt pos; raiseStmt X.env (some (do let v ← eval e X.env; standAt pos; pure v)) none) _ _ _
  refine wpAny_bind (wpAny_standAt (raise_suite hh hc (wpAny_bind (wpAny_mono (he pins s σ H _ I h) (fun u s1 hu => wpAny_bind (wpAny_standAt (wpAny_pure ?_))) fun _ _ x => x))))
  obtain ⟨a, oe, fv, sI, H1, cls, d, rfl, J, k, hne, ha, hz, hd, h1, na, os, ag, r, q⟩ := hu
  obtain ⟨r1, r2⟩ := r (model X.prog X.w) s1.heap (J.kIn.keeps k)
  have pin : ∀ r ∈ p :: ch, sI.heap.get? r.1 = some r.2 := fun r hr => (J.pin r (List.mem_append_left _ (hp r hr))).1
  have hi : 2 < fv.size := (Array.getElem?_eq_some_iff.mp (hz.2.2 fv hd)).1
  have n1 : (fv.setIfInBounds 2 (Value.ref p.1))[1]? = some Value.none := by
    rw [show (fv.setIfInBounds 2 (Value.ref p.1))[1]? = fv[1]? from by first | exact Array.getElem?_setIfInBounds_ne (by decide) | simp [Array.getElem?_setIfInBounds]]
    exact h1
  have n2 : (fv.setIfInBounds 2 (Value.ref p.1))[2]? = some (Value.ref p.1) := by simp [hi]
  have hd2 := Obj.data_mapFields hd (·.setIfInBounds 2 (Value.ref p.1))
  refine ⟨a, oe, fv, cls, rfl, ha, hz.1, hd, h1, hi, fun r hr => ⟨k _ _ (pin r hr), fun z => ?_⟩, r1, r2, tk _ _ (xe_new (ch := p :: ch) J (fun b u z => ?_) hne (Heap.get?_update_self _ ha (Obj.isFreed_of_fields hd2))
    ⟨(Obj.cls_mapFields ..).trans hz.1, (HandSPX.dict_mapFields ..).trans hz.2.1, fun f2 hf2 => ?_⟩ hd2 n1 na os ag hc (fun r hr => List.mem_append_left _ (hp r hr)) q)⟩
  · have y := pin r hr
    rw [z, hne] at y
    cases y
  · have nab : a ≠ b := fun y => by
      rw [← y, hne] at z
      cases z
    show (s1.heap.update a (Obj.mapFields (·.setIfInBounds 2 (.ref p.1)))).get? b = some u
    rw [Heap.get?_update_other _ _ nab]
    exact k b u z
  · rw [hd2] at hf2
    cases hf2
    exact n2
/-! ### try -/
/-- the context of an except suite: what it raises is X's -/
abbrev suY (X : Cx) (a : Addr) (pn : List (Addr × Obj)) : Cx := { X with A := X.A.mark (some (.ref a)), calm := false, pn := pn }
theorem suY_ok {X : Cx} (ok : X.Ok) (a : Addr) (pn : List (Addr × Obj)) : (suY X a pn).Ok :=
  ⟨ok.mod, ok.kind, ok.glob, ok.blt, ok.above, ok.inj, ok.has, ok.cab, (fun z => absurd (show false = true from z) Bool.false_ne_true), ok.frames, ok.stk, ok.exf, ok.bs, ok.bsz, ok.noex, ok.exfs, ok.funs, ok.frf⟩
/-- the chain's objects pinned beside -/
def SuPins (X : Cx) (pins : List (Addr × Obj)) (a : Addr) (oe : Obj) (ch : Ch) : List (Addr × Obj) := ((a, oe) :: ch) ++ (X.pn ++ pins)
section
variable {X : Cx} {pins : List (Addr × Obj)} {σ : L2.St} {H : Hp} {s : Shared}
theorem su_in {a : Addr} {oe : Obj} {fv : Array Value} {ch : Ch} (I : Inv X pins σ H s) (ha : s.heap.get? a = some oe) (hd : oe.data = .fields fv) (na : H a = none) (nL : a ≠ X.env.locals) (nF : a ∉ X.fs)
    (hch : ∀ p ∈ ch, s.heap.get? p.1 = some p.2 ∧ H p.1 = none ∧ p.1 ≠ X.env.locals ∧ p.1 ∉ X.fs ∧ ∀ v, p.2.data ≠ .cell v) : Inv (suY X a (SuPins X pins a oe ch)) [] σ H s :=
  ⟨suY_ok I.ok _ _, I.os, I.bare, I.base, I.loc, I.cell, I.free, I.freeC, fun p hp => by
    have hp2 : p ∈ ((a, oe) :: ch) ++ (X.pn ++ pins) := by
      rw [List.append_nil] at hp
      exact hp
    rcases List.mem_append.mp hp2 with z | z
    · rcases List.mem_cons.mp z with z | z
      · rw [z]
        exact ⟨ha, na, nL, nF, fun v y => by
          have y2 : oe.data = .cell v := y
          rw [hd] at y2
          cases y2⟩
      · exact hch p z
    · exact I.pin p z, I.hok, I.len⟩
theorem su_out {a : Addr} {oe : Obj} {ch : Ch} {pn2 : List (Addr × Obj)} (I : Inv (suY X a (SuPins X pins a oe ch)) pn2 σ H s) (ok : X.Ok) : Inv X pins σ H s :=
  ⟨ok, I.os, I.bare, I.base, I.loc, I.cell, I.free, I.freeC, fun p hp => I.pin p (List.mem_append_left _ (List.mem_append_right _ hp)), I.hok, I.len⟩
end
/-- a clause: the class that it names, the slot of its name, its suite's reading -/
structure Cl where
  c : Value
  as_ : Option Nat
  ts : Addr → Value → Option Addr → TS
/-- the wish behind a suite: the name goes -/
def offD : Option Nat → Ends → Ends
  | none, D => D
  | some i, D => { nx := fun σ H => D.nx (σ.set i none) H, rt := D.rt, bk := fun σ H => D.bk (σ.set i none) H, ct := fun σ H => D.ct (σ.set i none) H }
def onS : Option Nat → Addr → L2.St → L2.St
  | none, _, σ => σ
  | some i, a, σ => σ.set i (some (.ref a))
/-- what the clauses wish of an exception of the body -/
def wCl (K : PySem.W.Frag) (Wout : WX) (D : Ends) : List Cl → WX
  | [] => Wout
  | k :: r => fun cls d σ H => ∃ b, PySem.W.exmOne K cls k.c = some b ∧ (b = true → ∀ a, H a = none → k.ts a cls d (offD k.as_ D) (onS k.as_ a σ) H) ∧ (b = false → wCl K Wout D r cls d σ H)
/-- the handlers: a suite without a name may raise, one with a name doesn't -/
inductive HdY (X : Cx) (Wout : WX) : List ExceptHandler → List Cl → Prop
  | nil : HdY X Wout [] []
  | bare {x : Str} {c : Value} {ts : Addr → Value → Option Addr → TS} {b₀ : Stmt} {suite : List Stmt} {np p2 : Pos} {hds : List ExceptHandler} {l : List Cl} (hc : Names X x c)
      (hsu : ∀ (a : Addr) (oe : Obj) (cls : Value) (d : Option Addr) (ch : Ch) (pn : List (Addr × Obj)), Zy cls d ch oe → (∃ fv, oe.data = .fields fv) → (a, oe) ∈ pn → Takes (suY X a pn) Wout → Hot (suY X a pn) → PSs (suY X a pn) (b₀ :: suite) (ts a cls d)) (r : HdY X Wout hds l) :
      HdY X Wout (.ExceptHandler (some (.Name x np)) none (b₀ :: suite) p2 :: hds) (⟨c, none, ts⟩ :: l)
  | named {x n : Str} {c : Value} {i : Nat} {ts : Addr → Value → Option Addr → TS} {b₀ : Stmt} {suite : List Stmt} {np p2 : Pos} {hds : List ExceptHandler} {l : List Cl} (hc : Names X x c) (hN : X.N.Nodup) (hi : X.N[i]? = some n) (hl : X.env.kindOf n = some .local)
      (hsu : ∀ (a : Addr) (oe : Obj) (cls : Value) (d : Option Addr) (ch : Ch) (pn : List (Addr × Obj)), Zy cls d ch oe → (∃ fv, oe.data = .fields fv) → (a, oe) ∈ pn → Hot (suY X a pn).nox → PSs (suY X a pn).nox (b₀ :: suite) (ts a cls d)) (r : HdY X Wout hds l) :
      HdY X Wout (.ExceptHandler (some (.Name x np)) (some n) (b₀ :: suite) p2 :: hds) (⟨c, some i, ts⟩ :: l)
section
variable {X : Cx} {body orelse : List Stmt} {h₀ : ExceptHandler} {hds : List ExceptHandler} {l : List Cl} {pos : Pos} {tb : WX → TS} {u : TS} {Wout : WX}
theorem ps_tryY (hs : X.stack = X.env :: X.outer) (hf : X.env.frame = some X.env.locals) (hpa : ∀ hd : Option Value, PassesOwnAt (model X.prog X.w) (X.A.mark hd) X.A X.env X.xe) (tk : Takes X Wout)
    (hb : ∀ (W : WX) (pn : List (Addr × Obj)) (xe : Value → Shared → Prop), Takes (X.tr pn xe) W → PassesOwn (model X.prog X.w) X.A X.env xe → PSs (X.tr pn xe) body (tb W))
    (hh : HdY X Wout (h₀ :: hds) l) (ho : PSs X orelse u) : PS X (.Try body (h₀ :: hds) orelse [] pos) (fun D σ H => tb (wCl X.K Wout D l) { D with nx := u D } σ H) := by
  refine ⟨fun pins s σ H D I h => ?_⟩
  have ok := I.ok
  have frm : X.A.frames = some (X.env :: X.outer) := ok.frames.trans (congrArg some hs)
  refine wpAny_Try_except ?_
  refine wpAny_mono ((hb (wCl X.K Wout D l) (X.pn ++ pins) (fun e s₁ => wpAny (model X.prog X.w) X.A (noteFrame e X.env) (fun _ s₂ => wpAny (model X.prog X.w) X.A (setFlight e none) (fun _ s₃ =>
    wpAny (model X.prog X.w) X.A (handleBy e X.env (h₀ :: hds)) (SP X pins D) X.xe s₃) X.xe s₂) X.xe s₁) (fun v s' xx => ?_) PassesOwn.looking).run [] s σ H { D with nx := u D } (I.toTry _) h) (fun f s1 hsp => ?_) (fun e s1 he => he)
  · obtain ⟨a, B, s0, pins2, σ1, H1, cls, d, ch, rfl, J0, nb, up, sky, na, os, ag, ⟨hc1, hc2⟩, w⟩ := xx
    have J : Inv X pins σ1 H1 s0 := J0.ofTry ok
    have sky2 : Sky B (X.env :: X.outer) a (Zy cls d ch) X.env.locals s'.heap := by
      have y : Sky B X.stack a (Zy cls d ch) (fr X.env) s'.heap := sky
      rw [hs, fr_of hf] at y
      exact y
    show wpAny (model X.prog X.w) X.A (noteFrame (.ref a) X.env) _ _ _
    refine sky_land zy_steady frm hf sky2 fun h3 fl3 up3 => ?_
    have J3 : Inv X pins σ1 H1 { s' with heap := h3 } := J.landed nb fl3.1 (up.trans up3) os ag
    obtain ⟨oe3, fv3, he3, hz3, hd3⟩ := fl3.there
    have offFr : ∀ {h : Heap} {b : Addr} {o : Obj}, h.FunFrames B (X.env :: X.outer) → B.get? b = some o → b ∉ frs (X.env :: X.outer) := fun {h b o} ff e hm => by
      have y := (ff.mem hm).1
      rw [e] at y
      cases y
    have notFr : a ∉ frs (X.env :: X.outer) := fun hm => by
      obtain ⟨_, o2, e2, hnf⟩ := fl3.2.2.1.mem hm
      rw [he3] at e2
      cases e2
      exact hnf _ hd3
    have two : ∀ {b : Addr}, b ∉ frs (X.env :: X.outer) → b ≠ X.env.locals ∧ b ∉ X.fs := fun {b} nf => by
      refine ⟨fun z => nf (List.mem_filterMap.mpr ⟨X.env, List.mem_cons_self, by rw [hf, z]⟩), fun hm => ?_⟩
      obtain ⟨e, he, q⟩ := List.mem_filterMap.mp hm
      exact nf (List.mem_filterMap.mpr ⟨e, List.mem_cons_of_mem _ he, q⟩)
    obtain ⟨nL, nF⟩ := two notFr
    have chp : ∀ {h : Heap}, B.StaysIn h → ∀ p ∈ ch, h.get? p.1 = some p.2 ∧ H1 p.1 = none ∧ p.1 ≠ X.env.locals ∧ p.1 ∉ X.fs ∧ ∀ v, p.2.data ≠ .cell v := fun {h} st p hp => by
      obtain ⟨q1, q2, q3⟩ := hc2 p hp
      obtain ⟨q4, q5⟩ := two (offFr fl3.2.2.1 q1)
      exact ⟨st _ _ q1, q2, q4, q5, q3⟩
    have S3 := su_in (ch := ch) J3 he3 hd3 na nL nF (chp fl3.1)
    have LT : PySem.W.Looks (model X.prog X.w) h3 (typeOf (.ref a)) cls := fun A Q E s k q => wpAny_typeOf_ref (k _ _ he3) (by rw [hz3.1]; exact q)
    have test : ∀ {x : Str} {c : Value} {np : Pos} {Q : Value → Shared → Prop} {E : Value → Shared → Prop}, Names X x c → Q c { s' with heap := h3 } → wpAny (model X.prog X.w) (X.A.mark (some (.ref a))) (eval (.Name x np) X.env) Q E { s' with heap := h3 } := fun {x c np Q E} hc q => by
      obtain ⟨hg, hdbg, hm | ⟨hm, hv, hnn⟩⟩ := hc
      · exact ld_glob (X := suY X a _) S3 hg hm q hdbg
      · exact ld_blt (X := suY X a _) S3 hg hm hv q hnn hdbg
    have hot : ∀ {h : Heap} {oe : Obj} {fv : Array Value} {xe : Value → Shared → Prop}, Zy cls d ch oe → oe.data = .fields fv → Hot { suY X a (SuPins X pins a oe ch) with xe := xe } := fun {h oe fv xe} hz hd =>
      ⟨(a, oe), ch, rfl, ⟨⟨fv, hd, hz.2.2 fv hd⟩, hc1⟩, fun q hq => List.mem_append_left _ hq⟩
    have go : ∀ {hds2 : List ExceptHandler} {l2 : List Cl}, HdY X Wout hds2 l2 → wCl X.K Wout D l2 cls d σ1 H1 → wpAny (model X.prog X.w) X.A (handleBy (.ref a) X.env hds2) (SP X pins D) X.xe { s' with heap := h3 } := by
      intro hds2 l2 hk
      induction hk with
      | nil =>
        intro w
        refine wpAny_handleBy_nil ?_
        obtain ⟨_, _, _, oe, fv, T, oT, ts2, he, hz, hd, h1, hr⟩ := id fl3
        unfold PySem.passOn
        refine wpAny_bind (wpAny_field he hd h1 ?_)
        rw [if_neg (show ¬ ((Value.ref T == Value.none) = true) from by simp)]
        have fin : wpAny (model X.prog X.w) X.A (setFlight (.ref a) X.env.frame) (fun _ s4 => wpAny (model X.prog X.w) X.A (throw (.ref a) : Sem Flow) (SP X pins D) X.xe s4) X.xe { s' with heap := h3 } := by
          rw [hf]
          refine HandSPX.setFlight_upZ fl3 fun h4 hh4 up4 => wpAny_throw (tk _ _ ?_)
          exact ⟨a, B, s0, pins, σ1, H1, cls, d, ch, rfl, J, nb, (up.trans up3).trans up4, .inr (.inr (by rw [hs, fr_of hf]; exact hh4)), na, os, ag, ⟨hc1, hc2⟩, w⟩
        first
          | exact wpAny_bind (wpAny_pure (wpAny_bind fin))
          | exact wpAny_bind fin
      | @bare x c ts b₀ suite np p2 hds3 l3 hc hsu r ih =>
        intro w
        obtain ⟨b, hb1, hyes, hno⟩ := w
        refine wpAny_handleBy_cons (codeAny_handlers_test ?_) (by intro q; cases q)
        refine test hc ((PySem.W.exm_one (M := model X.prog X.w) J3.kIn LT hb1).here ?_)
        cases b with
        | true =>
          refine codeAny_handlers_suite ?_
          refine HandSPX.lands_againZ fl3 fun h4 fl4 up4 => ?_
          have J4 : Inv X pins σ1 H1 { s' with heap := h4 } := J.landed nb fl4.1 ((up.trans up3).trans up4) os ag
          obtain ⟨oe4, fv4, he4, hz4, hd4⟩ := fl4.there
          have S4 := su_in (ch := ch) J4 he4 hd4 na nL nF (chp fl4.1)
          have tkS : Takes (suY X a (SuPins X pins a oe4 ch)) Wout := fun u2 s2 x2 => by
            obtain ⟨a2, B2, sI2, pn2, σ2, H2, cls2, d2, ch2, e2, I2, nb2, up2, sky2, na2, os2, ag2, hc2, w2⟩ := x2
            exact tk u2 s2 ⟨a2, B2, sI2, pins, σ2, H2, cls2, d2, ch2, e2, su_out I2 ok, nb2, up2, sky2, na2, os2, ag2, hc2, w2⟩
          refine wpAny_mono ((hsu a oe4 cls d ch _ hz4 ⟨_, hd4⟩ List.mem_cons_self tkS (hot (h := h4) hz4 hd4)).run [] _ _ H1 _ S4 (hyes rfl a na)) (fun f s6 hsp => ?_) (fun e6 s6 z => hpa (some (.ref a)) e6 s6 z)
          cases f with
          | ret u =>
            obtain ⟨v6, σ6, H6, S6, r6, q6⟩ := hsp
            exact ⟨_, _, _, su_out S6 ok, r6, q6⟩
          | _ =>
            obtain ⟨σ6, H6, S6, q6⟩ := hsp
            exact ⟨_, _, su_out S6 ok, q6⟩
        | false =>
          show wpAny _ X.A (handleBy (.ref a) X.env hds3) _ _ _
          exact ih (hno rfl)
      | @named x n c i ts b₀ suite np p2 hds3 l3 hc hN hi hln hsu r ih =>
        intro w
        obtain ⟨b, hb1, hyes, hno⟩ := w
        refine wpAny_handleBy_cons (codeAny_handlers_test ?_) (by intro q; cases q)
        refine test hc ((PySem.W.exm_one (M := model X.prog X.w) J3.kIn LT hb1).here ?_)
        cases b with
        | true =>
          refine codeAny_handlers_suite_as ?_
          refine HandSPX.lands_againZ fl3 fun h4 fl4 up4 => ?_
          have J4 : Inv X pins σ1 H1 { s' with heap := h4 } := J.landed nb fl4.1 ((up.trans up3).trans up4) os ag
          obtain ⟨oe4, fv4, he4, hz4, hd4⟩ := fl4.there
          have S4 := su_in (ch := ch) J4 he4 hd4 na nL nF (chp fl4.1)
          refine store_ok (X := suY X a (SuPins X pins a oe4 ch)) (v := .ref a) S4 hN hi (.inl hln) rfl (fun s5 S5 => ?_) (.inr hln)
          refine wpAny_mono ((hsu a oe4 cls d ch _ hz4 ⟨_, hd4⟩ List.mem_cons_self (hot (h := h4) hz4 hd4)).run [] s5 _ H1 _ (S5.wish _) (hyes rfl a na)) (fun f s6 hsp0 => ?_) (fun _ _ z => False.elim z)
          have hsp := hsp0.unwish
          have back : ∀ {σ6 : L2.St} {H6 : Hp} {Q : Shared → Prop}, Inv (suY X a (SuPins X pins a oe4 ch)) [] σ6 H6 s6 → (∀ s7, Inv X pins (σ6.set i none) H6 s7 → Q s7) →
              wpAny (model X.prog X.w) X.A (do bindName X.env n .none; unbindBehindTheSuite X.env n p2) (fun _ s7 => Q s7) X.xe s6 := fun {σ6 H6 Q} S6 hq => gone_ok (su_out S6 ok) hN hi hln hq
          cases f with
          | ret u =>
            obtain ⟨v6, σ6, H6, S6, r6, q6⟩ := hsp
            exact back S6 fun s7 J7 => ⟨_, _, _, J7, r6, q6⟩
          | _ =>
            obtain ⟨σ6, H6, S6, q6⟩ := hsp
            exact back S6 fun s7 J7 => ⟨_, _, J7, q6⟩
        | false =>
          show wpAny _ X.A (handleBy (.ref a) X.env hds3) _ _ _
          exact ih (hno rfl)
    exact go hh w
  · cases f with
    | next =>
      obtain ⟨σ1, H1, J1, q⟩ := hsp
      exact ho.run pins s1 σ1 H1 D (J1.ofTry ok) q
    | ret u =>
      obtain ⟨v, σ1, H1, J1, r, q⟩ := hsp
      exact ⟨v, σ1, H1, J1.ofTry ok, r, q⟩
    | _ =>
      obtain ⟨σ1, H1, J1, q⟩ := hsp
      exact ⟨σ1, H1, J1.ofTry ok, q⟩
end
end Y
/-! Y2: calls whose exceptions are wished for at the caller's slots; an exception with one field; comprehensions that let exceptions out. -/
namespace Y
open PySem PySem.Spec PyProof.Rows L2
abbrev FnY (P : Program) (w : World) (K : PySem.W.Frag) (mg : Str → Option Value) (base : Heap) (k : Nat) (f : Addr) (fd : FuncData) (ps : List Str) (sp : Sp) : Prop := FnOk P w K mg base (Y.CX P w) k f fd ps sp
def tCallY (sp : Sp) (dvs : List V) (W : WX) (t : TA) : TE := fun σ H Q => t σ H fun vs H1 => sp (vs ++ dvs) H1 Q (WE W σ)
def tMethY (C : Addr) (m : Str) (sp : Sp) (dvs : List V) (W : WX) (ta : TE) (t : TA) : TE := fun σ H Q => ta σ H fun x H1 => ∃ a dx fs, x = .ref a ∧ H1 a = some (.ins C dx fs) ∧ fs.lookup m = none ∧ t σ H1 fun vs H2 => sp (x :: (vs ++ dvs)) H2 Q (WE W σ)
def tMakeY (C : Addr) (sp : Sp) (dvs : List V) (W : WX) (t : TA) : TE := fun σ H Q => t σ H fun vs H1 => ∀ x dx, H1 x = none → H1 dx = none → dx ≠ x →
  sp (.ref x :: (vs ++ dvs)) (upd (upd H1 dx (.own x)) x (.ins C dx [])) (fun v H2 => v = .non ∧ Q (.ref x) H2) (WE W σ)
section
variable {X : Cx} {k : Nat} {f C : Addr} {fd : FuncData} {ps : List Str} {sp : Sp} {dvs : List V} {ds : List Value} {W : WX} {x m : Str} {p pos apos : Pos} {e o : Expr} {es : List Expr} {ta : TE} {t : TA}
theorem run_fnY {pins : List (Addr × Obj)} {σ : L2.St} {H : Hp} {s : Shared} {Q : VK} {us : List Value} {vs : List V} (F : FnY X.prog X.w X.K X.mg X.base k f fd ps sp) (hr : Room k X.A) (hb : Binds X.K fd ps ds) (hd : Vals dvs ds) (tk : Takes X W)
    (I : Inv X pins σ H s) (r : Vals vs us) (h : sp (vs ++ dvs) H Q (WE W σ)) : wpAny (model X.prog X.w) X.A (call (.ref f) us) (EP X pins σ Q) X.xe s := by
  have rr : Vals (vs ++ dvs) (us ++ ds) := r.append hd
  have lenq : (us ++ ds).length = ps.length := rr.length.symm.trans (F.len _ _ _ _ h)
  refine wpAny_call (codeAny_mono (F.run X.A X.stack s H ⟨us, []⟩ (us ++ ds) (vs ++ dvs) Q _ hr I.env0 (hb s us I.kIn lenq) rr h) fun r2 s2 hq => ?_)
  cases r2 with
  | error z => exact pass_at tk σ pins H s z s2 I hq
  | ok fl =>
    cases fl with
    | ret u => exact I.after hq
    | next => exact False.elim hq
    | brk => exact False.elim hq
    | cont => exact False.elim hq
theorem pe_callY (F : FnY X.prog X.w X.K X.mg X.base k f fd ps sp) (hr : Room k X.A) (hg : Gl X x) (hm : X.mg x = some (.ref f)) (hk : PySem.W.keepIn X.K (.ref f) = true) (hb : Binds X.K fd ps ds) (hd : Vals dvs ds) (tk : Takes X W)
    (ha : PA X (e :: es) t) (hdb : (x == ("__debug__" : Str)) = false := by decide) (he : starEach (e :: es) X.env = (false, eval e X.env) :: starEach es X.env := by rfl) (hpl : (backTo pos (starEach es X.env)).any (·.1) = false := by rfl) :
    PE X (.Call (.Name x p) (e :: es) [] pos) (tCallY sp dvs W t) :=
  ⟨fun pins s σ H Q I h => wpAny_Call_Name_kw (ld_glob I hg hm (PySem.W.callWith_K (h₀ := X.base) I.ok.mod.kin hk (thn (ha.run pos pins s σ H _ I h) fun us s1 ⟨vs, H1, I1, r, q⟩ => ⟨I1.kIn, run_fnY F hr hb hd tk I1 r q⟩) he hpl) hdb)⟩
theorem pe_callY0 (F : FnY X.prog X.w X.K X.mg X.base k f fd ps sp) (hr : Room k X.A) (hg : Gl X x) (hm : X.mg x = some (.ref f)) (hk : PySem.W.keepIn X.K (.ref f) = true) (hb : Binds X.K fd ps ds) (hd : Vals dvs ds) (tk : Takes X W)
    (hdb : (x == ("__debug__" : Str)) = false := by decide) : PE X (.Call (.Name x p) [] [] pos) (tCallY sp dvs W tNil) :=
  ⟨fun pins s σ H Q I h => wpAny_Call_Name_kw (ld_glob I hg hm (PySem.W.callWith_K0 I.kIn hk (run_fnY (us := []) F hr hb hd tk I .nil h)) hdb)⟩
theorem pe_methY {pl : Sem Bool} (he : PE X o ta) (c : Cls X.K C) (hm : Meth X.K C m f) (F : FnY X.prog X.w X.K X.mg X.base k f fd ps sp) (hr : Room k X.A) (hb : Binds X.K fd ps ds) (hd : Vals dvs ds) (tk : Takes X W) (ha : PA X (e :: es) t)
    (hst : starEach (e :: es) X.env = (false, eval e X.env) :: starEach es X.env := by rfl) (hpl : (backTo pos (starEach es X.env)).any (·.1) = false := by rfl)
    (ht : eval (.Call (.Attribute o m apos) (e :: es) [] pos) X.env = (do
      let ov ← eval o X.env
      standAt apos.atName
      let (f, first) ← holding [ov] (getMethod ov m pl)
      callWith pos f first (backTo pos (starEach (e :: es) X.env)) (backToKw pos (keywordEach [] X.env))) := by rfl) :
    PE X (.Call (.Attribute o m apos) (e :: es) [] pos) (tMethY C m sp dvs W ta t) := by
  refine ⟨fun pins s σ H Q I h => PySem.W.methodCall_KW (pl := pl) (thn (he.run pins s σ H _ I h) fun u s1 ⟨y, H1, I1, ry, a, dx, fs, ey, ea, l, q⟩ => ?_) ht⟩
  subst ey
  obtain rfl : u = Value.ref a := ry
  refine getmeth_ok I1 ea c hm l (PySem.W.callWith_K (first := [.ref a]) (h₀ := X.base) I.ok.mod.kin hm.kp (thn (ha.run pos pins s1 σ H1 _ I1 q) fun us s2 ⟨vs, H2, I2, r, q2⟩ => ⟨I2.kIn, ?_⟩) hst hpl)
  exact run_fnY (us := .ref a :: us) (vs := .ref a :: vs) F hr hb hd tk I2 (.cons rfl r) q2
theorem pe_methY0 {pl : Sem Bool} (he : PE X o ta) (c : Cls X.K C) (hm : Meth X.K C m f) (F : FnY X.prog X.w X.K X.mg X.base k f fd ps sp) (hr : Room k X.A) (hb : Binds X.K fd ps ds) (hd : Vals dvs ds) (tk : Takes X W)
    (ht : eval (.Call (.Attribute o m apos) [] [] pos) X.env = (do
      let ov ← eval o X.env
      standAt apos.atName
      let (f, first) ← holding [ov] (getMethod ov m pl)
      callWith pos f first (backTo pos (starEach [] X.env)) (backToKw pos (keywordEach [] X.env))) := by rfl) :
    PE X (.Call (.Attribute o m apos) [] [] pos) (tMethY C m sp dvs W ta tNil) := by
  refine ⟨fun pins s σ H Q I h => PySem.W.methodCall_KW (pl := pl) (thn (he.run pins s σ H _ I h) fun u s1 ⟨y, H1, I1, ry, a, dx, fs, ey, ea, l, q⟩ => ?_) ht⟩
  subst ey
  obtain rfl : u = Value.ref a := ry
  exact getmeth_ok I1 ea c hm l (PySem.W.callWith_K0 (first := [.ref a]) I1.kIn hm.kp (run_fnY (us := [.ref a]) (vs := [.ref a]) F hr hb hd tk I1 (.cons rfl .nil) q))
theorem run_makeY {pins : List (Addr × Obj)} {σ : L2.St} {H : Hp} {s : Shared} {Q : VK} {us : List Value} {vs : List V} (M : Mk X.K C f) (F : FnY X.prog X.w X.K X.mg X.base k f fd ps sp) (hr : Room (k + 1) X.A) (hb : Binds X.K fd ps ds) (hd : Vals dvs ds)
    (tk : Takes X W) (I : Inv X pins σ H s) (r : Vals vs us)
    (h : ∀ x dx, H x = none → H dx = none → dx ≠ x → sp (.ref x :: (vs ++ dvs)) (upd (upd H dx (.own x)) x (.ins C dx [])) (fun v H2 => v = .non ∧ Q (.ref x) H2) (WE W σ)) :
    wpAny (model X.prog X.w) X.A (call (.ref C) us) (EP X pins σ Q) X.xe s := by
  have hq := h (s.heap.objs.size + 1) s.heap.objs.size (I.hok.fresh (Nat.le_succ _)) (I.hok.fresh (Nat.le_refl _)) (Nat.ne_of_lt (Nat.lt_succ_self _))
  have J := Inv.made (C := C) I
  have rr : Vals (V.ref (s.heap.objs.size + 1) :: (vs ++ dvs)) (Value.ref (s.heap.objs.size + 1) :: (us ++ ds)) := .cons rfl (r.append hd)
  have lenq : (Value.ref (s.heap.objs.size + 1) :: us ++ ds).length = ps.length := rr.length.symm.trans (F.len _ _ _ _ hq)
  refine wpAny_call (make_map (f := f) I.kIn M.makes M.init (beq_iff_eq.mp M.fn) (codeAny_mono (F.run _ X.stack _ _ ⟨Value.ref (s.heap.objs.size + 1) :: us, []⟩ (Value.ref (s.heap.objs.size + 1) :: (us ++ ds)) _ _ _ (hr.make C us [])
    (J.env0.make C us []) (hb _ (Value.ref (s.heap.objs.size + 1) :: us) J.kIn lenq) rr hq) fun r2 s2 hq2 => ?_))
  cases r2 with
  | error z => exact pass_at tk σ pins _ _ z s2 J hq2
  | ok fl =>
    cases fl with
    | ret u =>
      obtain ⟨v, H2, J2, rv, ev, q3⟩ := J.after hq2
      subst ev
      exact ⟨rv, ⟨V.ref (s.heap.objs.size + 1), H2, J2, rfl, q3⟩⟩
    | next => exact False.elim hq2
    | brk => exact False.elim hq2
    | cont => exact False.elim hq2
theorem pe_makeY (M : Mk X.K C f) (F : FnY X.prog X.w X.K X.mg X.base k f fd ps sp) (hr : Room (k + 1) X.A) (hg : Gl X x) (hm : X.mg x = some (.ref C)) (hb : Binds X.K fd ps ds) (hd : Vals dvs ds) (tk : Takes X W)
    (ha : PA X (e :: es) t) (hdb : (x == ("__debug__" : Str)) = false := by decide) (he : starEach (e :: es) X.env = (false, eval e X.env) :: starEach es X.env := by rfl) (hpl : (backTo pos (starEach es X.env)).any (·.1) = false := by rfl) :
    PE X (.Call (.Name x p) (e :: es) [] pos) (tMakeY C sp dvs W t) :=
  ⟨fun pins s σ H Q I h => wpAny_Call_Name_kw (ld_glob I hg hm (PySem.W.callWith_K (h₀ := X.base) I.ok.mod.kin M.kp (thn (ha.run pos pins s σ H _ I h) fun us s1 ⟨vs, H1, I1, r, q⟩ => ⟨I1.kIn, run_makeY M F hr hb hd tk I1 r q⟩) he hpl) hdb)⟩
theorem pe_makeY0 (M : Mk X.K C f) (F : FnY X.prog X.w X.K X.mg X.base k f fd ps sp) (hr : Room (k + 1) X.A) (hg : Gl X x) (hm : X.mg x = some (.ref C)) (hb : Binds X.K fd ps ds) (hd : Vals dvs ds) (tk : Takes X W)
    (hdb : (x == ("__debug__" : Str)) = false := by decide) : PE X (.Call (.Name x p) [] [] pos) (tMakeY C sp dvs W tNil) :=
  ⟨fun pins s σ H Q I h => wpAny_Call_Name_kw (ld_glob I hg hm (PySem.W.callWith_K0 I.kIn M.kp (run_makeY (us := []) M F hr hb hd tk I .nil h)) hdb)⟩
end
/-! ### a def keeps its promise -/
section
variable {P : Program} {w : World} {K : PySem.W.Frag} {mg : Str → Option Value} {base : Heap} {x qual : Str} {params : Arguments} {body : List Stmt} {scope : Scope} {dvs : List V} {kws : List (Str × V)} {f : Addr} {fd : FuncData}
/-- what a body may take for granted of its context -/
structure Body (X : Cx) (k : Nat) (E : XK) : Prop where
  room : Room k X.A
  tk : Takes X (fun cls d _ H => E cls d H)
  pass : PassesOwn (model X.prog X.w) X.A X.env X.xe
  passAt : ∀ hd : Option Value, PassesOwnAt (model X.prog X.w) (X.A.mark hd) X.A X.env X.xe
  stk : X.stack = X.env :: X.outer
  frm : X.env.frame = some X.env.locals
theorem okY {N ps : List Str} {k : Nat} {sp : Sp} (F : FunD K x qual params body scope dvs kws f fd) (S : FnScope N ps scope) (len : ∀ vs H Q E, sp vs H Q E → vs.length = ps.length)
    (hbody : ∀ (cdv : Value) (A : Around) (outer : List Env) (s : Shared) (H : Hp) (vs : List V) (Q : VK) (E : XK), Body (cxOf (Y.CX P w) P w K mg base N qual scope f cdv A outer s H E) k E → sp vs H Q E →
      ∃ t, PSs (cxOf (Y.CX P w) P w K mg base N qual scope f cdv A outer s H E) body t ∧ t { nx := fun _ H2 => Q .non H2, rt := Q } (start N vs) H) : FnY P w K mg base (k + 1) f fd ps sp :=
  F.ok S len fun cdv A outer s H vs Q E hr h => hbody cdv A outer s H vs Q E ⟨hr, takes_of rfl rfl rfl rfl, passes_of rfl, fun hd => L2H.passesAt_of rfl hd, rfl, rfl⟩ h
end
end Y
/-! Y3: a list comprehension whose parts may let exceptions out. -/
namespace Y
open PySem PySem.Spec PyProof.Rows L2
/-- what the machine's comprehension leaves -/
def postY (M : Model) (A : Around) (E : Value → Shared → Prop) (env : Env) (use : Option (Value → Sem Unit)) (Q : Value → Shared → Prop) (acc : Value) (C : Addr) (r : Result) (t : Shared) : Prop :=
  match r, use with
  | .ok _, none => ∃ m, t.heap.Ns C m ∧ ∀ g, Heap.SameBut C t.heap g → Q acc { t with heap := g }
  | .ok _, some u => wpAny M A (u acc) (fun _ t2 => ∃ m, t2.heap.Ns C m ∧ ∀ g, Heap.SameBut C t2.heap g → Q .none { t2 with heap := g }) E t
  | .error x, _ => ∃ m, t.heap.Ns C m ∧ ∀ g, Heap.SameBut C t.heap g → ∀ cenv : Env, cenv.frame = env.frame → wpAny M A (passOn "comprehension.variables-let-go" x cenv : Sem Value) (fun _ _ => False) E { t with heap := g }
theorem comp_freeY {M : Model} {A : Around} {E : Value → Shared → Prop} {s : Shared} {env : Env} {e : Expr} {scope : Scope} {pos : Pos} {newAcc first : Sem Value} {g : Comprehension} {gs : List Comprehension} {cl : List (Str × Addr)} {use : Option (Value → Sem Unit)} {Q : Value → Shared → Prop}
    (hcl : clausesOf e = g :: gs) (hs : ∀ x, foldedSetIterable g.iter env x = pure x) (hclos : closureFor scope env = pure cl) (hkind : scope.kind = .function) (hnames : ∀ x ∈ scope.names, x.2 = .local → scope.names.lookup x.1 = some .local)
    (h : wpAny M A first (fun x t1 => wpAny M A (pyIter x) (fun it t2 => wpAny M A newAcc (fun acc t3 => wpAny M A (newFunctionEnv scope env.globals cl [] env.qual none .none (some env)) (fun cenv t4 =>
      cenv.frame = env.frame ∧ codeAny M A (.compStart e 0 it acc { cenv with scope := relabel scope env }) (postY M A E env use Q acc cenv.locals) t4) E t3) E t2) E t1) E s) :
    wpAny M A (comprehension e scope env pos newAcc false first use) Q E s := by
  unfold comprehension
  rw [hclos, hcl]
  refine wpAny_bind (wpAny_mono h (fun x t1 h1 => wpAny_bind (wpAny_standAt (wpAny_bind (wpAny_of_eq (hs x) (wpAny_bind (wpAny_holding (wpAny_mono h1 (fun it t2 h2 =>
    wpAny_standIf (wpAny_bind (wpAny_mono h2 (fun acc t3 h3 => wpAny_bind (wpAny_pure (wpAny_bind (wpAny_mono h3 (fun cenv t4 h4 => ?_) fun _ _ z => z)))) fun _ _ z => z))) fun _ _ z => z))))))) fun _ _ z => z)
  dsimp only
  obtain ⟨hfr, h5⟩ := h4
  have vars : ∀ x ∈ (scope.names.filter fun x => (x.2 == .local || x.2 == .cell) && x.1 != (".0" : Str)).reverse, x.2 = .local → Env.kindOf { cenv with scope := relabel scope env } x.1 = some .local := fun x hx hl =>
    lookup_relabel_local (hnames x (List.mem_filter.mp (List.mem_reverse.mp hx)).1 hl)
  have vars2 : ∀ x ∈ (scope.names.filter fun x => (x.2 == .local || x.2 == .cell) && x.1 != (".0" : Str)).reverse.drop 1 ++ (scope.names.filter fun x => (x.2 == .local || x.2 == .cell) && x.1 != (".0" : Str)).reverse.take 1,
      x.2 = .local → Env.kindOf { cenv with scope := relabel scope env } x.1 = some .local := fun x hx hl => (List.mem_append.mp hx).elim (fun z => vars x (List.mem_of_mem_drop z) hl) fun z => vars x (List.mem_of_mem_take z) hl
  refine wpAny_holding (wpAny_bind (wpAny_attempt (wpAny_holding (wpAny_run (codeAny_mono h5 fun r t hr => ?_)))))
  cases r with
  | ok f =>
    cases use with
    | none =>
      obtain ⟨m, hn, hr⟩ := hr
      exact wpAny_bind (wpAny_holding (wpAny_comp_letGo (cenv := { cenv with scope := relabel scope env }) hkind _ t m vars hn fun g1 _ _ hg1 => wpAny_pure (hr g1 hg1)))
    | some u =>
      refine wpAny_bind (wpAny_rule (wpAny_bind (wpAny_holding (wpAny_mono hr (fun _ t2 hr2 => ?_) fun _ _ z => z))))
      obtain ⟨m, hn, hr2⟩ := hr2
      exact wpAny_bind (wpAny_comp_letGo (cenv := { cenv with scope := relabel scope env }) hkind _ t2 m vars2 hn fun g1 _ _ hg1 => wpAny_pure (hr2 g1 hg1))
  | error x =>
    have hr2 : ∃ m, t.heap.Ns cenv.locals m ∧ ∀ g, Heap.SameBut cenv.locals t.heap g → ∀ ce : Env, ce.frame = env.frame → wpAny M A (passOn "comprehension.variables-let-go" x ce : Sem Value) (fun _ _ => False) E { t with heap := g } := by
      cases use <;> exact hr
    obtain ⟨m, hn, hr3⟩ := hr2
    exact wpAny_bind (wpAny_holding (wpAny_comp_letGo (cenv := { cenv with scope := relabel scope env }) hkind _ t m vars hn fun g1 _ _ hg1 => wpAny_mono (hr3 g1 hg1 _ hfr) (fun _ _ f => f.elim) fun _ _ y => y))
/-- the context of a block, what flies in it kept -/
abbrev blkY (X : Cx) (E : XK) (s : Shared) (H : Hp) (scope : Scope) (cenv : Env) (fp : List Addr) : Cx :=
  { X.blk s H scope cenv fp with xe := fun e t => XE (X.blk s H scope cenv fp) (fun cls d _ H1 => E cls d H1) e t }
theorem blk_takes {X : Cx} {E : XK} {s : Shared} {H : Hp} {scope : Scope} {cenv : Env} {fp : List Addr} : Takes (blkY X E s H scope cenv fp) (fun cls d _ H1 => E cls d H1) := fun u t x => by
  obtain ⟨a, B, s0, pins, σ, H1, cls, d, ch, e, I, r⟩ := x
  exact ⟨a, B, s0, pins, σ, H1, cls, d, ch, e, I.unwish, r⟩
/-- the block's dict cut away -/
theorem held_cut {B h h2 : Heap} {l : List Env} {e L C : Addr} {Z : Obj → Prop} {m : Str → Option Value} (x : HandSPX.HeldZ B l e Z L h) (hn : h.Ns C m) (sb : Heap.SameBut C h h2) (nf : C ∉ frs l) : HandSPX.HeldZ (PySem.W.hideAll B [C]) l e Z L h2 := by
  obtain ⟨k1, k2, k3, oe, fv, T, oT, ts, he, hz, hd, h1, hnT, hTe, hT, hdT, h3⟩ := x
  obtain ⟨oC, es, ep, hoC, hdC, _⟩ := hn
  have neC : ∀ {b : Addr} {o : Obj} {g : Array Value}, h.get? b = some o → o.data = .fields g → b ≠ C := fun {b o g} q1 q2 z => by
    rw [z, hoC] at q1
    cases q1
    rw [hdC] at q2
    cases q2
  have gone : ∀ {b : Addr}, B.get? b = none → (PySem.W.hideAll B [C]).get? b = none := fun {b} q => by
    cases y : (PySem.W.hideAll B [C]).get? b with
    | none => rfl
    | some o =>
      rw [PySem.W.of_hideAll _ y] at q
      cases q
  refine ⟨fun b o q => ?_, gone k2, ?_, oe, fv, T, oT, ts, (sb.2 e (neC he hd)).trans he, hz, hd, h1, gone hnT, hTe, (sb.2 T (neC hT hdT)).trans hT, hdT, h3⟩
  · have nb : b ≠ C := fun z => by
      rw [z, PySem.W.hideAll_none [C] List.mem_cons_self] at q
      cases q
    exact (sb.2 b nb).trans (k1 b o (PySem.W.of_hideAll _ q))
  · have all : ∀ l2 : List Env, (∀ b ∈ frs l2, b ≠ C) → h.FunFrames B l2 → h2.FunFrames (PySem.W.hideAll B [C]) l2 := by
      intro l2
      induction l2 with
      | nil => intro _ _; trivial
      | cons env r ih =>
        intro hne hl
        obtain ⟨hk, ⟨L2, o, hf, hn2, ho, hd2⟩, hr⟩ := hl
        have hL : L2 ∈ frs (env :: r) := by unfold frs; rw [List.filterMap_cons, hf]; exact List.mem_cons_self
        refine ⟨hk, ⟨L2, o, hf, gone hn2, (sb.2 L2 (hne L2 hL)).trans ho, hd2⟩, ih (fun b hb => hne b ?_) hr⟩
        unfold frs
        rw [List.filterMap_cons, hf]
        exact List.mem_cons_of_mem _ hb
    exact all l (fun b hb z => nf (z ▸ hb)) k3
/-- noted in the def's frame, by the block's own environment -/
theorem note_held {M : Model} {A : Around} {E : Value → Shared → Prop} {s : Shared} {Z : Obj → Prop} {B : Heap} {env cenv : Env} {outer : List Env} {L a : Addr} {Q : Unit → Shared → Prop} (hZ : PXN.Steady1 Z) (hfr : A.frames = some (env :: outer)) (hf : env.frame = some L)
    (hc : cenv.frame = env.frame) (x : Sky B (env :: outer) a Z L s.heap) (hQ : ∀ h1, HandSPX.HeldZ B (env :: outer) a Z L h1 → s.heap.UpToSlots h1 → Q () { s with heap := h1 }) : wpAny M A (noteFrame (.ref a) cenv) Q E s := by
  have e : noteFrame (.ref a) cenv = noteFrame (.ref a) env := by
    unfold noteFrame PySem.frameOf
    rw [hc]
  rw [e]
  rcases x with ⟨hB, hn, hl, oe, fv, he, hz, hd, h1⟩ | fl | hh
  · exact PXN.look_newZ hZ hfr hl hf he hB hn hd h1 hz hQ
  · exact PXN.looks_onZ hZ hfr hf fl hQ
  · exact HandSPX.againZ hf hh.2.2.2 (hQ s.heap hh (Heap.UpToSlots.refl _))
def tLcY (W : WX) (wi : TI) (g : TG) (tt : XK → TT) (te : XK → TE) (vs : List Nat) : TE := fun σ H Q => tLc wi g (tt (WE W σ)) (te (WE W σ)) vs σ H Q
section
variable {X : Cx}
theorem lc_coreY {pins : List (Addr × Obj)} {s : Shared} {σ : L2.St} {H : Hp} {Q : VK} {elt tg iter : Expr} {ifs : List Expr} {scope : Scope} {own : List (Str × Nat)} {pos p2 : Pos} {wi : TI} {g : TG} {tt : XK → TT} {te : XK → TE} {use : Option (Value → Sem Unit)} {Qf : Value → Shared → Prop} {W : WX}
    (hstk : X.stack = X.env :: X.outer) (hfrm : X.env.frame = some X.env.locals) (tk : Takes X W) (hc : X.calm = true) (hN : X.N.Nodup) (I : Inv X pins σ H s) (hi : PI X tg iter wi) (ok : BlkOk X.N X.env.scope scope own)
    (hg : ∀ (E : XK) (s : Shared) (H : Hp) (C : Addr) (cl : List (Str × Addr)) (fp : List Addr), PG (blkY X E s H scope (compEnvC scope cl C X.env) fp) tg g) (ht : ∀ (E : XK) (s : Shared) (H : Hp) (C : Addr) (cl : List (Str × Addr)) (fp : List Addr), PTs (blkY X E s H scope (compEnvC scope cl C X.env) fp) ifs (tt E))
    (he : ∀ (E : XK) (s : Shared) (H : Hp) (C : Addr) (cl : List (Str × Addr)) (fp : List Addr), PE (blkY X E s H scope (compEnvC scope cl C X.env) fp) elt (te E)) (hs : ∀ x, foldedSetIterable iter X.env x = pure x)
    (h : tLcY W wi g tt te (own.map (·.2)) σ H Q)
    (hRR : ∀ D C t m H1, Inv X pins σ H1 t → Q (.ref D) H1 → t.heap.Ns C m → FpOk X pins H1 C → postY (model X.prog X.w) X.A X.xe X.env use Qf (.ref D) C (.ok .next) t) :
    wpAny (model X.prog X.w) X.A (comprehension (.ListComp elt [⟨tg, iter, ifs, 0⟩] scope pos) scope X.env p2 (newList []) false (eval iter X.env) use) Qf X.xe s := by
  have hfree : ∀ y ∈ scope.names, y.2 = .free → ∃ c, X.env.cells.lookup y.1 = some c := fun y hy e => (ok.free y hy e).elim (fun k => I.ok.has _ (.inl k)) fun k => I.ok.has _ (.inr k)
  have h0 : tLc wi g (tt (WE W σ)) (te (WE W σ)) (own.map (·.2)) σ H Q := h
  refine comp_freeY (use := use) rfl hs (closure_ok hfree) ok.kind (fun y hy e => by rw [ok.uniq y hy, e]) (thn (hi.run pins s σ H _ I h0) fun xv s1 hx => thn hx fun itv s2 h2 => ?_)
  obtain ⟨it, fp, tn, J, H2, e, I2, T, st2, f2, q⟩ := h2
  subst e
  refine wpAny_newObj_type (newEnv_comp ?_) (by show 0 ≤ sizeLine; decide)
  refine ⟨rfl, ?_⟩
  generalize hD : s2.heap.objs.size = D
  obtain ⟨Wt, ⟨m0, w0⟩, turn⟩ := q D (I2.hok.fresh (Nat.le_of_eq hD))
  generalize hs3 : ({ s2 with heap := s2.heap.push { cls := .type "list", data := .seq ([] : List Value).toArray } } : Shared) = s3
  have I3 : Inv X pins σ (upd H2 D (.lst [])) s3 := by
    rw [← hs3]
    refine I2.laid (t' := s2.toks) (fun b o e => Heap.get?_push_of_some _ e) (Nat.le_of_eq hD) ⟨Nat.zero_le _, [], 0, .nil, ?_⟩
    rw [← hD]
    exact Heap.get?_push_size _ rfl
  have h3 : s3.heap = s2.heap.push { cls := .type "list", data := .seq ([] : List Value).toArray } := by rw [← hs3]
  have small : ∀ b ∈ fp, b < s2.heap.objs.size := fun b hb => let ⟨o, e, _⟩ := T.obj _ _ st2 b hb; Heap.lt_size e
  have f3 : ∀ b ∈ fp, FpOk X pins (upd H2 D (.lst [])) b ∧ b < s3.heap.objs.size := fun b hb => by
    have lt := small b hb
    refine ⟨⟨?_, (f2 b hb).2⟩, by rw [h3, Heap.size_push]; exact Nat.lt_succ_of_lt lt⟩
    rw [upd_ne (by rw [← hD]; exact Nat.ne_of_lt lt)]
    exact (f2 b hb).1
  have st3 : tn 0 s3.heap := T.keep _ _ _ st2 fun b _ o e => by rw [h3]; exact Heap.get?_push_of_some _ e
  have I4 := block_start I3 ok hN f3
  generalize hcl : cellsFrom (s3.heap.objs.size + 1) scope.names (cloFrom X.env.cells scope.names []) = cls0 at I4
  have pg := hg (WE W σ) s3 (upd H2 D (.lst [])) s3.heap.objs.size cls0 fp
  have pt := ht (WE W σ) s3 (upd H2 D (.lst [])) s3.heap.objs.size cls0 fp
  have pe := he (WE W σ) s3 (upd H2 D (.lst [])) s3.heap.objs.size cls0 fp
  show codeAny _ _ (.compStart (.ListComp elt [⟨tg, iter, ifs, 0⟩] scope pos) 0 (.ref it) (.ref D) (compEnvC scope cls0 s3.heap.objs.size X.env)) (postY (model X.prog X.w) X.A X.xe X.env use Qf (.ref D) s3.heap.objs.size) { s3 with heap := pushCells (s3.heap.push { cls := .type "dict", data := .dict #[] }) scope.names }
  have nfp : ∀ b ∈ fp, (upd H2 D (.lst [])) b = none := fun b hb => (f3 b hb).1.1
  generalize hce : compEnvC scope cls0 s3.heap.objs.size X.env = ce at I4 pg pt pe ⊢
  have cL : ce.locals = s3.heap.objs.size := by subst hce; rfl
  have cF : ce.frame = X.env.frame := by subst hce; rfl
  generalize hH3 : upd H2 D (.lst []) = H3 at I3 I4 pg pt pe w0 nfp f3
  generalize hs4 : ({ s3 with heap := pushCells (s3.heap.push { cls := .type "dict", data := .dict #[] }) scope.names } : Shared) = s4 at I4 ⊢
  have st4 : tn 0 s4.heap := T.keep _ _ _ st3 fun b _ o e => by rw [← hs4]; exact pushCells_keeps _ _ _ _ (Heap.get?_push_of_some _ e)
  have frm : X.A.frames = some (X.env :: X.outer) := I3.ok.frames.trans (congrArg some hstk)
  -- an exception of the block
  have out : ∀ (E1 : Value → Shared → Prop) (x : Value) (t : Shared), XE (X.blk s3 H3 scope ce fp) (fun cls d _ H1 => WE W σ cls d H1) x t →
      wpAny (model X.prog X.w) X.A (noteFrame x ce) (fun _ t2 => postY (model X.prog X.w) X.A X.xe X.env use Qf (.ref D) s3.heap.objs.size (.error x) t2) E1 t := by
    rintro E1 x t ⟨a, B, s0, pn, σ1, H1, cls, d, ch, rfl, Ib, nb, up, sky, na, os, ag, ⟨hc1, hc2⟩, w⟩
    have sky2 : Sky B (X.env :: X.outer) a (Zy cls d ch) X.env.locals t.heap := by
      have y : Sky B X.stack a (Zy cls d ch) (fr ce) t.heap := sky
      have z : fr ce = X.env.locals := by
        unfold fr
        rw [cF, hfrm]
        rfl
      rw [hstk, z] at y
      exact y
    refine note_held zy_steady frm hfrm cF sky2 fun h5 hh up5 => ?_
    have nC : H1 s3.heap.objs.size = none := by
      have z : H1 ce.locals = none := Ib.free
      rw [cL] at z
      exact z
    obtain ⟨m, hn0, _⟩ := Ib.loc
    have hn1 : s0.heap.Ns s3.heap.objs.size m := by
      have z : s0.heap.Ns ce.locals m := hn0
      rw [cL] at z
      exact z
    have hn5 : h5.Ns s3.heap.objs.size m := (up.trans up5).ns hn1
    have offF : s3.heap.objs.size ∉ frs X.stack := fun hm => by
      rcases List.mem_cons.mp (I3.stkSub _ hm) with z | z
      · exact absurd (z ▸ I3.lt) (Nat.lt_irrefl _)
      · exact I3.nofs (Nat.le_refl _) z
    refine ⟨m, hn5, fun h6 sb6 cenv2 hfr2 => ?_⟩
    have hh6 : HandSPX.HeldZ (PySem.W.hideAll B [s3.heap.objs.size]) (X.env :: X.outer) a (Zy cls d ch) X.env.locals h6 := held_cut hh hn5 sb6 (by rw [← hstk]; exact offF)
    -- the state without the exception and the block's dict
    have old : ∀ {b : Addr} {o : Obj}, s3.heap.get? b = some o → b ∉ [s3.heap.objs.size] := fun {b o} e hm => by
      have lt := Heap.lt_size e
      rw [List.mem_singleton] at hm
      rw [hm] at lt
      exact absurd lt (Nat.lt_irrefl _)
    have U := Ib.base
    have keepG : ∀ {b : Addr} {o : Obj}, b ∉ [s3.heap.objs.size] → s0.heap.get? b = some o → (PySem.W.hideAll s0.heap [s3.heap.objs.size]).get? b = some o := fun {b o} hb e => PySem.W.hideAll_get _ e hb
    have hokG : HOk X.prog X.w H1 (PySem.W.hideAll s0.heap [s3.heap.objs.size]) := fun b o q => (Ib.hok b o q).stay (fun c v hc r => keepG (fun hm => by
        rw [List.mem_singleton] at hm
        rcases hc with hc | hc
        · rw [← hc, hm, nC] at q
          cases q
        · rw [hm, nC] at hc
          cases hc) r) (fun _ r => r) fun _ _ r => r
    have I7 : Inv X pins σ H1 { s0 with heap := PySem.W.hideAll s0.heap [s3.heap.objs.size] } := by
      refine I3.call' (ch := fp) (s' := { s0 with heap := PySem.W.hideAll s0.heap [s3.heap.objs.size] }) Ib.os ⟨fun b o e n hb hx => keepG (old e) (U.keep b o e n hb hx), fun b o e n hb hx => ?_, U.free, fun b o e hx => ?_, U.tups, U.frzs, U.tbls⟩ hokG Ib.bare
        fun b hb => ⟨(f3 b hb).1.2.2.2.1, (f3 b hb).1.2.1, (f3 b hb).1.2.2.2.2.1, (f3 b hb).1.2.2.2.2.2⟩
      · obtain ⟨sl, z⟩ := U.slot b o e n hb hx
        exact ⟨sl, keepG (old e) z⟩
      · obtain ⟨o2, z⟩ := U.there b o e hx
        exact ⟨o2, keepG (old e) z⟩
    have isF : ∀ {c0 : Ch}, ChOk c0 → ∀ p0 ∈ c0, ∃ fv : Array Value, p0.2.data = .fields fv := by
      intro c0
      induction c0 with
      | nil => intro _ p0 hp0; cases hp0
      | cons r c1 ih =>
        intro hk p0 hp0
        obtain ⟨⟨fv, k1, _⟩, k2⟩ := hk
        rcases List.mem_cons.mp hp0 with y | y
        · rw [y]
          exact ⟨fv, k1⟩
        · exact ih k2 p0 y
    have offC : ∀ {b : Addr} {o : Obj}, (PySem.W.hideAll s0.heap [s3.heap.objs.size]).get? b = some o → b ≠ s3.heap.objs.size := fun {b o} e z => by
      rw [PySem.W.hideAll_none _ (by rw [z]; exact List.mem_cons_self)] at e
      cases e
    have chB : ∀ p ∈ ch, (PySem.W.hideAll B [s3.heap.objs.size]).get? p.1 = some p.2 ∧ H1 p.1 = none ∧ ∀ v, p.2.data ≠ .cell v := fun p hp => by
      obtain ⟨q1, q2, q3⟩ := hc2 p hp
      refine ⟨PySem.W.hideAll_get _ q1 fun hm => ?_, q2, q3⟩
      rw [List.mem_singleton] at hm
      obtain ⟨oC, es, ep, hoC, hdC, _⟩ := hn1
      have z := nb _ _ hoC offF
      rw [hm, z] at q1
      obtain ⟨fv, y⟩ := isF hc1 p hp
      rw [← Option.some.inj q1, hdC] at y
      cases y
    have fin : ∀ h7, HandSPX.HeldZ (PySem.W.hideAll B [s3.heap.objs.size]) (X.env :: X.outer) a (Zy cls d ch) X.env.locals h7 → h6.UpToSlots h7 → XE X W (.ref a) { t with heap := h7 } := fun h7 hh7 up7 => by
      refine ⟨a, PySem.W.hideAll B [s3.heap.objs.size], _, pins, σ, H1, cls, d, ch, rfl, I7, fun b o e hb => ?_, fun b o e hnf => ?_, .inr (.inr (by rw [hstk, fr_of hfrm]; exact hh7)), na, os, ag, ⟨hc1, chB⟩, w⟩
      · exact PySem.W.hideAll_get _ (nb b o (PySem.W.of_hideAll _ e) hb) fun hm => offC e (List.mem_singleton.mp hm)
      · obtain ⟨l1, z⟩ := (up.trans up5) b o (PySem.W.of_hideAll _ e) hnf
        obtain ⟨l2, z2⟩ := up7 b _ ((sb6.2 b (offC e)).trans z) hnf
        exact ⟨l2, z2⟩
    obtain ⟨_, _, _, oe, fv, Tr, oT, ts, hoe, hz, hd, h1, _, _, _, _, _⟩ := id hh6
    unfold PySem.passOn
    refine wpAny_bind (wpAny_field hoe hd h1 ?_)
    rw [if_neg (show ¬ ((Value.ref Tr == Value.none) = true) from by simp)]
    have go : wpAny (model X.prog X.w) X.A (setFlight (.ref a) cenv2.frame) (fun _ s4 => wpAny (model X.prog X.w) X.A (throw (.ref a) : Sem Value) (fun _ _ => False) X.xe s4) X.xe { t with heap := h6 } := by
      rw [hfr2, hfrm]
      exact HandSPX.setFlight_onZ hh6 fun h7 hh7 up7 => wpAny_throw (tk _ _ (fin h7 hh7 up7))
    first
      | exact wpAny_bind (wpAny_pure (wpAny_bind go))
      | exact wpAny_bind go
  have stat : ∀ {σ2 : L2.St} {H4 : Hp} {t : Shared}, Inv (blkY X (WE W σ) s3 H3 scope ce fp) [] σ2 H4 t → (∀ b ∈ fp, H4 b = none) → ∀ b ∈ fp, FpOk (blkY X (WE W σ) s3 H3 scope ce fp) [] H4 b := fun {σ2 H4 t} I' hn b hb =>
    ⟨hn b hb, (I'.ok.exf b hb).1, I'.ok.exfs b hb, .inl hb, fun x c e => (I'.ok.exf b hb).2 x c e, fun p hp => absurd (show p ∈ ([] : List (Addr × Obj)) ++ [] from hp) (by simp)⟩
  have loop : codeAny (model X.prog X.w) X.A (.compLoop (.ListComp elt [⟨tg, iter, ifs, 0⟩] scope pos) 0 (.ref it) (.ref D) ce) (postY (model X.prog X.w) X.A X.xe X.env use Qf (.ref D) s3.heap.objs.size) s4 := by
    refine compLoop_any (fun n t => ∃ i H4, Inv (blkY X (WE W σ) s3 H3 scope ce fp) [] (wipe σ (own.map (·.2))) H4 t ∧ tn i t.heap ∧ (∀ b ∈ fp, H4 b = none) ∧ Wt i n H4) ?_ m0 ⟨0, H3, I4.wish _, st4, nfp, w0⟩
    rintro n s5 ⟨i, H5, I5, st5, n5, w5⟩
    rcases turn i n H5 w5 with ⟨stop, qq⟩ | ⟨go, Nx, hNx, step⟩
    · have td := T.done (blkY X (WE W σ) s3 H3 scope ce fp) rfl rfl rfl hc i [] s5 _ H5 (fun _ _ => False) I5 (stat I5 n5) st5 stop
      refine thnF td fun r s6 ⟨hr, I6⟩ => ?_
      subst hr
      have I7 : Inv X pins σ H5 s6 := I3.call' (ch := fp) I6.os I6.base I6.hok I6.bare fun b hb => ⟨(f3 b hb).1.2.2.2.1, (f3 b hb).1.2.1, (f3 b hb).1.2.2.2.2.1, (f3 b hb).1.2.2.2.2.2⟩
      have nC : H5 s3.heap.objs.size = none := by
        have z : H5 ce.locals = none := I6.free
        rw [cL] at z
        exact z
      obtain ⟨m, hn, _⟩ := I6.loc
      have hn : s6.heap.Ns ce.locals m := hn
      rw [cL] at hn
      exact hRR D s3.heap.objs.size s6 m H5 I7 qq hn (I3.fpOk (Nat.le_refl _) nC)
    · have ti := T.item (blkY X (WE W σ) s3 H3 scope ce fp) rfl rfl rfl hc i [] s5 _ H5 (fun _ _ => False) I5 (stat I5 n5) st5 go
      refine thnF ti fun r s6 ⟨u, hr, h6⟩ => ?_
      subst hr
      refine thnF h6 fun _ s7 ⟨x, H7, I7, r7, y7, st7, n7⟩ => ?_
      have I7' := I7.pinned (stat I7 n7) (T.obj _ _ st7)
      have off : ∀ (x : Value) (t : Shared), (blkY X (WE W σ) s3 H3 scope ce fp).xe x t → notedBy (model X.prog X.w) X.A ce (fun e t2 => postY (model X.prog X.w) X.A X.xe X.env use Qf (.ref D) s3.heap.objs.size (.error e) t2) x t := fun x t hx => out _ x t hx
      refine wpAny_mono (pg.run _ s7 _ H7 x u _ I7' r7 (step x H7 y7)) (fun _ s8 ⟨σ8, H8, I8, hw8, q8⟩ => ?_) off
      refine wpAny_mono (pt.run _ s8 σ8 H8 _ I8 q8) (fun b s9 ⟨H9, I9, q9⟩ => ?_) off
      have fin : ∀ {t : Shared} {H4 : Hp}, Inv (blkY X (WE W σ) s3 H3 scope ce fp) ([] ++ pinsAt fp s7.heap) σ8 H4 t → Nx H4 → ∃ m, m < n ∧ ∃ i H4, Inv (blkY X (WE W σ) s3 H3 scope ce fp) [] (wipe σ (own.map (·.2))) H4 t ∧ tn i t.heap ∧ (∀ b ∈ fp, H4 b = none) ∧ Wt i m H4 := fun {t H4} I' nx => by
        obtain ⟨m2, hm, w2⟩ := hNx H4 nx
        have still : ∀ b ∈ fp, ∀ o, s7.heap.get? b = some o → t.heap.get? b = some o ∧ H4 b = none := fun b hb o e =>
          let z := I'.pin (b, o) (List.mem_append_right _ (List.mem_append_right _ (mem_pinsAt hb e)))
          ⟨z.1, z.2.1⟩
        have hl : (wipe σ (own.map (·.2))).length = σ8.length := by rw [← hw8, wipe_length]
        refine ⟨m2, hm, i + 1, H4, (I'.unpinned (pins := [])).weak hl (fun j v e => ?_), T.keep _ _ _ st7 fun b hb o e => (still b hb o e).1, fun b hb => ?_, w2⟩
        · rw [← hw8] at e
          exact (wipe_some e).1
        · obtain ⟨o, e, _⟩ := T.obj _ _ st7 b hb
          exact (still b hb o e).2
      cases b with
      | false =>
        simp only [Bool.false_eq_true, if_false] at q9 ⊢
        exact fin I9 q9
      | true =>
        simp only [if_true] at q9 ⊢
        refine wpAny_mono (pe.run _ s9 σ8 H9 _ I9 q9) (fun z s10 ⟨yv, H10, I10, r10, acc, hD10, hz10, nx⟩ => ?_) off
        exact app_ok (X := blkY X (WE W σ) s3 H3 scope ce fp) I10 hD10 hz10 r10 fun s11 I11 => fin I11 nx
  exact codeAny_compStart_list loop (T.self X.A 0 _ _ _ st4 loop)
/-- as a value -/
theorem pe_lcY {elt tg iter : Expr} {ifs : List Expr} {scope : Scope} {own : List (Str × Nat)} {pos : Pos} {wi : TI} {g : TG} {tt : XK → TT} {te : XK → TE} {W : WX} (hstk : X.stack = X.env :: X.outer) (hfrm : X.env.frame = some X.env.locals) (tk : Takes X W) (hc : X.calm = true) (hN : X.N.Nodup) (hi : PI X tg iter wi) (ok : BlkOk X.N X.env.scope scope own)
    (hg : ∀ (E : XK) (s : Shared) (H : Hp) (C : Addr) (cl : List (Str × Addr)) (fp : List Addr), PG (blkY X E s H scope (compEnvC scope cl C X.env) fp) tg g) (ht : ∀ (E : XK) (s : Shared) (H : Hp) (C : Addr) (cl : List (Str × Addr)) (fp : List Addr), PTs (blkY X E s H scope (compEnvC scope cl C X.env) fp) ifs (tt E))
    (he : ∀ (E : XK) (s : Shared) (H : Hp) (C : Addr) (cl : List (Str × Addr)) (fp : List Addr), PE (blkY X E s H scope (compEnvC scope cl C X.env) fp) elt (te E)) (hs : ∀ x, foldedSetIterable iter X.env x = pure x := by intro _; rfl) :
    PE X (.ListComp elt [⟨tg, iter, ifs, 0⟩] scope pos) (tLcY W wi g tt te (own.map (·.2))) := by
  refine ⟨fun pins s σ H Q I h => ?_⟩
  rw [eval_ListComp]
  refine lc_coreY hstk hfrm tk hc hN I hi ok hg ht he hs h fun D C t m H1 I1 q hn f => ⟨m, hn, fun g1 sb => ?_⟩
  obtain ⟨f0, f1, f2, f3, f4, f5⟩ := f
  exact ⟨.ref D, H1, I1.turned (t' := t.toks) (fun b o hb e => (sb.2 b hb).trans e) f0 f1 f3 f4 f5, rfl, q⟩
/-- name = [..] on one line, the name a local -/
theorem ps_setLcY {i : Nat} {y : Str} {py : Pos} {elt tg iter : Expr} {ifs : List Expr} {scope : Scope} {own : List (Str × Nat)} {pos spos : Pos} {wi : TI} {g : TG} {tt : XK → TT} {te : XK → TE} {W : WX} (hstk : X.stack = X.env :: X.outer) (hfrm : X.env.frame = some X.env.locals) (tk : Takes X W) (hc : X.calm = true) (hN : X.N.Nodup)
    (hy : X.N[i]? = some y) (hyl : X.env.scope.names.lookup y = some .local) (hsw : swapsWith (.ListComp elt [⟨tg, iter, ifs, 0⟩] scope pos) (some (.Name y py)) spos.line X.env = pure true) (hi : PI X tg iter wi) (ok : BlkOk X.N X.env.scope scope own)
    (hg : ∀ (E : XK) (s : Shared) (H : Hp) (C : Addr) (cl : List (Str × Addr)) (fp : List Addr), PG (blkY X E s H scope (compEnvC scope cl C X.env) fp) tg g) (ht : ∀ (E : XK) (s : Shared) (H : Hp) (C : Addr) (cl : List (Str × Addr)) (fp : List Addr), PTs (blkY X E s H scope (compEnvC scope cl C X.env) fp) ifs (tt E))
    (he : ∀ (E : XK) (s : Shared) (H : Hp) (C : Addr) (cl : List (Str × Addr)) (fp : List Addr), PE (blkY X E s H scope (compEnvC scope cl C X.env) fp) elt (te E)) (hs : ∀ x, foldedSetIterable iter X.env x = pure x := by intro _; rfl) :
    PS X (.Assign [.Name y py] (.ListComp elt [⟨tg, iter, ifs, 0⟩] scope pos) spos) (tAsg (tLcY W wi g tt te (own.map (·.2))) (gName i)) := by
  refine ⟨fun pins s σ H D I h => ?_⟩
  rw [exec_Assign_Name_used _ _ _ _ hsw]
  refine wpAny_bind (wpAny_standAt (wpAny_bind ?_))
  show wpAny _ X.A (do let _ ← comprehension (.ListComp elt [⟨tg, iter, ifs, 0⟩] scope pos) scope X.env (firstIterPos [⟨tg, iter, ifs, 0⟩] pos) (newList []) false (eval iter X.env) (some (assign (.Name y py) X.env))) _ _ s
  have h0 : tLcY W wi g tt te (own.map (·.2)) σ H (fun x H1 => gName i x σ H1 D.nx) := h
  refine wpAny_bind (thn (lc_coreY (Qf := fun _ t => SP X pins D .next t) hstk hfrm tk hc hN I hi ok hg ht he hs h0 fun L C t m H1 I1 q hn f => ?_) fun _ t hq => wpAny_pure (wpAny_pure hq))
  show wpAny _ _ (assign (.Name y py) X.env (.ref L)) _ _ _
  refine wpAny_assign_Name (store_ok2 (v := V.ref L) I1 hN hy (.inl hyl) rfl (fun s2 I2 ⟨a, sb, ha⟩ => ?_) (.inr hyl))
  obtain ⟨f0, f1, f2, f3, f4, f5⟩ := f
  have haC : C ≠ a := ha.elim (fun z => by rw [z]; exact f1) fun z e => f4 y a z e.symm
  refine ⟨m, hn.sameBut sb haC, fun g3 sb3 => ⟨_, H1, I2.turned (t' := s2.toks) (fun b o hb e => (sb3.2 b hb).trans e) f0 f1 f3 f4 f5, q⟩⟩
end
end Y
/-! Y4: defs that run whatever is handled; C(e) of an own exception with one field; an own exception without __init__. -/
namespace Y
open PySem PySem.Spec PyProof.Rows L2
/-- a def's body where something may be handled -/
abbrev cxA (P : Program) (w : World) (K : PySem.W.Frag) (mg : Str → Option Value) (base : Heap) (N : List Str) (qual : Str) (scope : Scope) (f : Addr) (cd : Value) (A : Around) (outer : List Env) (s : Shared) (H : Hp) (E : XK) : Cx :=
  { cxOf (Y.CX P w) P w K mg base N qual scope f cd A outer s H E with calm := false }
structure FnA (P : Program) (w : World) (K : PySem.W.Frag) (mg : Str → Option Value) (base : Heap) (k : Nat) (f : Addr) (fd : FuncData) (ps : List Str) (sp : Sp) : Prop where
  len : ∀ vs H Q E, sp vs H Q E → vs.length = ps.length
  run : ∀ (A : Around) (outer : List Env) (s : Shared) (H : Hp) (args : Args) (us : List Value) (vs : List V) (Q : VK) (E : XK), L2H.RoomH k A → Env0 P w K mg base A outer s H → BindsTo s fd args (ps.zip us) → Vals vs us → sp vs H Q E →
    codeAny (model P w) A (.call (.ref f) args) (CR (Y.CX P w) outer P w H s Q E) s
section
variable {P : Program} {w : World} {K : PySem.W.Frag} {mg : Str → Option Value} {base : Heap} {N ps : List Str} {qual x : Str} {scope : Scope} {params : Arguments} {body : List Stmt} {dvs : List V} {kws : List (Str × V)} {f : Addr} {fd : FuncData} {cd : Value} {A : Around} {outer : List Env} {s s1 : Shared} {H : Hp} {E : XK} {us : List Value} {vs : List V} {k : Nat} {sp : Sp}
theorem inv_startA (S : FnScope N ps scope) (e0 : Env0 P w K mg base A outer s H) (hl : vs.length = ps.length) (r : Vals vs us)
    (c : InCallC s s.heap.objs.size (bindL (envOfC qual scope s.heap.objs.size f cd).kindOf (ps.zip us) fun _ => none) (cellsFrom (s.heap.objs.size + 1) scope.names []) (bindC (envOfC qual scope s.heap.objs.size f cd).kindOf (ps.zip us) fun _ => none) s1) :
    Inv (cxA P w K mg base N qual scope f cd A outer s H E) [] (L2.start N vs) H s1 := by
  have lpn : ps.length ≤ N.length := by
    have z := congrArg List.length S.pre
    rw [List.length_take] at z
    omega
  obtain ⟨h1, tk, rfl, hk⟩ := c.done
  have no : ∀ b : Addr, b ∉ (cxA P w K mg base N qual scope f cd A outer s H E).ex := fun b z => absurd (show b ∈ ([] : List Addr) from z) (by simp)
  refine ⟨⟨e0.mod, S.kind, rfl, rfl, Nat.le_refl _, fun y z c1 h1 h2 => ?_, fun y hy => ?_, fun y c1 _ h => ?_, (fun z => Bool.noConfusion (show false = true from z)), Around.frames_deeper e0.frames, .inr ⟨rfl, rfl⟩, fun b z => absurd z (no b), e0.bs, e0.bsz, fun b _ _ => no b, fun b z => absurd z (no b), e0.funs, e0.frf⟩,
    rfl, e0.bare, Un.kept hk, ⟨_, c.toInCall.ns, fun i y v h1 h2 h3 => ?_⟩, fun y c1 h => ⟨_, c.cell y c1 h⟩, e0.hok.fresh (Nat.le_refl _), fun y c1 h => ?_, fun p hp => absurd (show p ∈ ([] : List (Addr × Obj)) from hp) (by simp), e0.hok.kept hk, ?_⟩
  · exact name_of_addr c.apart (PySem.mem_of_lookup h1) (PySem.mem_of_lookup h2)
  · have hy2 : scope.names.lookup y = some .cell ∨ scope.names.lookup y = some .free := hy
    rcases hy2 with z | z
    · exact cell_has z
    · exact absurd rfl (S.nofree _ (PySem.mem_of_lookup z))
  · exact Nat.le_of_lt (c.above y c1 (PySem.mem_of_lookup h))
  · have hi : i < vs.length := by
      unfold L2.start at h2
      by_cases hi : i < vs.length
      · exact hi
      · rw [List.getElem?_append_right (by simpa using hi), List.getElem?_replicate] at h2
        split at h2 <;> cases h2
    have ha : vs[i]? = some v := by
      unfold L2.start at h2
      rw [List.getElem?_append_left (by simpa using hi), List.getElem?_map] at h2
      cases e : vs[i]? with
      | none => rw [e] at h2; cases h2
      | some a => rw [e] at h2; cases h2; rfl
    obtain ⟨u, hu, rv⟩ := r.get ha
    have hp : ps[i]? = some y := by
      rw [← S.pre, List.getElem?_take_of_lt (by omega)]
      exact h1
    have ndP : ps.Nodup := by
      rw [← S.pre]
      exact S.nd.sublist (List.take_sublist _ _)
    refine ⟨u, rv, ?_⟩
    rcases S.par y (List.mem_of_getElem? hp) with q | q
    · exact .inl ⟨q, bindL_get ndP hp hu q⟩
    · obtain ⟨c1, e⟩ := cell_has (n := s.heap.objs.size + 1) q
      refine .inr ⟨.inl q, c1, e, ?_⟩
      have z := c.cell y c1 e
      rw [bindC_get ndP hp hu (by show scope.names.lookup y ≠ _; rw [q]; decide)] at z
      exact z
  · exact e0.hok.fresh (Nat.le_of_lt (c.above y c1 (PySem.mem_of_lookup h)))
  · unfold L2.start
    show _ = N.length
    rw [List.length_append, List.length_map, List.length_replicate]
    omega
theorem okA (F : FunD K x qual params body scope dvs kws f fd) (S : FnScope N ps scope) (len : ∀ vs H Q E, sp vs H Q E → vs.length = ps.length)
    (hbody : ∀ (cdv : Value) (A : Around) (outer : List Env) (s : Shared) (H : Hp) (vs : List V) (Q : VK) (E : XK), L2H.RoomH k (A.deeper (envOfC qual scope s.heap.objs.size f cdv)) → sp vs H Q E →
      ∃ t, PSs (cxA P w K mg base N qual scope f cdv A outer s H E) body t ∧ t { nx := fun _ H2 => Q .non H2, rt := Q } (L2.start N vs) H) : FnA P w K mg base (k + 1) f fd ps sp := by
  obtain ⟨oc, od, dV, kV, doc, pm, an, cdv, ct, osl, rfl, lk, hcd, _, _⟩ := F.ex
  refine ⟨len, fun A outer s H args us vs Q E hr e0 hb r hsp => ?_⟩
  have hl := len _ _ _ _ hsp
  have KX : K.In s.heap := e0.mod.kin.keeps fun b o e => (e0.bs b o e).1
  have lim : s.heap.NoLimit := e0.mod.nolimit.keeps fun b o e => (e0.bs b o e).1
  have hkind : ∀ y ∈ ps.zip us, scope.names.lookup y.1 = some .local ∨ (scope.names.lookup y.1 = some .cell ∧ ((cellsFrom (s.heap.objs.size + 1) scope.names []).lookup y.1).isSome = true) := fun ⟨n, v⟩ hy =>
    (S.par n (List.of_mem_zip hy).1).elim .inl fun q => .inr ⟨q, PySem.W.cellsFrom_some _ _ _ (.inl q)⟩
  refine codeAny_call_function hr.depth (KX _ _ lk) rfl S.co S.gen rfl (PySem.W.codeRec_of KX hcd) (hb _ _ _ _ ?_)
  refine wpAny_newFunctionEnv_cells S.kind hkind fun env he s1 c => ?_
  subst he
  refine ⟨lim.keeps c.toInCall.keep, codeAny_func ?_⟩
  obtain ⟨t, ht, hq⟩ := hbody cdv A outer s H vs Q E (hr.deeper _) hsp
  have I : Inv (cxA P w K mg base N qual scope f cdv A outer s H E) [] (L2.start N vs) H s1 := inv_startA S e0 hl r c
  refine wpAny_mono (ht.run [] s1 (L2.start N vs) H _ I hq) (fun fl s2 hs => ?_) fun e s2 hs => hs
  have fin : ∀ {σ2 : L2.St} {H2 : Hp} {v : V} {u : Value}, Inv (cxA P w K mg base N qual scope f cdv A outer s H E) [] σ2 H2 s2 → RelV v u → Q v H2 → CE outer P w H s Q u s2 :=
    fun {σ2 H2 v u} J rv q => ⟨v, H2, J.os, J.bare, J.base, J.hok, rv, q⟩
  cases fl with
  | ret u =>
    obtain ⟨v, σ2, H2, J, rv, q⟩ := hs
    exact fin J rv q
  | next =>
    obtain ⟨σ2, H2, J, q⟩ := hs
    exact fin (v := V.non) (u := Value.none) J rfl q
  | brk =>
    obtain ⟨_, _, _, q⟩ := hs
    exact False.elim q
  | cont =>
    obtain ⟨_, _, _, q⟩ := hs
    exact False.elim q
end
section
variable {X : Cx} {k : Nat} {f C B : Addr} {fd : FuncData} {ps : List Str} {sp : Sp} {W : WX} {x m : Str} {p p1 p2 pos apos : Pos} {e o : Expr} {es : List Expr} {ta : TA}
/-- f(e, ..) whatever is handled -/
theorem pe_callA (F : FnA X.prog X.w X.K X.mg X.base k f fd ps sp) (hr : L2H.RoomH k X.A) (hg : Gl X x) (hm : X.mg x = some (.ref f)) (hk : PySem.W.keepIn X.K (.ref f) = true) (hb : Binds X.K fd ps []) (tk : Takes X W)
    (ha : PA X (e :: es) ta) (hdb : (x == ("__debug__" : Str)) = false := by decide) (he : starEach (e :: es) X.env = (false, eval e X.env) :: starEach es X.env := by rfl) (hpl : (backTo pos (starEach es X.env)).any (·.1) = false := by rfl) :
    PE X (.Call (.Name x p) (e :: es) [] pos) (tCallY sp [] W ta) := by
  refine ⟨fun pins s σ H Q I h => wpAny_Call_Name_kw (ld_glob I hg hm (PySem.W.callWith_K (h₀ := X.base) I.ok.mod.kin hk (thn (ha.run pos pins s σ H _ I h) fun us s1 ⟨vs, H1, I1, r, q⟩ => ⟨I1.kIn, ?_⟩) he hpl) hdb)⟩
  have q : sp vs H1 (Q) (WE W σ) := by
    have z := q
    dsimp only at z
    rw [List.append_nil] at z
    exact z
  have lenq : us.length = ps.length := r.length.symm.trans (F.len _ _ _ _ q)
  have b := hb s1 us I1.kIn (by rw [List.append_nil]; exact lenq)
  rw [List.append_nil] at b
  refine wpAny_call (codeAny_mono (F.run X.A X.stack s1 H1 ⟨us, []⟩ us vs Q _ hr I1.env0 b r q) fun r2 s2 hq => ?_)
  cases r2 with
  | error z => exact pass_at tk σ pins H1 s1 z s2 I1 hq
  | ok fl =>
    cases fl with
    | ret u => exact I1.after hq
    | next => exact False.elim hq
    | brk => exact False.elim hq
    | cont => exact False.elim hq
/-- B.__init__(self, ..) of an own exception class B that has ValueError's __init__ -/
theorem pe_bkinit {pl : Sem Bool} (hg : Gl X x) (hm : X.mg x = some (.ref B)) (rd : PySem.W.readsIn X.K B (.type "type") = true) (sg : PySem.W.specialIn X.K (.ref B) "__getattribute__" = some (some (.builtin "type.__getattribute__")))
    (fB : PySem.W.findCls X.K (.ref B) (.type "type") "__init__" = some (.val (.builtin "ValueError.__init__"))) (ha : PA X (e :: es) ta) (hdb : (x == ("__debug__" : Str)) = false := by decide)
    (hc : eval (.Call (.Attribute (.Name x p1) "__init__" p2) (e :: es) [] pos) X.env = (do
      let ov ← eval (.Name x p1) X.env
      standAt p2.atName
      let (f, first) ← holding [ov] (getMethod ov "__init__" pl)
      callWith pos f first (backTo pos (starEach (e :: es) X.env)) (backToKw pos (keywordEach [] X.env))) := by rfl)
    (he : starEach (e :: es) X.env = (false, eval e X.env) :: starEach es X.env := by rfl) (hpl : (backTo pos (starEach es X.env)).any (·.1) = false := by rfl) :
    PE X (.Call (.Attribute (.Name x p1) "__init__" p2) (e :: es) [] pos) (tVeI X.K ta) := by
  refine ⟨fun pins s σ H Q I h => PySem.W.methodCall_KW (ld_glob I hg hm ?_ hdb) hc⟩
  refine PySem.W.method_cls I.kIn sg (PySem.W.cls_value I.kIn rd fB (by decide +kernel) ?_)
  show wpAny _ _ (callWith pos (Value.builtin "ValueError.__init__") [] (backTo pos (starEach (e :: es) X.env)) []) _ _ _
  refine PyProof.Rows.callWith_method1 (thn (ha.run pos pins _ σ H _ (I.tok _) h) fun us s1 ⟨vs, H1, I1, r1, a, C, ws, ev, hl, T, ea, q⟩ => ?_) he hpl
  subst ev
  cases r1 with
  | @cons _ u0 _ ur ra rw' =>
    obtain rfl : u0 = Value.ref a := ra
    have hlen : ur.length ≤ sizeLine := by
      rw [← Paired.length rw', sizeLine_eq]
      omega
    exact oinit_ok T I1 ea hlen fun s2 J => ⟨.non, H1, J, rfl, q⟩
end
/-- C(e, ..) while anything may be handled, C's __init__ a def that runs whatever is handled -/
theorem pmk_oexA {X : Cx} {x : Str} {e : Expr} {es : List Expr} {ta : TA} {p pos : Pos} {C fI : Addr} {k : Nat} {fd : FuncData} {ps : List Str} {sp : Sp} (T : OexC X.K C) (iC : PySem.W.findIn X.K (.ref C) "__init__" = some (some (.ref fI))) (tI : PySem.W.typeIn X.K (.ref fI) = some (.type "function"))
    (F1 : FnA X.prog X.w X.K X.mg X.base k fI fd ps sp) (hr : L2H.RoomH (k + 1) X.A) (hb : Binds X.K fd ps []) (hg : Gl X x) (hm : X.mg x = some (.ref C)) (ha : PA X (e :: es) ta)
    (hdb : (x == ("__debug__" : Str)) = false := by decide) (he : starEach (e :: es) X.env = (false, eval e X.env) :: starEach es X.env := by rfl) (hpl : (backTo pos (starEach es X.env)).any (·.1) = false := by rfl) :
    L2N.PMk X (.Call (.Name x p) (e :: es) [] pos) (tMkO C sp [] ta) := by
  intro pins s σ H Q I h
  obtain ⟨nm, q, N, bs, bm, sn, sub, ab, col, dd, k0, k1, k2, k3, k5, hC, hbm⟩ := T.cls
  refine wpAny_Call_Name_kw (ld_glob I hg hm ?_ hdb)
  refine PySem.W.callWith_K (h₀ := X.base) I.ok.mod.kin T.kC (thn (ha.run pos pins s σ H _ I h) fun us s1 ⟨vs, H1, I1, r1, hz, q1⟩ => ⟨I1.kIn, ?_⟩) he hpl
  show wpAny _ _ (call (.ref C) us) _ _ _
  obtain ⟨hp, g, dr, tk, os⟩ := s1
  have hsz : hp.objs.size ≤ hp.objs.size + 1 := Nat.le_succ _
  have hq := q1 (hp.objs.size + 1) (I1.hok.fresh hsz)
  rw [List.append_nil] at hq
  have kk : ∀ b o, hp.get? b = some o → ((hp.push (PySem.W.kdv_tup us)).push (PySem.HandSPX.excO C hp.objs.size)).get? b = some o := fun b o e => Heap.get?_push_of_some _ (Heap.get?_push_of_some _ e)
  have hget : ((hp.push (PySem.W.kdv_tup us)).push (PySem.HandSPX.excO C hp.objs.size)).get? (hp.objs.size + 1) = some (PySem.HandSPX.excO C hp.objs.size) := by heap_get
  have J : Inv X pins σ (upd H1 (hp.objs.size + 1) (exo (hp.objs.size + 1) C none)) ⟨(hp.push (PySem.W.kdv_tup us)).push (PySem.HandSPX.excO C hp.objs.size), g, dr, tk, os⟩ :=
    I1.laid (t' := tk) (a := hp.objs.size + 1) (o := exo (hp.objs.size + 1) C none) (h' := (hp.push (PySem.W.kdv_tup us)).push (PySem.HandSPX.excO C hp.objs.size)) kk hsz (exo_ok hget)
  have rr : Vals (V.ref (hp.objs.size + 1) :: vs) (Value.ref (hp.objs.size + 1) :: us) := .cons rfl r1
  have lenq : (Value.ref (hp.objs.size + 1) :: us ++ []).length = ps.length := by
    rw [List.append_nil]
    exact rr.length.symm.trans (F1.len _ _ _ _ hq)
  have hus : us.length ≤ sizeLine := by
    rw [← Paired.length r1, sizeLine_eq]
    omega
  have b2 := hb _ (Value.ref (hp.objs.size + 1) :: us) J.kIn lenq
  rw [List.append_nil] at b2
  refine wpAny_call (PySem.HandSPX.call_own F.excBase_ValueError (fun Y => PySem.HandSPX.refsVE_contains Y bm hbm) (I1.kIn _ _ hC) (PySem.W.looks_findIn I1.kIn iC) (fun self => PySem.W.bind_fn I1.kIn self tI) hus
    (codeAny_mono (F1.run _ X.stack _ _ ⟨Value.ref (hp.objs.size + 1) :: us, []⟩ (Value.ref (hp.objs.size + 1) :: us) _ _ (fun _ _ _ => False) (hr.make C us []) (J.env0.make C us []) b2 rr hq) fun r s2 hq2 => ?_))
  cases r with
  | error er => exact (cx_none hq2).elim
  | ok fl =>
    cases fl with
    | ret u =>
      obtain ⟨v, H2, os2, bare2, un2, hok2, rv, ev, d, fs, ea, ed, hd1, q2⟩ := hq2
      subst ev
      obtain ⟨h2, g2, d2, t2, os'⟩ := s2
      obtain ⟨t0, G, J2, kG, ge, hoe, na⟩ := mk_end0 (d2 := d2) (t2 := t2) I1 hsz kk un2 hok2 os2 bare2 ea ed hd1
      exact ⟨rv, ⟨hp.objs.size + 1, _, _, ⟨G, g2, d2, t2, os'⟩, _, .ref C, some d, rfl, J2, kG, ge, hoe, ⟨rfl, rfl, fun vs hv => by cases hv; rfl⟩, rfl, rfl, na, rfl, bare2, raises_own T.exC T.tyC, q2⟩⟩
    | next => exact False.elim hq2
    | brk => exact False.elim hq2
    | cont => exact False.elim hq2
end Y
/-! Y5: what a suite asks of its exception; the head's facts. -/
namespace Y
open PySem PySem.Spec PyProof.Rows L2
/-- the own dict of an exception, as it is tracked -/
def Dic (H : Hp) (d : Option Addr) : Prop := d = none ∨ ∃ dd fs, d = some dd ∧ H dd = some (.xd fs)
/-- isinstance(e, c), e the exception (class at D) that the suite holds at a -/
def rIsY (K : PySem.W.Frag) (a : Addr) (cls : Value) (d : Option Addr) : List V → Hp → VK → Prop := fun xs H Q => ∃ (D : Addr) (c : V) (cv : Value) (b : Bool), cls = .ref D ∧ xs = [.ref a, c] ∧ (∀ u, RelV c u → u = cv) ∧ ExcC K D ∧ Dic H d ∧ PySem.W.kitOne K (.ref D) cv = some b ∧ Q (.bl b) H
theorem call_isY {X : Cx} {a : Addr} {oe : Obj} {cls : Value} {d : Option Addr} {ch : Ch} (hz : Zy cls d ch oe) (hf : ∃ fv, oe.data = .fields fv) (hp : (a, oe) ∈ X.pn) : CallR X (.builtin "isinstance") (rIsY X.K a cls d) := by
  intro pins s σ H xs us Q I r h
  obtain ⟨D, c, cv, b, rfl, rfl, hcv, C, dic, e, q⟩ := h
  cases r with
  | cons rx rr =>
    cases rr with
    | cons rt rr =>
      cases rr
      cases rx
      have ec := hcv _ rt
      subst ec
      obtain ⟨hget, _⟩ := I.pin (a, oe) (List.mem_append.mpr (.inl hp))
      obtain ⟨fv, hv⟩ := hf
      obtain ⟨od, J⟩ : ∃ od, PySem.W.InstAt s.heap a oe D od := by
        obtain ⟨oc, od, oda, osl⟩ := oe
        obtain ⟨h1, h2, _⟩ := hz
        dsimp only at h1 h2 hv
        subst h1 h2 hv
        rcases dic with rfl | ⟨dd, fs, rfl, hd⟩
        · exact ⟨none, hget, rfl, rfl, trivial⟩
        · have hx : ObjOk X.prog X.w H s.heap dd (.xd fs) := I.hok dd _ hd
          obtain ⟨mA, hns, _⟩ := hx
          obtain ⟨o2, ho, _⟩ := lookIn_ns hns
          exact ⟨some o2, hget, rfl, rfl, ho⟩
      exact PySem.W.kia_one (PySem.W.kitx_exc (by obtain ⟨cd, hc, _⟩ := PySem.W.any_some C.hd; rw [hc]; rfl) C.hg C.hk C.hs C.ha C.hn C.ht C.hm) I.kIn J e (fun z => nomatch z) fun tk => ⟨.bl b, H, I.kept (t' := tk) fun _ _ z => z, rfl, q⟩
/-- e.f, e the exception that the suite holds -/
theorem pe_xfY {X : Cx} {a C : Addr} {oe : Obj} {cls : Value} {d : Option Addr} {ch : Ch} {e : Expr} {te : TE} {pos : Pos} {n : Str} (T : XfC X.K C) (hno : PySem.W.findIn X.K (.ref C) n = some none)
    (hz : Zy cls d ch oe) (hf : ∃ fv, oe.data = .fields fv) (hp : (a, oe) ∈ X.pn) (he : PE X e te) (hb : attributeBase e n X.env (eval e X.env) = eval e X.env := by rfl) : PE X (.Attribute e n pos) (tXf a cls d C n te) := by
  refine ⟨fun pins s σ H Q I h => attr_of hb (thn (he.run pins s σ H _ I h) fun u s1 hh => ?_)⟩
  obtain ⟨x, H1, I1, rx, ex, ec, dd, fs, v, ed, ea, l, q⟩ := hh
  subst ex
  obtain rfl : u = Value.ref a := rx
  subst ec
  subst ed
  obtain ⟨ha, _⟩ := I1.pin (a, oe) (List.mem_append_left _ hp)
  obtain ⟨fv, hd⟩ := hf
  have hx : ObjOk X.prog X.w H1 s1.heap dd (.xd fs) := I1.hok dd _ ea
  obtain ⟨mA, hns, hr⟩ := hx
  obtain ⟨od, ho, hl⟩ := lookIn_ns hns
  obtain ⟨u, hu, ru⟩ := RelO.some_of (v := v) (o := mA n) (by rw [← l]; exact hr n)
  have J : PySem.W.InstAt s1.heap a oe C (some od) := ⟨ha, hz.1, by unfold PySem.W.notCls; rw [hd] <;> rfl, by rw [hz.2.1]; exact ho⟩
  exact HandSPX.exc_get I1.kIn J T.ga T.gg T.exC (PySem.W.findObj_own T.hdC hno rfl (by rw [hl, hu])) (handed_of ru) ⟨v, H1, I1.tok _, ru, q⟩
end Y
/-! ### the head's facts -/
namespace Y
open PySem PySem.Spec PyProof.Rows L2
abbrev gA (K : PySem.W.Frag) (x : Str) : Addr := He.ga K x
abbrev mA (K : PySem.W.Frag) (x m : Str) : Addr := He.ma K (He.ga K x) m
def fdOf (K : PySem.W.Frag) (p : Str × Option Str) : FuncData := match K.lookup (He.fAd K p) with
  | some ⟨_, _, .func fd, _⟩ => fd
  | _ => default
inductive Fc where
  | fa (f : He.Fa)
  /-- an own exception class with its own __init__ (one that ValueError's makes) -/
  | ox (x : Str)
  /-- x.__init__ is ValueError's -/
  | vi (x : Str)
  /-- isinstance asks rightly of instances of the exception class x -/
  | ec (x : Str)
  /-- isinstance(an instance of x, y) -/
  | kit (x y : Str) (b : Bool)
  /-- x and y have one method m -/
  | same (x y m : Str)
  /-- an instance of the own class x: isinstance(.., y) -/
  | isi (x : Str)
def exLike (K : PySem.W.Frag) (C : Addr) : Bool := match K.lookup C with
  | some ⟨.type t, d, .cls cd, sl⟩ => (match cd.mro, sl.toList with
    | .ref C2 :: bm, [_, _, _, _, some (.builtin n), _] => decide (C2 = C) && (decide (n = "ValueError.__new__") && (!cd.hasDel && (cd.hasDict && (HandSPX.refsVE bm && decide (t = "type")))))
    | _, _ => false)
  | _ => false
def Fc.ok (K : PySem.W.Frag) : Fc → Bool
  | .fa f => f.ok K
  | .ox x => exLike K (gA K x) && (He.eqO (PySem.W.findIn K (.ref (gA K x)) "__setattr__") (some (some (.builtin "object.__setattr__"))) && (decide (PySem.W.subIn K (.ref (gA K x)) (.type "BaseException") = some true) && (decide (PySem.W.typeIn K (.ref (gA K x)) = some (.type "type")) &&
      (PySem.W.keepIn K (.ref (gA K x)) && (He.eqO (PySem.W.findIn K (.ref (gA K x)) "__init__") (some (some (.ref (mA K x "__init__")))) && decide (PySem.W.typeIn K (.ref (mA K x "__init__")) = some (.type "function")))))))
  | .vi x => PySem.W.readsIn K (gA K x) (.type "type") && (decide (PySem.W.specialIn K (.ref (gA K x)) "__getattribute__" = some (some (.builtin "type.__getattribute__"))) && (match PySem.W.findCls K (.ref (gA K x)) (.type "type") "__init__" with
    | some (.val (.builtin n)) => decide (n = "ValueError.__init__")
    | _ => false))
  | .ec x => xfB K (gA K x) && (He.eqO (PySem.W.findIn K (.ref (gA K x)) "__class__") (some (some (.builtin "object.__class__"))) && (decide (PySem.W.specialIn K (.builtin "object.__class__") "__get__" = some (some (.builtin "getset_descriptor.__get__"))) &&
      (decide (PySem.W.takesIn K (.builtin "object.__class__") = some true) && decide (PySem.W.mroIn K (gA K x) (.type "object") = some true))))
  | .kit x y b => decide (PySem.W.kitOne K (.ref (gA K x)) (.ref (gA K y)) = some b)
  | .same x y m => decide (mA K x m = mA K y m)
  | .isi x => He.eqO (PySem.W.findIn K (.ref (gA K x)) "__class__") (some (some (.builtin "object.__class__"))) && (decide (PySem.W.specialIn K (.builtin "object.__class__") "__get__" = some (some (.builtin "getset_descriptor.__get__"))) &&
      (decide (PySem.W.takesIn K (.builtin "object.__class__") = some true) && (decide (PySem.W.mroIn K (gA K x) (.type "object") = some true) && decide (PySem.W.kitOne K (.ref (gA K x)) (.ref (gA K x)) = some true))))
def obs0 (fas : List (List Fc)) (fns : List (List He.DefD)) (K : PySem.W.Frag) : Bool × List (List He.FnW) := ((fas.all fun l => l.all fun f => f.ok K) && fns.all fun l => l.all fun d => d.ok K, fns.map fun l => l.map fun d => He.fnW K d.at_)
def val0 (fns : List (List He.DefD)) : Bool × List (List He.FnW) := (true, fns.map fun l => l.map He.DefD.val)
def Says (fas : List (List Fc)) (fns : List (List He.DefD)) (K : PySem.W.Frag) : Prop := obs0 fas fns K = val0 fns
/-- the objects that an object names -/
def kids (o : Obj) : List Addr := match o.data with
  | .dict es _ => es.toList.flatMap fun e => He.refV e.val
  | .func fd => He.refV fd.code ++ He.refV fd.defaults
  | .cls cd => [cd.ns]
  | _ => []
def kidsOf (g : Addr → Option Obj) (as : List Addr) : List Addr := as.flatMap fun a => match g a with
  | some o => kids o
  | none => []
def asY (g : Addr → Option Obj) : List Addr := (fun l1 => (fun l2 => (fun l3 => mainGlobals :: cStatics :: (l1 ++ (l2 ++ (l3 ++ kidsOf g l3)))) (kidsOf g l2)) (kidsOf g l1)) (kidsOf g [mainGlobals])
def obsY (fas : List (List Fc)) (fns : List (List He.DefD)) (g : Addr → Option Obj) : Bool × List (List He.FnW) := obs0 fas fns (He.frG g (asY g))
def hookY (fas : List (List Fc)) (fns : List (List He.DefD)) : PySem.W.Hook where
  α := Bool × List (List He.FnW)
  obs := fun s => obsY fas fns s.heap.get?
  val := fun _ => val0 fns
  says := fun _ h => ∃ K : PySem.W.Frag, K.In h ∧ Says fas fns K
  of := fun _ _ e => ⟨_, He.frG_in, e⟩
  keeps := fun _ _ _ ⟨K, hK, c⟩ k => ⟨K, PySem.W.Frag.In.keeps hK k, c⟩
theorem obsY_eq {fas : List (List Fc)} {fns : List (List He.DefD)} {g : Addr → Option Obj} {s : Shared} (h : ∀ a, g a = s.heap.get? a) : obsY fas fns g = (hookY fas fns).obs s := by
  have e : g = s.heap.get? := funext h
  rw [e] <;> rfl
/-- what the top has left -/
structure Top0 (fas : List (List Fc)) (fns : List (List He.DefD)) (K : PySem.W.Frag) (mg : Str → Option Value) : Prop where
  says : Says fas fns K
  ex : ∃ h : Heap, K.In h ∧ h.Ns mainGlobals mg
section
variable {fas : List (List Fc)} {fns : List (List He.DefD)} {K : PySem.W.Frag} {mg : Str → Option Value}
theorem Top0.fact (T : Top0 fas fns K mg) (i j : Nat) {l : List Fc} {f : Fc} (h1 : fas[i]? = some l) (h2 : l[j]? = some f) : f.ok K = true := by
  have c := (He.ba (show ((fas.all fun l => l.all fun f => f.ok K) && fns.all fun l => l.all fun d => d.ok K) = true from congrArg (fun z : Bool × List (List He.FnW) => z.1) T.says)).1
  exact List.all_eq_true.mp (List.all_eq_true.mp c l (List.mem_of_getElem? h1)) f (List.mem_of_getElem? h2)
theorem Top0.def_ (T : Top0 fas fns K mg) (i j : Nat) {l : List He.DefD} {d : He.DefD} (h1 : fns[i]? = some l) (h2 : l[j]? = some d) : FunD K d.name d.qual d.params d.body d.scope (d.dvs K) (d.kws K) (He.fAd K d.at_) (fdOf K d.at_) := by
  have c := (He.ba (show ((fas.all fun l => l.all fun f => f.ok K) && fns.all fun l => l.all fun d => d.ok K) = true from congrArg (fun z : Bool × List (List He.FnW) => z.1) T.says)).2
  have c2 := List.all_eq_true.mp (List.all_eq_true.mp c l (List.mem_of_getElem? h1)) d (List.mem_of_getElem? h2)
  have e : fns.map (fun l => l.map fun d => He.fnW K d.at_) = fns.map (fun l => l.map He.DefD.val) := congrArg (fun z : Bool × List (List He.FnW) => z.2) T.says
  have e2 : (fns.map fun l => l.map fun d => He.fnW K d.at_)[i]? = (fns.map fun l => l.map He.DefD.val)[i]? := by rw [e]
  rw [List.getElem?_map, List.getElem?_map, h1] at e2
  have e3 : l.map (fun d => He.fnW K d.at_) = l.map He.DefD.val := Option.some.inj e2
  have e4 : (l.map fun d => He.fnW K d.at_)[j]? = (l.map He.DefD.val)[j]? := by rw [e3]
  rw [List.getElem?_map, List.getElem?_map, h2] at e4
  obtain ⟨fd, F⟩ := He.DefD.funD (Option.some.inj e4) c2
  have lk : fdOf K d.at_ = fd := by
    obtain ⟨oc, od, dV, kV, doc, pm, an, cdv, ct, osl, _, lk, _⟩ := F.ex
    unfold fdOf
    rw [lk]
  rw [lk]
  exact F
theorem Top0.glo (T : Top0 fas fns K mg) {x : Str} (c : (Fc.fa (.glo x)).ok K = true) : mg x = some (.ref (gA K x)) := let ⟨_, X, G⟩ := T.ex; He.glo_ok X G c
theorem Top0.free (T : Top0 fas fns K mg) {x : Str} (c : (Fc.fa (.free x)).ok K = true) : mg x = none := let ⟨_, X, G⟩ := T.ex; He.free_ok X G c
theorem Top0.int (T : Top0 fas fns K mg) {x : Str} {i : Int} (c : (Fc.fa (.int x i)).ok K = true) : ∃ t, mg x = some (.int i t) := let ⟨_, X, G⟩ := T.ex; He.int_ok X G c
theorem Top0.str (T : Top0 fas fns K mg) {x z : Str} (c : (Fc.fa (.str x z)).ok K = true) : ∃ t, mg x = some (.str z t) := let ⟨_, X, G⟩ := T.ex; He.str_ok X G c
theorem ox_ok {x : Str} (c : (Fc.ox x).ok K = true) : OexC K (gA K x) ∧ PySem.W.findIn K (.ref (gA K x)) "__init__" = some (some (.ref (mA K x "__init__"))) ∧ PySem.W.typeIn K (.ref (mA K x "__init__")) = some (.type "function") := by
  obtain ⟨c1, c⟩ := He.ba c
  obtain ⟨c2, c⟩ := He.ba c
  obtain ⟨c3, c⟩ := He.ba c
  obtain ⟨c4, c⟩ := He.ba c
  obtain ⟨c5, c⟩ := He.ba c
  obtain ⟨c6, c7⟩ := He.ba c
  refine ⟨⟨?_, He.eqO_ok c2, of_decide_eq_true c3, of_decide_eq_true c4, c5⟩, He.eqO_ok c6, of_decide_eq_true c7⟩
  unfold exLike at c1
  cases q : K.lookup (gA K x) with
  | none => rw [q] at c1; cases c1
  | some o =>
    rw [q] at c1
    obtain ⟨oc, od, dt, sl⟩ := o
    cases oc with
    | type t =>
      cases dt with
      | cls cd =>
        dsimp only at c1
        split at c1
        · rename_i C2 bm k0 k1 k2 k3 n k5 hm hs
          obtain ⟨d1, c1⟩ := He.ba c1
          obtain ⟨d2, c1⟩ := He.ba c1
          obtain ⟨d3, c1⟩ := He.ba c1
          obtain ⟨d4, c1⟩ := He.ba c1
          obtain ⟨d5, d6⟩ := He.ba c1
          obtain ⟨nm, bs, mro, ns, qn, hd, sn, sb, ab, col, del⟩ := cd
          dsimp only at hm d3 d4
          have e1 : C2 = gA K x := of_decide_eq_true d1
          have e2 : n = "ValueError.__new__" := of_decide_eq_true d2
          have e3 : t = "type" := of_decide_eq_true d6
          have e4 : del = false := by
            cases del with
            | false => rfl
            | true => cases d3
          subst e2 e3 e4 d4 hm
          rw [e1]
          have e5 : sl = #[k0, k1, k2, k3, some (.builtin "ValueError.__new__"), k5] := by
            have z := congrArg List.toArray hs
            simpa using z
          subst e5
          exact ⟨nm, qn, ns, bs, bm, sn, sb, ab, col, od, k0, k1, k2, k3, k5, by first | exact q | rfl, d5⟩
        · cases c1
      | _ => cases c1
    | _ => cases c1
theorem vi_ok {x : Str} (c : (Fc.vi x).ok K = true) : PySem.W.readsIn K (gA K x) (.type "type") = true ∧ PySem.W.specialIn K (.ref (gA K x)) "__getattribute__" = some (some (.builtin "type.__getattribute__")) ∧
    PySem.W.findCls K (.ref (gA K x)) (.type "type") "__init__" = some (.val (.builtin "ValueError.__init__")) := by
  obtain ⟨c1, c⟩ := He.ba c
  obtain ⟨c2, c3⟩ := He.ba c
  refine ⟨c1, of_decide_eq_true c2, ?_⟩
  split at c3
  · rename_i n q
    have e : n = "ValueError.__init__" := of_decide_eq_true c3
    rw [q, e]
  · cases c3
theorem ec_ok {x : Str} (c : (Fc.ec x).ok K = true) : ExcC K (gA K x) ∧ XfC K (gA K x) := by
  obtain ⟨c1, c⟩ := He.ba c
  obtain ⟨c2, c⟩ := He.ba c
  obtain ⟨c3, c⟩ := He.ba c
  obtain ⟨c4, c5⟩ := He.ba c
  have T := xfB_ok c1
  exact ⟨⟨T.ga, T.gg, T.exC, T.hdC, He.eqO_ok c2, of_decide_eq_true c3, of_decide_eq_true c4, of_decide_eq_true c5⟩, T⟩
theorem kit_ok {x y : Str} {b : Bool} (c : (Fc.kit x y b).ok K = true) : PySem.W.kitOne K (.ref (gA K x)) (.ref (gA K y)) = some b := of_decide_eq_true c
theorem isi_ok {x : Str} (c : (Fc.isi x).ok K = true) (cl : Cls K (gA K x)) : C8.InsC K (gA K x) := by
  obtain ⟨c1, c⟩ := He.ba c
  obtain ⟨c2, c⟩ := He.ba c
  obtain ⟨c3, c⟩ := He.ba c
  obtain ⟨c4, c5⟩ := He.ba c
  exact ⟨cl, He.eqO_ok c1, of_decide_eq_true c2, of_decide_eq_true c3, of_decide_eq_true c4, of_decide_eq_true c5⟩
theorem same_ok {x y m : Str} (c : (Fc.same x y m).ok K = true) : mA K x m = mA K y m := of_decide_eq_true c
end
end Y
/-! Y6: what values stand for (Rp); readings step by step. -/
namespace Y
open PySem PySem.Spec PyProof.Rows L2
abbrev Ex := Evl.Ex
def ExT (H H' : Hp) : Prop := ∀ a xs, H a = some (.tup xs) → H' a = some (.tup xs)
theorem Ex.refl (H : Hp) : Ex H H := Evl.Ex.refl H
theorem Ex.trans {H H1 H2 : Hp} (a : Ex H H1) (b : Ex H1 H2) : Ex H H2 := Evl.Ex.trans a b
theorem Ex.new {H : Hp} {p : Addr} {o : HO} (h : H p = none) : Ex H (upd H p o) := Evl.Ex.new h
theorem Ex.mut {H H' : Hp} {p : Addr} {o : HO} (e : Ex H H') (h : H p = none) : Ex H (upd H' p o) := Evl.Ex.mut e h
theorem Ex.t {H H' : Hp} (e : Ex H H') : ExT H H' := fun a xs h => e a _ h
theorem ExT.refl (H : Hp) : ExT H H := fun _ _ h => h
theorem ExT.trans {H H1 H2 : Hp} (a : ExT H H1) (b : ExT H1 H2) : ExT H H2 := fun x o h => b x o (a x o h)
theorem ExT.lst {H : Hp} {p : Addr} {xs : List V} {o : HO} (h : H p = some (.lst xs)) : ExT H (upd H p o) := fun a ys e => by
  rw [upd_ne (ne_of e h (by intro z; cases z))]
  exact e
theorem ExT.ins {H : Hp} {p C dx : Addr} {fs : List (Str × V)} {o : HO} (h : H p = some (.ins C dx fs)) : ExT H (upd H p o) := fun a ys e => by
  rw [upd_ne (ne_of e h (by intro z; cases z))]
  exact e
theorem ex_none {H H' : Hp} {p : Addr} (e : Ex H H') (h : H' p = none) : H p = none := Evl.fresh_back e h
inductive A2 {α β : Type} (r : α → β → Prop) : List α → List β → Prop where
  | nil : A2 r [] []
  | cons {a b l m} : r a b → A2 r l m → A2 r (a :: l) (b :: m)
namespace A2
variable {α β : Type} {r r' : α → β → Prop}
theorem length : ∀ {l : List α} {m : List β}, A2 r l m → l.length = m.length
  | _, _, .nil => rfl
  | _, _, .cons _ t => by rw [List.length_cons, List.length_cons, t.length]
theorem mono (h : ∀ a b, r a b → r' a b) : ∀ {l : List α} {m : List β}, A2 r l m → A2 r' l m
  | _, _, .nil => .nil
  | _, _, .cons x t => .cons (h _ _ x) (t.mono h)
theorem append : ∀ {l l' : List α} {m m' : List β}, A2 r l m → A2 r l' m' → A2 r (l ++ l') (m ++ m')
  | _, _, _, _, .nil, h => h
  | _, _, _, _, .cons x t, h => .cons x (t.append h)
theorem one {a : α} {b : β} (h : r a b) : A2 r [a] [b] := .cons h .nil
theorem snoc {l : List α} {m : List β} {a : α} {b : β} (h : A2 r l m) (x : r a b) : A2 r (l ++ [a]) (m ++ [b]) := h.append (one x)
theorem get : ∀ {l : List α} {m : List β} {i : Nat} {b : β}, A2 r l m → m[i]? = some b → ∃ a, l[i]? = some a ∧ r a b
  | _, _, i, b, .nil, e => by simp at e
  | _, _, 0, b, .cons x _, e => by
    simp at e
    subst e
    exact ⟨_, rfl, x⟩
  | _, _, i + 1, b, .cons _ t, e => by
    simp at e
    obtain ⟨a, h1, h2⟩ := t.get e
    exact ⟨a, by simpa using h1, h2⟩
theorem get' : ∀ {l : List α} {m : List β} {i : Nat} {a : α}, A2 r l m → l[i]? = some a → ∃ b, m[i]? = some b ∧ r a b
  | _, _, i, b, .nil, e => by simp at e
  | _, _, 0, b, .cons x _, e => by
    simp at e
    subst e
    exact ⟨_, rfl, x⟩
  | _, _, i + 1, b, .cons _ t, e => by
    simp at e
    obtain ⟨a, h1, h2⟩ := t.get' e
    exact ⟨a, by simpa using h1, h2⟩
theorem set : ∀ {l : List α} {m : List β} {i : Nat} {a : α} {b : β}, A2 r l m → r a b → A2 r (l.set i a) (m.set i b)
  | _, _, _, _, _, .nil, _ => .nil
  | _, _, 0, _, _, .cons _ t, h => .cons h t
  | _, _, i + 1, _, _, .cons x t, h => .cons x (t.set h)
theorem take : ∀ {l : List α} {m : List β} (i : Nat), A2 r l m → A2 r (l.take i) (m.take i)
  | _, _, 0, _ => by rw [List.take_zero, List.take_zero]; exact .nil
  | _, _, i + 1, .nil => .nil
  | _, _, i + 1, .cons x t => .cons x (t.take i)
theorem drop : ∀ {l : List α} {m : List β} (i : Nat), A2 r l m → A2 r (l.drop i) (m.drop i)
  | _, _, 0, h => h
  | _, _, i + 1, .nil => .nil
  | _, _, i + 1, .cons x t => t.drop i
theorem map_eq {f : β → α} : ∀ {l : List α} {m : List β}, A2 (fun a b => a = f b) l m → l = m.map f
  | _, _, .nil => rfl
  | _, _, .cons x t => by rw [x, t.map_eq]; rfl
theorem of_map {f : β → α} : ∀ (m : List β), A2 (fun a b => a = f b) (m.map f) m
  | [] => .nil
  | _ :: m => .cons rfl (of_map m)
theorem split {l : List α} : ∀ {m m' : List β}, A2 r l (m ++ m') → ∃ l1 l2, l = l1 ++ l2 ∧ A2 r l1 m ∧ A2 r l2 m'
  | [], m', h => ⟨[], l, rfl, .nil, h⟩
  | b :: m, m', h => by
    cases h with
    | cons x t =>
      obtain ⟨l1, l2, e, h1, h2⟩ := t.split
      exact ⟨_ :: l1, l2, by rw [e]; rfl, .cons x h1, h2⟩
end A2
/-- what a value stands for -/
class Rp (α : Type) where
  R : Hp → V → α → Prop
  mono : ∀ {H H' : Hp} {v : V} {a : α}, Ex H H' → R H v a → R H' v a
/-- one that no later store changes -/
class Fz (α : Type) extends Rp α where
  fz : ∀ {H H' : Hp} {v : V} {a : α}, ExT H H' → R H v a → R H' v a
abbrev rp {α : Type} [Rp α] (H : Hp) (v : V) (a : α) : Prop := Rp.R H v a
instance : Rp Int := ⟨fun _ v a => v = .int a, fun _ h => h⟩
instance : Fz Int := ⟨fun _ h => h⟩
instance : Rp Bool := ⟨fun _ v a => v = .bl a, fun _ h => h⟩
instance : Fz Bool := ⟨fun _ h => h⟩
instance : Rp Str := ⟨fun _ v a => v = .str a, fun _ h => h⟩
instance : Fz Str := ⟨fun _ h => h⟩
instance : Rp Unit := ⟨fun _ v _ => v = .non, fun _ h => h⟩
instance : Fz Unit := ⟨fun _ h => h⟩
def optR {α : Type} [Rp α] (H : Hp) (v : V) : Option α → Prop
  | none => v = .non
  | some a => rp H v a
instance {α : Type} [Rp α] : Rp (Option α) := ⟨optR, fun {H H' v a} e h => by
  cases a with
  | none => exact h
  | some a => exact Rp.mono e (show rp H v a from h)⟩
instance {α : Type} [Fz α] : Fz (Option α) := ⟨fun {H H' v a} e h => by
  cases a with
  | none => exact h
  | some a => exact Fz.fz e (show rp H v a from h)⟩
instance {α β : Type} [Rp α] [Rp β] : Rp (α × β) := ⟨fun H v p => ∃ t x y, v = .ref t ∧ H t = some (.tup [x, y]) ∧ rp H x p.1 ∧ rp H y p.2,
  fun e ⟨t, x, y, h1, h2, h3, h4⟩ => ⟨t, x, y, h1, e _ _ h2, Rp.mono e h3, Rp.mono e h4⟩⟩
instance {α β : Type} [Fz α] [Fz β] : Fz (α × β) := ⟨fun {H H' v a} e h => by
  obtain ⟨t, x, y, h1, h2, h3, h4⟩ := h
  exact ⟨t, x, y, h1, e _ _ h2, Fz.fz e h3, Fz.fz e h4⟩⟩
instance {α : Type} [Rp α] : Rp (List α) := ⟨fun H v l => ∃ a xs, v = .ref a ∧ H a = some (.lst xs) ∧ A2 (rp H) xs l,
  fun e ⟨a, xs, h1, h2, h3⟩ => ⟨a, xs, h1, e _ _ h2, h3.mono fun _ _ z => Rp.mono e z⟩⟩
theorem rp_list {α : Type} [Rp α] {H : Hp} {a : Addr} {xs : List V} {l : List α} (h : H a = some (.lst xs)) (h2 : A2 (rp H) xs l) : rp H (.ref a) l := ⟨a, xs, rfl, h, h2⟩
theorem rp_pair {α β : Type} [Rp α] [Rp β] {H : Hp} {t : Addr} {x y : V} {a : α} {b : β} (h : H t = some (.tup [x, y])) (h1 : rp H x a) (h2 : rp H y b) : rp H (.ref t) (a, b) := ⟨t, x, y, rfl, h, h1, h2⟩
theorem A2.ex {α : Type} [Rp α] {H H' : Hp} {xs : List V} {l : List α} (e : Ex H H') (h : A2 (rp H) xs l) : A2 (rp H') xs l := h.mono fun _ _ z => Rp.mono e z
theorem A2.fz {α : Type} [Fz α] {H H' : Hp} {xs : List V} {l : List α} (e : ExT H H') (h : A2 (rp H) xs l) : A2 (rp H') xs l := h.mono fun _ _ z => Fz.fz e z
theorem sqL {K : PySem.W.Frag} {H : Hp} {a : Addr} {xs : List V} (h : H a = some (.lst xs)) : SqL K H a xs := .inl (.inl h)
theorem sqT {K : PySem.W.Frag} {H : Hp} {a : Addr} {xs : List V} (h : H a = some (.tup xs)) : SqT K H a xs := .inl (.inl h)
theorem ints_map {H : Hp} {xs : List V} {l : List Int} (h : A2 (rp H) xs l) : xs = l.map V.int := A2.map_eq (h.mono fun _ _ z => z)
theorem strs_map {H : Hp} {xs : List V} {l : List Str} (h : A2 (rp H) xs l) : xs = l.map V.str := A2.map_eq (h.mono fun _ _ z => z)
theorem bls_map {H : Hp} {xs : List V} {l : List Bool} (h : A2 (rp H) xs l) : xs = l.map V.bl := A2.map_eq (h.mono fun _ _ z => z)
/-! ### named readings -/
section
variable {X : Cx}
def rAddX : R2 := fun x y H Q => ∃ i j, x = .str i ∧ y = .str j ∧ i.length + j.length ≤ sizeLine ∧ Q (.str (i ++ j)) H
theorem op_addX : OpR X (binaryOp .Add) rAddX := op_add_str
def rLenQ (K : PySem.W.Frag) : List V → Hp → VK → Prop := fun xs H Q => ∃ p ys, xs = [.ref p] ∧ (SqL K H p ys ∨ SqT K H p ys) ∧ Q (.int ys.length) H
theorem call_lenQ : CallR X (.builtin "len") (rLenQ X.K) := call_len_seq
def rLenS : List V → Hp → VK → Prop := fun xs H Q => ∃ z, xs = [.str z] ∧ z.length ≤ sizeLine ∧ Q (.int z.length) H
theorem call_lenS : CallR X (.builtin "len") rLenS := call_len_str
def rLstOf (K : PySem.W.Frag) : List V → Hp → VK → Prop := fun xs H Q => ∃ p ys, xs = [.ref p] ∧ (SqL K H p ys ∨ SqT K H p ys) ∧ ∀ l, H l = none → Q (.ref l) (upd H l (.lst ys))
theorem call_lstOf : CallR X (.type "list") (rLstOf X.K) := call_list_of
def rStrI : List V → Hp → VK → Prop := fun xs H Q => ∃ i, xs = [.int i] ∧ i.natAbs.log2 < 1920 ∧ Q (.str (toString i)) H
theorem call_strI : CallR X (.type "str") rStrI := call_str_int
def rIntS : List V → Hp → VK → Prop := fun xs H Q => ∃ a n, xs = [.str a] ∧ PySem.intText? a = some n ∧ a.length ≤ 640 ∧ Q (.int n) H
theorem call_intS : CallR X (.type "int") rIntS := call_int_str
def rIsC (C : Addr) : List V → Hp → VK → Prop := fun xs H Q => ∃ a dx fs, xs = [.ref a, .ref C] ∧ H a = some (.ins C dx fs) ∧ Q (.bl true) H
theorem call_isCn {C : Addr} (c : C8.InsC X.K C) : CallR X (.builtin "isinstance") (rIsC C) := C8.call_isC c
def rStarts : V → List V → Hp → VK → Prop := fun x xs H Q => ∃ a b, x = .str a ∧ xs = [.str b] ∧ Q (.bl (Txt.startswith a b)) H
theorem mt_starts : MtR X "str.startswith" rStarts := mt_startswith
def rInt1 : List V → Hp → VK → Prop := fun xs H Q => (∃ i, xs = [.int i] ∧ Q (.int i) H) ∨ ∃ k, xs = [.bl k] ∧ Q (.int (if k then 1 else 0)) H
theorem call_int1' : CallR X (.type "int") rInt1 := call_int1
end
/-! ### within a comprehension the written part is named -/
section
variable {X : Cx}
theorem pg_tupK (K : PySem.W.Frag) {es : List Expr} {k : Nat} {t : TGs} {n : Nat} {pos : Pos} (hK : X.K = K) (hc : X.calm = true) (h : PGs X es t) (hn : (assignEach es X.env).length = n := by rfl) (hst : (assignEach es X.env).findIdx? (·.1) = none := by rfl) : PG X (.Tuple es k pos) (gTup K n t) := hK ▸ pg_tup hc h hn hst
theorem call_lenQK (K : PySem.W.Frag) (hK : X.K = K) : CallR X (.builtin "len") (rLenQ K) := hK ▸ call_lenQ
theorem call_lstOfK (K : PySem.W.Frag) (hK : X.K = K) : CallR X (.type "list") (rLstOf K) := hK ▸ call_lstOf
theorem ix_listK (K : PySem.W.Frag) (hK : X.K = K) : IxR X (rIxL K) := hK ▸ ix_list
theorem ix_tupK (K : PySem.W.Frag) (hK : X.K = K) : IxR X (rIxT K) := hK ▸ ix_tup
theorem sl_listK (K : PySem.W.Frag) (hK : X.K = K) : SlR X (rSlL K) := hK ▸ sl_list
theorem call_isiK (K : PySem.W.Frag) (hK : X.K = K) : CallR X (.builtin "isinstance") (rIsi K) := hK ▸ call_isi
theorem call_isYK (K : PySem.W.Frag) (hK : X.K = K) {a : Addr} {oe : Obj} {cls : Value} {d : Option Addr} {ch : Ch} (hz : Zy cls d ch oe) (hf : ∃ fv, oe.data = .fields fv) (hp : (a, oe) ∈ X.pn) : CallR X (.builtin "isinstance") (rIsY K a cls d) := hK ▸ call_isY hz hf hp
theorem op_in_seqK (K : PySem.W.Frag) (hK : X.K = K) : OpR X (compareOp .In) (rIn K false) := hK ▸ op_in_seq
end
/-! ### steps -/
section
variable {K : PySem.W.Frag} {σ σ' : L2.St} {H H' : Hp} {Q : VK} {i : Nat} {v x y z : V} {ta tb te tc : TE} {t : TT} {u : TT} {ts us : TS} {D : Ends} {r r' : R2} {g : TG} {W : WX}
theorem w_var (h : σ[i]? = some (some v)) (q : Q v H) : tVar i σ H Q := ⟨v, h, q⟩
theorem w_c (q : Q v H) : tC v σ H Q := q
theorem w_op (h : ta σ H fun x H1 => tb σ H1 fun y H2 => r x y H2 Q) : tOp r ta tb σ H Q := h
theorem w_un {ru : V → Hp → VK → Prop} (h : ta σ H fun x H1 => ru x H1 Q) : tUn ru ta σ H Q := h
theorem w_test {Q : Bool → Hp → Prop} (h : te σ H fun x H' => ∃ k, x = .bl k ∧ Q k H') : tTest te σ H Q := h
theorem w_bl {b : Bool} {P : Bool → Prop} (h : P b) : ∃ k, V.bl b = .bl k ∧ P k := ⟨b, rfl, h⟩
theorem w_tB {Q : Bool → Hp → Prop} (h : te σ H fun x H' => ∃ k, x = .bl k ∧ Q k H') : tB te σ H Q := h
theorem w_not {Q : Bool → Hp → Prop} (h : t σ H fun c H1 => Q (!c) H1) : tNot t σ H Q := h
theorem w_and {Q : Bool → Hp → Prop} (h : t σ H fun c H1 => if c = true then u σ H1 Q else Q false H1) : tAnd t u σ H Q := h
theorem w_or {Q : Bool → Hp → Prop} (h : t σ H fun c H1 => if c = true then Q true H1 else u σ H1 Q) : tOr t u σ H Q := h
theorem w_andV (h : ta σ H fun x H1 => ∃ c, x = .bl c ∧ if c = true then tb σ H1 Q else Q (.bl false) H1) : tAndV ta tb σ H Q := h
theorem w_orV (h : ta σ H fun x H1 => ∃ c, x = .bl c ∧ if c = true then Q (.bl true) H1 else tb σ H1 Q) : tOrV ta tb σ H Q := h
theorem w_notV (h : ta σ H fun x H1 => ∃ c, x = .bl c ∧ Q (.bl (!c)) H1) : tNotV ta σ H Q := h
theorem w_ife (h : t σ H fun c H1 => if c = true then ta σ H1 Q else tb σ H1 Q) : tIf t ta tb σ H Q := h
theorem w_seq (h : ts { D with nx := us D } σ H) : tSeq ts us D σ H := h
theorem w_yes {Q : Bool → Hp → Prop} (h : Q true H) : tYes σ H Q := h
theorem w_cut (Mid : L2.St → Hp → Prop) (h1 : ts { D with nx := Mid } σ H) (h2 : ∀ σ' H', Mid σ' H' → us D σ' H') : C8.tCut ts us D σ H := ⟨Mid, h1, h2⟩
theorem w_next (h : D.nx σ H) : tNext D σ H := h
theorem w_brk (h : D.bk σ H) : tBreak D σ H := h
theorem w_cont (h : D.ct σ H) : tCont D σ H := h
theorem w_drop (h : te σ H fun _ H1 => D.nx σ H1) : tDrop te D σ H := h
theorem w_ret (h : te σ H D.rt) : tRet te D σ H := h
theorem w_retN (h : D.rt .non H) : tRetN D σ H := h
theorem w_if (h : t σ H fun b H1 => if b = true then ts D σ H1 else us D σ H1) : tIfS t ts us D σ H := h
theorem w_asg (h : te σ H fun x H1 => g x σ H1 D.nx) : tAsg te g D σ H := h
theorem w_name {Q : L2.St → Hp → Prop} (h : Q (σ.set i (some v)) H) : gName i v σ H Q := h
theorem w_aug {ti : TIp} {x : V} (h : σ[i]? = some (some x)) (q : te σ H fun y H1 => ti x y H1 fun z H2 => D.nx (σ.set i (some z)) H2) : tAug i te ti D σ H := ⟨x, h, q⟩
theorem w_nil {Q : List V → Hp → Prop} (h : Q [] H) : tNil σ H Q := h
theorem w_cons {tr : TA} {Q : List V → Hp → Prop} (h : ta σ H fun x H1 => tr σ H1 fun xs H2 => Q (x :: xs) H2) : tCons ta tr σ H Q := h
theorem w_par {i j : Nat} {ta : TA} (h : ta σ H fun vs H1 => ∃ v w, vs = [v, w] ∧ D.nx ((σ.set i (some v)).set j (some w)) H1) : tPar i j ta D σ H := h
theorem w_par2 {v w : V} {P : V → V → Prop} (h : P v w) : ∃ v' w', [v, w] = [v', w'] ∧ P v' w' := ⟨v, w, rfl, h⟩
theorem w_cb {rc : List V → Hp → VK → Prop} {tr : TA} (h : tr σ H fun vs H1 => rc vs H1 Q) : tCB rc tr σ H Q := h
theorem w_call {sp : Sp} {dvs : List V} {tr : TA} (h : tr σ H fun vs H1 => sp (vs ++ dvs) H1 Q (WE W σ)) : tCallY sp dvs W tr σ H Q := h
def newT (xs : List V) (Q : VK) (H : Hp) : Prop := xs.length ≤ sizeLine ∧ ∀ p, H p = none → Q (.ref p) (upd H p (.tup xs))
def newL (xs : List V) (Q : VK) (H : Hp) : Prop := xs.length ≤ sizeLine ∧ ∀ p, H p = none → Q (.ref p) (upd H p (.lst xs))
theorem w_tup {tr : TA} (h : tr σ H fun xs H1 => newT xs Q H1) : tTup tr σ H Q := h
theorem w_lst {tr : TA} (h : tr σ H fun xs H1 => newL xs Q H1) : tLst tr σ H Q := h
theorem nT {xs : List V} (h : xs.length ≤ 100000) (q : ∀ p H1, Ex H H1 → H p = none → H1 = upd H p (.tup xs) → H1 p = some (.tup xs) → Q (.ref p) H1) : newT xs Q H := ⟨Nat.le_trans h (by decide), fun p hp => q p _ (Ex.new hp) hp rfl upd_same⟩
theorem nL {xs : List V} (h : xs.length ≤ 100000) (q : ∀ p H1, Ex H H1 → H p = none → H1 = upd H p (.lst xs) → H1 p = some (.lst xs) → Q (.ref p) H1) : newL xs Q H := ⟨Nat.le_trans h (by decide), fun p hp => q p _ (Ex.new hp) hp rfl upd_same⟩
theorem w_fld {f : Str} (h : ta σ H fun x H1 => ∃ a C dx fs v, x = .ref a ∧ H1 a = some (.ins C dx fs) ∧ Cls K C ∧ NoAttr K C f ∧ fs.lookup f = some v ∧ Q v H1) : tFld K ta f σ H Q := h
theorem w_sl {rs : V → Option Int → Option Int → Hp → VK → Prop} {tl th : TO} (h : te σ H fun x H1 => tl σ H1 fun l H2 => th σ H2 fun u H3 => rs x l u H3 Q) : tSl rs te tl th σ H Q := h
theorem w_nopart {Q : Option Int → Hp → Prop} (h : Q none H) : tNoPart σ H Q := h
theorem w_part {Q : Option Int → Hp → Prop} (h : te σ H fun x H1 => ∃ i, x = .int i ∧ Q (some i) H1) : tPart te σ H Q := h
theorem w_i {i : Int} {P : Int → Prop} (h : P i) : ∃ j, V.int i = .int j ∧ P j := ⟨i, rfl, h⟩
theorem w_bm {T : String} {rm : V → List V → Hp → VK → Prop} {tr : TA} (h : te σ H fun x H1 => tyV K T x H1 ∧ tr σ H1 fun xs H2 => rm x xs H2 Q) : tBM K T rm te tr σ H Q := h
theorem w_m1 {rm : V → List V → Hp → VK → Prop} (h : te σ H fun x H1 => (∃ a, x = .str a) ∧ ta σ H1 fun y H2 => rm x [y] H2 Q) : tM1 rm te ta σ H Q := h
theorem w_ve {ta : TA} (h : ta σ H fun vs H1 => ∃ (a C : Addr) (ws : List V), vs = .ref a :: ws ∧ ws.length ≤ 1000 ∧ OexC K C ∧ H1 a = some (exo a C none) ∧ Q .non H1) : tVeI K ta σ H Q := h
theorem w_xf {a C : Addr} {cls : Value} {d : Option Addr} {f : Str} (h : te σ H fun x H1 => x = .ref a ∧ cls = .ref C ∧ ∃ (dd : Addr) (fs : List (Str × V)) (v : V), d = some dd ∧ H1 dd = some (.xd fs) ∧ fs.lookup f = some v ∧ Q v H1) : tXf a cls d C f te σ H Q := h
theorem w_ost {f : Str} {to te : TE} (h : te σ H fun y H1 => to σ H1 fun x H2 => ∃ a C : Addr, x = .ref a ∧ OexC K C ∧ PySem.W.findIn K (.ref C) f = some none ∧ ((H2 a = some (exo a C none) ∧ ∀ dx, H2 dx = none → dx ≠ a → D.nx σ (upd (upd H2 dx (exd dx [(f, y)])) a (exo a C (some dx)))) ∨
    ∃ (dx : Addr) (fs : List (Str × V)), H2 a = some (exo a C (some dx)) ∧ H2 dx = some (exd dx fs) ∧ fs.length ≤ 900 ∧ D.nx σ (upd H2 dx (exd dx ((f, y) :: fs))))) : tOst K f to te D σ H := h
theorem w_sfld {ta tv : TE} {f : Str} (h : tv σ H fun y H1 => ta σ H1 fun x H2 => ∃ a C dx fs, x = .ref a ∧ H2 a = some (.ins C dx fs) ∧ Cls K C ∧ NoAttr K C f ∧ fs.length < 1000 ∧ D.nx σ (upd H2 a (.ins C dx (putF f y fs)))) : sFld K ta tv f D σ H := h
theorem w_meth {C : Addr} {m : Str} {sp : Sp} {dvs : List V} {tr : TA} (h : ta σ H fun x H1 => ∃ a dx fs, x = .ref a ∧ H1 a = some (.ins C dx fs) ∧ fs.lookup m = none ∧ tr σ H1 fun vs H2 => sp (x :: (vs ++ dvs)) H2 Q (WE W σ)) : tMethY C m sp dvs W ta tr σ H Q := h
theorem w_make {C : Addr} {sp : Sp} {dvs : List V} {tr : TA} (h : tr σ H fun vs H1 => ∀ x dx, H1 x = none → H1 dx = none → dx ≠ x → sp (.ref x :: (vs ++ dvs)) (upd (upd H1 dx (.own x)) x (.ins C dx [])) (fun v H2 => v = .non ∧ Q (.ref x) H2) (WE W σ)) : tMakeY C sp dvs W tr σ H Q := h
theorem w_chain {tc : TE} (h : ta σ H fun x H1 => tb σ H1 fun y H2 => r x y H2 fun z H3 => ∃ k, z = .bl k ∧ if k = true then tc σ H3 fun w' H4 => r' y w' H4 Q else Q (.bl false) H3) : tChain r r' ta tb tc σ H Q := h
theorem w_strand {z : Str} {P : Prop} (h : P) : (∃ a, V.str z = .str a) ∧ P := ⟨⟨z, rfl⟩, h⟩
/-! what stands behind -/
theorem r_I0 {g : Int → Int → V} {i j : Int} (q : Q (g i j) H) : rI0 g (.int i) (.int j) H Q := ⟨i, j, rfl, rfl, q⟩
theorem r_I {C : Int → Int → Prop} {g : Int → Int → V} {i j : Int} (c : C i j) (q : Q (g i j) H) : rI C g (.int i) (.int j) H Q := ⟨i, j, rfl, rfl, c, q⟩
theorem r_U {g : Int → V} {i : Int} (q : Q (g i) H) : rU g (.int i) H Q := ⟨i, rfl, q⟩
theorem r_addS {a b : Str} (h : a.length + b.length ≤ sizeLine) (q : Q (.str (a ++ b)) H) : rAddX (.str a) (.str b) H Q := ⟨a, b, rfl, rfl, h, q⟩
theorem deI (i j : Int) : decide (V.int i = V.int j) = decide (i = j) := by
  by_cases h : i = j
  · subst h
    rw [decide_eq_true rfl, decide_eq_true rfl]
  · rw [decide_eq_false h, decide_eq_false (fun z => h (by cases z; rfl))]
theorem deS (i j : Str) : decide (V.str i = V.str j) = decide (i = j) := by
  by_cases h : i = j
  · subst h
    rw [decide_eq_true rfl, decide_eq_true rfl]
  · rw [decide_eq_false h, decide_eq_false (fun z => h (by cases z; rfl))]
theorem r_eqI {i j : Int} (q : Q (.bl (decide (i = j))) H) : rEq (.int i) (.int j) H Q := ⟨rfl, by rw [deI]; exact q⟩
theorem r_neI {i j : Int} (q : Q (.bl (!decide (i = j))) H) : rNe (.int i) (.int j) H Q := ⟨rfl, by rw [deI]; exact q⟩
theorem r_eqS {i j : Str} (q : Q (.bl (decide (i = j))) H) : rEq (.str i) (.str j) H Q := ⟨rfl, by rw [deS]; exact q⟩
theorem r_neS {i j : Str} (q : Q (.bl (!decide (i = j))) H) : rNe (.str i) (.str j) H Q := ⟨rfl, by rw [deS]; exact q⟩
theorem deO {H : Hp} {x y : V} {a b : Option Int} (h1 : rp H x a) (h2 : rp H y b) : scal x y = true ∧ decide (x = y) = decide (a = b) := by
  cases a with
  | none =>
    have e1 : x = .non := h1
    subst e1
    cases b with
    | none =>
      have e2 : y = .non := h2
      subst e2
      exact ⟨rfl, by rw [decide_eq_true rfl, decide_eq_true rfl]⟩
    | some b =>
      have e2 : y = .int b := h2
      subst e2
      exact ⟨rfl, by rw [decide_eq_false (fun z => by cases z), decide_eq_false (fun z => by cases z)]⟩
  | some a =>
    have e1 : x = .int a := h1
    subst e1
    cases b with
    | none =>
      have e2 : y = .non := h2
      subst e2
      exact ⟨rfl, by rw [decide_eq_false (fun z => by cases z), decide_eq_false (fun z => by cases z)]⟩
    | some b =>
      have e2 : y = .int b := h2
      subst e2
      refine ⟨rfl, ?_⟩
      rw [deI]
      by_cases h : a = b
      · subst h
        rw [decide_eq_true rfl, decide_eq_true rfl]
      · rw [decide_eq_false h, decide_eq_false (fun z => h (by cases z; rfl))]
theorem r_eqO {H' : Hp} {a b : Option Int} (h1 : rp H' x a) (h2 : rp H' y b) (q : Q (.bl (decide (a = b))) H) : rEq x y H Q := ⟨(deO h1 h2).1, by rw [(deO h1 h2).2]; exact q⟩
theorem r_neO {H' : Hp} {a b : Option Int} (h1 : rp H' x a) (h2 : rp H' y b) (q : Q (.bl (!decide (a = b))) H) : rNe x y H Q := ⟨(deO h1 h2).1, by rw [(deO h1 h2).2]; exact q⟩
theorem r_isN {b : Bool} (hb : decide (x = V.non) = b) (q : Q (.bl b) H) : rIsN x .non H Q := ⟨rfl, by rw [hb]; exact q⟩
theorem r_notN {b : Bool} (hb : decide (x = V.non) = b) (q : Q (.bl (!b)) H) : rNotN x .non H Q := ⟨rfl, by rw [hb]; exact q⟩
theorem isN_opt {H' : Hp} {a : Option Int} (h : rp H' x a) : decide (x = V.non) = a.isNone := by
  cases a with
  | none =>
    have e1 : x = .non := h
    subst e1
    exact decide_eq_true rfl
  | some a =>
    have e1 : x = .int a := h
    subst e1
    exact decide_eq_false fun z => by cases z
theorem r_ixL {p : Addr} {xs : List V} {i : Int} (h : SqL K H p xs) (ha : atI xs i = some v) (q : Q v H) : rIxL K (.ref p) (.int i) H Q := ⟨p, xs, i, v, rfl, rfl, h, ha, q⟩
theorem r_ixT {p : Addr} {xs : List V} {i : Int} (h : SqT K H p xs) (ha : atI xs i = some v) (q : Q v H) : rIxT K (.ref p) (.int i) H Q := ⟨p, xs, i, v, rfl, rfl, h, ha, q⟩
theorem r_ixS {z : Str} {i : Int} {c : Nat} (h : z.length ≤ sizeLine) (ha : atI z.cps.toList i = some c) (q : Q (.str ⟨#[c]⟩) H) : rIxS (.str z) (.int i) H Q := ⟨z, i, c, rfl, rfl, h, ha, q⟩
theorem r_slL {p : Addr} {xs : List V} {lo hi : Option Int} (h : SqL K H p xs) (q : ∀ p', H p' = none → Q (.ref p') (upd H p' (.lst (cutV xs lo hi)))) : rSlL K (.ref p) lo hi H Q := ⟨p, xs, rfl, h, q⟩
theorem r_slX {z : Str} {lo hi : Option Int} (h : z.length ≤ sizeLine) (q : Q (.str (Txt.slice z lo hi)) H) : C8.rSlX (.str z) lo hi H Q := ⟨z, rfl, h, q⟩
theorem r_lenL {p : Addr} {xs : List V} (h : SqL K H p xs) (q : Q (.int xs.length) H) : rLenQ K [.ref p] H Q := ⟨p, xs, rfl, .inl h, q⟩
theorem r_lenT {p : Addr} {xs : List V} (h : SqT K H p xs) (q : Q (.int xs.length) H) : rLenQ K [.ref p] H Q := ⟨p, xs, rfl, .inr h, q⟩
theorem r_lenS {z : Str} (h : z.length ≤ sizeLine) (q : Q (.int z.length) H) : rLenS [.str z] H Q := ⟨z, rfl, h, q⟩
theorem r_lstL {p : Addr} {xs : List V} (h : SqL K H p xs) (q : ∀ l, H l = none → Q (.ref l) (upd H l (.lst xs))) : rLstOf K [.ref p] H Q := ⟨p, xs, rfl, .inl h, q⟩
theorem r_strI {i : Int} (h : i.natAbs.log2 < 1920) (q : Q (.str (toString i)) H) : rStrI [.int i] H Q := ⟨i, rfl, h, q⟩
theorem r_intS {a : Str} {n : Int} (h : PySem.intText? a = some n) (h2 : a.length ≤ 640) (q : Q (.int n) H) : rIntS [.str a] H Q := ⟨a, n, rfl, h, h2, q⟩
theorem r_intB {b : Bool} (q : Q (.int (if b then 1 else 0)) H) : rInt1 [.bl b] H Q := .inr ⟨b, rfl, q⟩
theorem r_intI {i : Int} (q : Q (.int i) H) : rInt1 [.int i] H Q := .inl ⟨i, rfl, q⟩
theorem r_starts {a b : Str} (q : Q (.bl (Txt.startswith a b)) H) : rStarts (.str a) [.str b] H Q := ⟨a, b, rfl, rfl, q⟩
theorem r_isC {C a dx : Addr} {fs : List (Str × V)} (h : H a = some (.ins C dx fs)) (q : Q (.bl true) H) : rIsC C [.ref a, .ref C] H Q := ⟨a, dx, fs, rfl, h, q⟩
theorem r_cat {l b : Addr} {xs zs : List V} (h1 : H l = some (.lst xs)) (h2 : H b = some (.lst zs)) (h : xs.length + zs.length ≤ sizeLine) (q : ∀ p, H p = none → Q (.ref p) (upd H p (.lst (xs ++ zs)))) : rCat (.ref l) (.ref b) H Q := ⟨l, b, xs, zs, rfl, rfl, h1, h2, h, q⟩
theorem r_append {l : Addr} {xs : List V} (h : H l = some (.lst xs)) (h2 : xs.length < sizeLine) (q : Q .non (upd H l (.lst (xs ++ [y])))) : rAppend (.ref l) [y] H Q := ⟨l, xs, y, rfl, rfl, h, h2, q⟩
theorem r_appA {l : Addr} {xs : List V} (h : H l = some (.lst xs)) (h2 : xs.length < sizeLine) (q : ∀ H', H' l = some (.lst (xs ++ [y])) → (∀ H0, Ex H0 H → H0 l = none → Ex H0 H') → ExT H H' → (∀ b o, b ≠ l → H b = some o → H' b = some o) → Q .non H') : rAppend (.ref l) [y] H Q :=
  ⟨l, xs, y, rfl, rfl, h, h2, q _ upd_same (fun _ e n => Ex.mut e n) (ExT.lst h) fun b o n e => by rw [upd_ne n]; exact e⟩
theorem r_catA {l b : Addr} {xs zs : List V} (h1 : H l = some (.lst xs)) (h2 : H b = some (.lst zs)) (h : xs.length + zs.length ≤ sizeLine) (q : ∀ p H', Ex H H' → H p = none → H' p = some (.lst (xs ++ zs)) → Q (.ref p) H') : rCat (.ref l) (.ref b) H Q := ⟨l, b, xs, zs, rfl, rfl, h1, h2, h, fun p hp => q p _ (Ex.new hp) hp upd_same⟩
theorem r_lstA {p : Addr} {xs : List V} (h : SqL K H p xs) (q : ∀ p H', Ex H H' → H p = none → H' p = some (.lst xs) → Q (.ref p) H') : rLstOf K [.ref p] H Q := ⟨p, xs, rfl, .inl h, fun p hp => q p _ (Ex.new hp) hp upd_same⟩
theorem r_slA {p : Addr} {xs : List V} {lo hi : Option Int} (h : SqL K H p xs) (q : ∀ p H', Ex H H' → H p = none → H' p = some (.lst (cutV xs lo hi)) → Q (.ref p) H') : rSlL K (.ref p) lo hi H Q := ⟨p, xs, rfl, h, fun p hp => q p _ (Ex.new hp) hp upd_same⟩
theorem r_setL {p : Addr} {xs : List V} {k : Int} {j : Nat} {Q : Hp → Prop} (h : H p = some (.lst xs)) (h2 : ixN xs.length k = some j) (q : Q (upd H p (.lst (xs.set j v)))) : rSetL (.ref p) (.int k) v H Q := ⟨p, xs, k, j, rfl, rfl, h, h2, q⟩
theorem r_inS {c : Nat} {z : Str} (q : Q (.bl (decide (c ∈ z.cps.toList))) H) : rInS (.str ⟨#[c]⟩) (.str z) H Q := ⟨c, z, rfl, rfl, q⟩
theorem r_all {p : Addr} {bs : List Bool} (h : SqL K H p (bs.map V.bl)) (q : Q (.bl (bs.all id)) H) : rAll K [.ref p] H Q := ⟨p, bs, rfl, h, q⟩
theorem w_gtup {n : Nat} {tg : TGs} {t : Addr} {xs : List V} {Q : L2.St → Hp → Prop} (h : SqT K H t xs) (hn : xs.length = n) (q : tg xs σ H Q) : gTup K n tg (.ref t) σ H Q := ⟨t, xs, rfl, h, hn, q⟩
theorem w_gnil {Q : L2.St → Hp → Prop} (q : Q σ H) : gNil [] σ H Q := ⟨rfl, q⟩
theorem w_gcons {tg : TG} {ug : TGs} {vs : List V} {Q : L2.St → Hp → Prop} (q : tg v σ H fun σ' H' => ug vs σ' H' Q) : gCons tg ug (v :: vs) σ H Q := ⟨v, vs, rfl, q⟩
theorem w_gsub {to ti : TE} {tset : TSet} {Q : L2.St → Hp → Prop} (h : to σ H fun o H1 => ti σ H1 fun i H2 => tset o i v H2 fun H3 => Q σ H3) : gSub to ti tset v σ H Q := h
theorem le5 {n : Nat} (h : Nat.ble n 100000 = true := by rfl) : n ≤ 100000 := Nat.le_of_ble_eq_true h
theorem w_isY {a D : Addr} {c : V} {cls cv : Value} {d : Option Addr} {b : Bool} (e0 : cls = .ref D) (hc : ∀ u, RelV c u → u = cv) (ec : ExcC K D) (dic : Dic H d) (e : PySem.W.kitOne K (.ref D) cv = some b) (q : Q (.bl b) H) : rIsY K a cls d [.ref a, c] H Q := ⟨D, c, cv, b, e0, rfl, hc, ec, dic, e, q⟩
theorem w_isi {x c : V} {t u : Value} {b : Bool} (k : ClsV c u) (ty : TyX K H x t) (e : PySem.W.kitOne K t u = some b) (q : Q (.bl b) H) : rIsi K [x, c] H Q := ⟨x, c, t, u, b, rfl, k, ty, e, q⟩
/-- a new object -/
theorem w_new {o : HO} {P : Prop} (h0 : P) (q : ∀ p H1, Ex H H1 → H p = none → H1 = upd H p o → H1 p = some o → Q (.ref p) H1) : P ∧ ∀ p, H p = none → Q (.ref p) (upd H p o) := ⟨h0, fun p hp => q p _ (Ex.new hp) hp rfl upd_same⟩
theorem w_new1 {o : HO} (q : ∀ p H1, Ex H H1 → H p = none → H1 = upd H p o → H1 p = some o → Q (.ref p) H1) : ∀ p, H p = none → Q (.ref p) (upd H p o) := fun p hp => q p _ (Ex.new hp) hp rfl upd_same
end
end Y
/-! Y7: loops over what values stand for; bounds. -/
namespace Y
open PySem PySem.Spec PyProof.Rows L2
section
variable {K : PySem.W.Frag} {σ : L2.St} {H : Hp} {Q : VK} {g : TG} {tl : TE} {tb : TS} {D : Ends} {W : WX} {α β : Type}
theorem take_of {l : List α} {i : Nat} {a : α} (h : l[i]? = some a) : l = l.take i ++ a :: l.drop (i + 1) ∧ l.take (i + 1) = l.take i ++ [a] := by
  have e1 : l.take (i + 1) = l.take i ++ [a] := by rw [List.take_add_one, h] <;> rfl
  refine ⟨?_, e1⟩
  have e3 := (List.take_append_drop (i + 1) l).symm
  rw [e1, List.append_assoc] at e3
  exact e3
/-- a for over the list that x is | over n numbers -/
def forG (K : PySem.W.Frag) (g : TG) (tb : TS) (D : Ends) (σ : L2.St) (x : V) (H1 : Hp) : Prop := ∃ a, x = .ref a ∧ (∃ xs, SqL K H1 a xs) ∧ ∃ W : Nat → Nat → L2.St → Hp → Prop, (∃ m, W 0 m σ H1) ∧ ∀ i m σ H, W i m σ H →
  ((Itl K a).stop i H ∧ D.nx σ H) ∨ ((Itl K a).go i H ∧ ∃ N : L2.St → Hp → Prop, (∀ σ' H', N σ' H' → ∃ m', m' < m ∧ W (i + 1) m' σ' H') ∧ ∀ x H', (Itl K a).yld i H x H' → g x σ H' fun σ2 H2 => tb { D with nx := N, ct := N, bk := D.nx } σ2 H2)
theorem w_forl (h : tl σ H fun x H1 => forG K g tb D σ x H1) : tFor (iList K tl) g tb D σ H := h
def forR (g : TG) (tb : TS) (D : Ends) (σ : L2.St) (vs : List V) (H1 : Hp) : Prop := ∃ j : Int, vs = [.int j] ∧ -(2 ^ 62) ≤ j ∧ j < 2 ^ 62 ∧ ∃ W : Nat → Nat → L2.St → Hp → Prop, (∃ m, W 0 m σ H1) ∧ ∀ i m σ H, W i m σ H →
  ((Itr 0 j.toNat).stop i H ∧ D.nx σ H) ∨ ((Itr 0 j.toNat).go i H ∧ ∃ N : L2.St → Hp → Prop, (∀ σ' H', N σ' H' → ∃ m', m' < m ∧ W (i + 1) m' σ' H') ∧ ∀ x H', (Itr 0 j.toNat).yld i H x H' → g x σ H' fun σ2 H2 => tb { D with nx := N, ct := N, bk := D.nx } σ2 H2)
theorem w_forr {ta : TA} (h : ta σ H fun vs H1 => forR g tb D σ vs H1) : tFor (iRng1 ta) g tb D σ H := h
/-- P: of the items done -/
theorem for_rp [Rp α] {l : List α} {x : V} {H0 : Hp} (hx : rp H0 x l) (P : List α → L2.St → Hp → Prop) (p0 : P [] σ H) (pe : ∀ pre σ' H', P pre σ' H' → Ex H0 H')
    (ps : ∀ pre a post x σ' H', l = pre ++ a :: post → P pre σ' H' → rp H' x a → g x σ' H' fun σ2 H2 => tb { D with nx := P (pre ++ [a]), ct := P (pre ++ [a]), bk := D.nx } σ2 H2) (pd : ∀ σ' H', P l σ' H' → D.nx σ' H') : forG K g tb D σ x H := by
  obtain ⟨a, xs, rfl, ha, hxs⟩ := hx
  have hlen := hxs.length
  refine ⟨a, rfl, ⟨xs, sqL (pe _ _ _ p0 _ _ ha)⟩, for_list (xs := xs) (fun i σ' H' => P (l.take i) σ' H') p0 (fun i σ' H' _ p => sqL (pe _ _ _ p _ _ ha)) (fun i x σ' H' hx p => ?_) (fun σ' H' p => pd _ _ ?_)⟩
  · obtain ⟨b, hb, r⟩ := hxs.get' hx
    obtain ⟨e1, e2⟩ := take_of hb
    rw [e2]
    exact ps _ b _ x σ' H' e1 p (Rp.mono (pe _ _ _ p) r)
  · rw [hlen, List.take_length] at p
    exact p
theorem for_rng {n : Nat} (hn : n < 2 ^ 62) (P : Nat → L2.St → Hp → Prop) (p0 : P 0 σ H) (ps : ∀ i σ' H', i < n → P i σ' H' → g (.int i) σ' H' fun σ2 H2 => tb { D with nx := P (i + 1), ct := P (i + 1), bk := D.nx } σ2 H2)
    (pd : ∀ σ' H', P n σ' H' → D.nx σ' H') {j : Int} (e : j = n) : forR g tb D σ [.int j] H := by
  subst e
  refine ⟨n, rfl, by omega, by omega, ?_⟩
  have e : (n : Int).toNat = n := by omega
  rw [e]
  refine for_range P p0 (fun i σ' H' hi p => ?_) pd
  rw [show (0 : Int) + (i : Int) = i by omega]
  exact ps i σ' H' hi p
/-- a comprehension over the list that x is -/
def lcG (K : PySem.W.Frag) (g : TG) (tt : TT) (te : TE) (vs : List Nat) (σ : L2.St) (Q : VK) (x : V) (H1 : Hp) : Prop := ∃ a, x = .ref a ∧ (∃ xs, SqL K H1 a xs) ∧ ∀ D, H1 D = none → ∃ W : Nat → Nat → Hp → Prop, (∃ m, W 0 m (upd H1 D (.lst []))) ∧ ∀ i m H, W i m H →
  ((Itl K a).stop i H ∧ Q (.ref D) H) ∨ ((Itl K a).go i H ∧ ∃ Nx : Hp → Prop, (∀ H', Nx H' → ∃ m', m' < m ∧ W (i + 1) m' H') ∧ ∀ x H', (Itl K a).yld i H x H' → g x (wipe σ vs) H' fun σ2 H2 => wipe σ2 vs = wipe σ vs ∧ tt σ2 H2 fun b H3 =>
    if b = true then te σ2 H3 fun y H4 => ∃ acc, H4 D = some (.lst acc) ∧ acc.length < sizeLine ∧ Nx (upd H4 D (.lst (acc ++ [y]))) else Nx H3)
theorem w_lcl {tt : XK → TT} {te : XK → TE} {vs : List Nat} (h : tl σ H fun x H1 => lcG K g (tt (WE W σ)) (te (WE W σ)) vs σ Q x H1) : tLcY W (iList K tl) g tt te vs σ H Q := h
/-- one over the signs of the text x -/
def lcS (g : TG) (tt : TT) (te : TE) (vs : List Nat) (σ : L2.St) (Q : VK) (v : V) (H1 : Hp) : Prop := ∃ x, v = .str x ∧ ∀ D, H1 D = none → ∃ W : Nat → Nat → Hp → Prop, (∃ m, W 0 m (upd H1 D (.lst []))) ∧ ∀ i m H, W i m H →
  ((Its x).stop i H ∧ Q (.ref D) H) ∨ ((Its x).go i H ∧ ∃ Nx : Hp → Prop, (∀ H', Nx H' → ∃ m', m' < m ∧ W (i + 1) m' H') ∧ ∀ y H', (Its x).yld i H y H' → g y (wipe σ vs) H' fun σ2 H2 => wipe σ2 vs = wipe σ vs ∧ tt σ2 H2 fun b H3 =>
    if b = true then te σ2 H3 fun y H4 => ∃ acc, H4 D = some (.lst acc) ∧ acc.length < sizeLine ∧ Nx (upd H4 D (.lst (acc ++ [y]))) else Nx H3)
theorem w_lcs {tt : XK → TT} {te : XK → TE} {vs : List Nat} (h : tl σ H fun x H1 => lcS g (tt (WE W σ)) (te (WE W σ)) vs σ Q x H1) : tLcY W (iStr tl) g tt te vs σ H Q := h
theorem lc_rp [Rp α] [Fz β] {l : List α} {x : V} {tt : TT} {te : TE} {vs : List Nat} (hx : rp H x l) (hll : l.length ≤ 100000) (P : List α → List β → Prop) (p0 : P [] [])
    (ps : ∀ pre a post bs x H2 (Kt : VK) (Kf : Hp → Prop), l = pre ++ a :: post → P pre bs → Ex H H2 → rp H2 x a → (∀ y H5 (b : β), Ex H2 H5 → rp H5 y b → P (pre ++ [a]) (bs ++ [b]) → Kt y H5) → (∀ H5, Ex H2 H5 → P (pre ++ [a]) bs → Kf H5) →
      g x (wipe σ vs) H2 fun σ2 H3 => wipe σ2 vs = wipe σ vs ∧ tt σ2 H3 fun b H4 => if b = true then te σ2 H4 Kt else Kf H4)
    (pd : ∀ p H' bs, Ex H H' → H p = none → rp H' (.ref p) bs → P l bs → Q (.ref p) H') : lcG K g tt te vs σ Q x H := by
  obtain ⟨a, xs, rfl, ha, hxs⟩ := hx
  have hlen := hxs.length
  refine ⟨a, rfl, ⟨xs, sqL ha⟩, fun D hD => lc_list (xs := xs) (fun i H' => Ex H H' ∧ ∃ ys bs, H' D = some (.lst ys) ∧ A2 (rp H') ys bs ∧ P (l.take i) bs ∧ ys.length ≤ i) ?_ (fun i H' _ p => sqL (p.1 _ _ ha)) (fun i x H' hx p => ?_) (fun H' p => ?_)⟩
  · exact ⟨Ex.new hD, [], [], upd_same, .nil, p0, Nat.le_refl _⟩
  · obtain ⟨b, hb, r⟩ := hxs.get' hx
    obtain ⟨e1, e2⟩ := take_of hb
    rw [e2]
    obtain ⟨pe, ys, bs, hd, hys, hP, hyl⟩ := p
    have hi : i < xs.length := (List.getElem?_eq_some_iff.mp hx).1
    refine ps _ b _ bs x H' _ _ e1 hP pe (Rp.mono pe r) (fun y H5 b' e5 ry hP' => ?_) (fun H4 e4 hP' => ?_)
    · have hd5 := e5 _ _ hd
      refine ⟨ys, hd5, Nat.lt_of_le_of_lt hyl (Nat.lt_of_lt_of_le (show i < 100001 by omega) (by decide)), Ex.mut (pe.trans e5) hD, ys ++ [y], bs ++ [b'], upd_same, ?_, hP', ?_⟩
      · exact ((hys.ex e5).snoc ry).fz (ExT.lst hd5)
      · rw [List.length_append, List.length_singleton]
        omega
    · exact ⟨pe.trans e4, ys, bs, e4 _ _ hd, hys.ex e4, hP', by omega⟩
  · obtain ⟨pe, ys, bs, hd, hys, hP, hyl⟩ := p
    rw [hlen, List.take_length] at hP
    exact pd D H' bs pe hD (rp_list hd hys) hP
theorem lc_txt [Fz β] {l : List Nat} {tt : TT} {te : TE} {vs : List Nat} (hll : l.length ≤ 100000) (P : List Nat → List β → Prop) (p0 : P [] [])
    (ps : ∀ pre c post bs H2 (Kt : VK) (Kf : Hp → Prop), l = pre ++ c :: post → P pre bs → Ex H H2 → (∀ y H5 (b : β), Ex H2 H5 → rp H5 y b → P (pre ++ [c]) (bs ++ [b]) → Kt y H5) → (∀ H5, Ex H2 H5 → P (pre ++ [c]) bs → Kf H5) →
      g (.str ⟨#[c]⟩) (wipe σ vs) H2 fun σ2 H3 => wipe σ2 vs = wipe σ vs ∧ tt σ2 H3 fun b H4 => if b = true then te σ2 H4 Kt else Kf H4)
    (pd : ∀ p H' bs, Ex H H' → H p = none → rp H' (.ref p) bs → P l bs → Q (.ref p) H') {x : Str} (ex : x.cps.toList = l) : lcS g tt te vs σ Q (.str x) H := by
  subst ex
  refine ⟨x, rfl, fun D hD => ?_⟩
  refine ⟨fun i m H' => m = x.cps.size - i ∧ i ≤ x.cps.size ∧ Ex H H' ∧ ∃ ys bs, H' D = some (.lst ys) ∧ A2 (rp H') ys bs ∧ P (x.cps.toList.take i) bs ∧ ys.length ≤ i, ⟨x.cps.size, rfl, Nat.zero_le _, Ex.new hD, [], [], upd_same, .nil, p0, Nat.le_refl _⟩, ?_⟩
  rintro i m H' ⟨rfl, hi, pe, ys, bs, hd, hys, hP, hyl⟩
  have hlen : x.cps.toList.length = x.cps.size := Array.length_toList
  by_cases hlt : i < x.cps.size
  · refine .inr ⟨hlt, fun H' => i + 1 ≤ x.cps.size ∧ Ex H H' ∧ ∃ ys bs, H' D = some (.lst ys) ∧ A2 (rp H') ys bs ∧ P (x.cps.toList.take (i + 1)) bs ∧ ys.length ≤ i + 1, fun H' p => ⟨x.cps.size - (i + 1), by omega, rfl, p⟩, fun v H'' yl => ?_⟩
    obtain ⟨rfl, c, hc, rfl⟩ := yl
    have hc' : x.cps.toList[i]? = some c := by rw [Array.getElem?_toList]; exact hc
    obtain ⟨e1, e2⟩ := take_of hc'
    rw [e2]
    refine ps _ c _ bs H'' _ _ e1 hP pe (fun y H5 b' e5 ry hP' => ?_) (fun H4 e4 hP' => ?_)
    · have hd5 := e5 _ _ hd
      refine ⟨ys, hd5, Nat.lt_of_le_of_lt hyl (Nat.lt_of_lt_of_le (show i < 100001 by omega) (by decide)), hlt, Ex.mut (pe.trans e5) hD, ys ++ [y], bs ++ [b'], upd_same, ?_, hP', ?_⟩
      · exact ((hys.ex e5).snoc ry).fz (ExT.lst hd5)
      · rw [List.length_append, List.length_singleton]
        omega
    · exact ⟨hlt, pe.trans e4, ys, bs, e4 _ _ hd, hys.ex e4, hP', by omega⟩
  · have e : i = x.cps.size := by omega
    subst e
    rw [← hlen, List.take_length] at hP
    exact .inl ⟨Nat.le_refl _, pd D H' bs pe hD (rp_list hd hys) hP⟩
end
/-! bounds -/
theorem cmulW {i j : Int} (a b : Nat) (h1 : i.natAbs < 2 ^ a) (h2 : j.natAbs < 2 ^ b) (h : a + b < 1000000) : CMulW i j := by
  have l : ∀ {n k : Nat}, n < 2 ^ k → n.log2 ≤ k := fun {n k} hn => by
    by_cases z : n = 0
    · rw [z]
      exact Nat.le_trans (by decide) (Nat.zero_le k)
    · exact Nat.le_of_lt ((Nat.log2_lt z).mpr hn)
  show i.natAbs.log2 + j.natAbs.log2 < 1000000
  have := l h1
  have := l h2
  omega
theorem log2_le {n k : Nat} (hn : n < 2 ^ k) : n.log2 ≤ k := by
  by_cases z : n = 0
  · rw [z]
    exact Nat.le_trans (by decide) (Nat.zero_le k)
  · exact Nat.le_of_lt ((Nat.log2_lt z).mpr hn)
end Y
/-! Y8: whole numbers as signs. -/
namespace Y
open PySem PySem.Spec PyProof.Rows L2 SX
open NumText
def intL (i : Int) : List Nat := if i < 0 then 45 :: TL.numL i.natAbs else TL.numL i.natAbs
theorem intL_nn {i : Int} (h : 0 ≤ i) : intL i = TL.numL i.natAbs := if_neg (by omega)
theorem intL_neg {i : Int} (h : i < 0) : intL i = 45 :: TL.numL i.natAbs := if_pos h
theorem int_str (i : Int) : ((toString i : String) : Str) = S (intL i) := by
  cases i with
  | ofNat n =>
    have e : intL (Int.ofNat n) = TL.numL n := intL_nn (Int.natCast_nonneg n)
    rw [e]
    exact num_S n
  | negSucc m =>
    rw [intL_neg (Int.negSucc_lt_zero m)]
    refine TL.ext_tl ?_
    have e : (toString (Int.negSucc m) : String) = "-" ++ toString (((m + 1 : Nat)) : Int) := rfl
    rw [e]
    show TL.tl (Str.ofString _) = 45 :: TL.numL (m + 1)
    rw [TL.tl_ofString, String.toList_append, List.map_append]
    have h2 := TL.tl_num (m + 1)
    rw [TL.tl_ofString] at h2
    rw [h2]
    rfl
theorem intL_len {i : Int} {k : Nat} (hk : 0 < k) (h : i.natAbs < 10 ^ k) : (intL i).length ≤ k + 1 := by
  unfold intL
  have := TL.numL_len hk h
  split
  · rw [List.length_cons]; omega
  · omega
theorem intL_ne (i : Int) : intL i ≠ [] := by
  unfold intL
  split
  · intro z; cases z
  · exact TL.numL_ne _
def digB (c : Nat) : Bool := decide (48 ≤ c) && decide (c ≤ 57)
theorem digB_iff {c : Nat} : digB c = true ↔ 48 ≤ c ∧ c ≤ 57 := by
  unfold digB
  rw [Bool.and_eq_true, decide_eq_true_iff, decide_eq_true_iff]
theorem numL_dig {n c : Nat} (h : c ∈ TL.numL n) : 48 ≤ c ∧ c ≤ 57 := TL.numL_digits n c h
theorem intL_mem {i : Int} {c : Nat} (h : c ∈ intL i) : c = 45 ∨ (48 ≤ c ∧ c ≤ 57) := by
  unfold intL at h
  split at h
  · rcases List.mem_cons.mp h with h | h
    · exact .inl h
    · exact .inr (numL_dig h)
  · exact .inr (numL_dig h)
theorem numL_head {n : Nat} (h : n ≠ 0) : (TL.numL n).head? ≠ some 48 := by
  induction n using Nat.strongRecOn with
  | _ n ih =>
    by_cases h10 : n < 10
    · rw [TL.numL_lt h10]
      intro z
      have := Option.some.inj z
      omega
    · rw [TL.numL_step (by omega)]
      have h2 : n / 10 ≠ 0 := by omega
      have q := ih (n / 10) (by omega) h2
      cases e : TL.numL (n / 10) with
      | nil => exact absurd e (TL.numL_ne _)
      | cons a l =>
        rw [e] at q
        exact q
/-- the figures behind a sign -/
def figL (t : List Nat) : List Nat := if t.head? = some 45 then t.tail else t
def okNum (t : List Nat) : Bool := decide (1 ≤ (figL t).length) && (decide ((figL t).length ≤ 1000) && ((figL t).all digB && (!decide ((figL t).head? = some 48) || decide (t = [48]))))
def valL (t : List Nat) : Int := if t.head? = some 45 then -((digitsVal (figL t) : Nat) : Int) else ((digitsVal (figL t) : Nat) : Int)
/-- what read_number tells -/
def readL (t : List Nat) : Option Int := if okNum t = true then some (valL t) else none
theorem head_digs {l : List Nat} (h : AllDigits l) : l.head? ≠ some 45 := by
  cases l with
  | nil => intro z; cases z
  | cons a l =>
    intro z
    have e := Option.some.inj z
    have := h a List.mem_cons_self
    omega
theorem figL_int (i : Int) : figL (intL i) = TL.numL i.natAbs := by
  unfold figL intL
  split
  · rfl
  · rw [if_neg (head_digs (TL.numL_digits _))]
theorem numL_zero : TL.numL 0 = [48] := TL.numL_lt (by decide)
theorem okNum_int {i : Int} (h : (TL.numL i.natAbs).length ≤ 1000) : okNum (intL i) = true := by
  unfold okNum
  rw [figL_int]
  have h1 : 1 ≤ (TL.numL i.natAbs).length := by
    have := TL.numL_ne i.natAbs
    cases e : TL.numL i.natAbs with
    | nil => exact absurd e this
    | cons a l => rw [List.length_cons]; omega
  have h2 : (TL.numL i.natAbs).all digB = true := List.all_eq_true.mpr fun c hc => digB_iff.mpr (numL_dig hc)
  rw [decide_eq_true h1, decide_eq_true h, h2]
  by_cases z : i = 0
  · subst z
    have e : intL 0 = [48] := numL_zero
    rw [e, decide_eq_true (rfl : [48] = [48]), Bool.or_true]
    rfl
  · rw [decide_eq_false (numL_head (by omega : i.natAbs ≠ 0))]
    rfl
theorem readL_int {i : Int} (h : (TL.numL i.natAbs).length ≤ 1000) : readL (intL i) = some i := by
  unfold readL
  rw [if_pos (okNum_int h)]
  congr 1
  unfold valL
  rw [figL_int, TL.numL_val]
  by_cases z : i < 0
  · rw [intL_neg z]
    refine (if_pos rfl).trans ?_
    omega
  · rw [intL_nn (by omega), if_neg (head_digs (TL.numL_digits _))]
    omega
/-- a sign that no number has -/
theorem readL_bad {t : List Nat} {c : Nat} (h : c ∈ t) (hc : ¬ (c = 45 ∨ (48 ≤ c ∧ c ≤ 57))) : readL t = none := by
  refine if_neg fun z => ?_
  unfold okNum at z
  simp only [Bool.and_eq_true] at z
  have z2 := List.all_eq_true.mp z.2.2.1
  have hf : c ∈ figL t := by
    unfold figL
    split
    · rename_i h45
      cases t with
      | nil => cases h
      | cons a l =>
        have e := Option.some.inj h45
        rcases List.mem_cons.mp h with h | h
        · exact absurd (.inl (h.trans e)) hc
        · exact h
    · exact h
  exact hc (.inr (digB_iff.mp (z2 c hf)))
theorem readL_nil : readL [] = none := rfl
/-- a nought ahead -/
theorem readL_nought {l : List Nat} (h : l ≠ []) : readL (48 :: l) = none := by
  refine if_neg fun z => ?_
  unfold okNum at z
  have e : figL (48 :: l) = 48 :: l := if_neg (by intro z; cases z)
  rw [e] at z
  simp only [Bool.and_eq_true, Bool.or_eq_true, Bool.not_eq_true', decide_eq_true_iff, decide_eq_false_iff_not] at z
  rcases z.2.2.2 with q | q
  · exact q rfl
  · injection q with _ q
    exact h q
theorem okNum_text {t : List Nat} (h : okNum t = true) (hl : t.length ≤ 4300) : PySem.intText? (S t) = some (valL t) := by
  unfold okNum at h
  simp only [Bool.and_eq_true, decide_eq_true_iff] at h
  have hd : AllDigits (figL t) := fun c hc => digB_iff.mp (List.all_eq_true.mp h.2.2.1 c hc)
  have hne : figL t ≠ [] := fun z => by
    have := h.1
    rw [z] at this
    exact absurd this (by decide)
  unfold valL
  by_cases z : t.head? = some 45
  · rw [if_pos z]
    cases t with
    | nil => cases z
    | cons a l =>
      have e := Option.some.inj z
      subst e
      have e2 : figL (45 :: l) = l := if_pos rfl
      rw [e2] at hd hne ⊢
      exact intText_neg (x := S (45 :: l)) rfl hd hne (by rw [S_len]; exact hl)
  · rw [if_neg z]
    have e2 : figL t = t := if_neg z
    rw [e2] at hd hne ⊢
    exact intText_digits (x := S t) hd hne (by rw [S_len]; exact hl)
end Y
/-! Y9: text.replace(old, new, 1), old and new written. -/
namespace Y
open PySem PySem.Spec PyProof.Rows L2 SX
open PySem.Builtin PySem.Builtin.Str
/-- the first y in x made z -/
def rep1 (x y z : Str) : Str := match occurrences x y 0 x.length 1 with
  | [] => x
  | i :: _ => strSub x 0 i ++ z ++ strSub x (i + y.length) x.length
theorem rep1_at {p q z : List Nat} {c : Nat} (h : c ∉ p) : rep1 (S (p ++ c :: q)) (S [c]) (S z) = S (p ++ (z ++ q)) := by
  have ep := partition_some (a := p ++ c :: q) (b := [c]) (by intro z; cases z) (par_head q h)
  unfold Txt.partition at ep
  unfold rep1
  cases ho : occurrences (S (p ++ c :: q)) (S [c]) 0 (S (p ++ c :: q)).length 1 with
  | nil =>
    rw [ho] at ep
    have e2 : Str.empty = S [c] := congrArg (fun z : Str × Str × Str => z.2.1) ep
    cases S_inj (show S [] = S [c] from e2)
  | cons i r =>
    rw [ho] at ep
    have e1 : strSub (S (p ++ c :: q)) 0 i = S p := congrArg (fun z : Str × Str × Str => z.1) ep
    have e2 : strSub (S (p ++ c :: q)) (i + (S [c]).length) (S (p ++ c :: q)).length = S q := congrArg (fun z : Str × Str × Str => z.2.2) ep
    show strSub _ 0 i ++ S z ++ strSub _ (i + (S [c]).length) _ = _
    rw [e1, e2, S_cat, S_cat, List.append_assoc]
theorem sub_len (x : Str) (i j : Nat) : (strSub x i j).length ≤ x.length := by
  rw [TL.len_tl, TL.tl_strSub, TL.len_tl, List.length_take, List.length_drop]
  omega
theorem gives_rep1 (x y z : Str) (t u v k : Tok) (hy : (y.length == 0) = false) (h0 : (u == 0 || v == 0) = false) (huv : (u == v) = false) (hyz : (y == z) = false) (hl : x.length + z.length ≤ 16777216) :
    Gives («str.replace» ⟨[.str x t, .str y u, .str z v, .int 1 k], []⟩) (if (occurrences x y 0 x.length 1).isEmpty = true then .val (.str x t) else .str (rep1 x y z)) := by
  show Gives (if ((occurrences x y 0 x.length 1).isEmpty || (y.length == 0 && z.length == 0)) = true then (do rule "str.replace.nothing"; ret (.str x t)) else
      (do let b ← isSame (.str y u) (.str z v)
          if b = true then (do rule "str.replace.old-is-new"; ret (.str x t)) else
          if tooLong (x.length + (occurrences x y 0 x.length 1).length * z.length) = true then unsupported "str.replace:memory" else retStr (glued z (partsBetween x (occurrences x y 0 x.length 1) y.length)))) _
  have hle := StrLaws.occ_length_le x y 0 x.length 1
  unfold rep1
  rw [hy, Bool.false_and, Bool.or_false]
  cases ho : occurrences x y 0 x.length 1 with
  | nil => exact .rule (.of_eq rfl)
  | cons i r =>
    rw [ho] at hle
    have er : r = [] := by
      cases r with
      | nil => rfl
      | cons a b => exact absurd hle (by simp)
    subst er
    have htl : tooLong (x.length + [i].length * z.length) = false := by
      unfold tooLong sizeLine
      rw [List.length_singleton]
      exact decide_eq_false (by omega)
    rw [isSame_str_other y z u v h0 huv hyz, htl]
    exact .of_eq rfl
section
variable {X : Cx}
def tRep1 (y z : Str) (to : TE) : TE := fun σ H Q => to σ H fun v H1 => ∃ x : Str, v = .str x ∧ x.length ≤ 1000000 ∧ Q (.str (rep1 x y z)) H1
theorem pet_replace1 {o : Expr} {to : TE} {y z : Str} {j0 j1 j2 : Nat} {c0 c1 c2 apos cpos : Pos} (ho : PE X o to) (hy : (y.length == 0) = false) (hyz : (y == z) = false) (hz : z.length ≤ 1000000)
    (hbase : attributeBase o "replace" X.env (eval o X.env) = eval o X.env := by rfl)
    (hfew : ((backTo cpos (starEach [.Constant (.str y) j0 c0, .Constant (.str z) j1 c1, .Constant (.int 1) j2 c2] X.env)).all (fun x => !x.1) && (backToKw cpos (keywordEach [] X.env)).all (fun x => x.1.isSome)
      && decide (([.Constant (.str y) j0 c0, .Constant (.str z) j1 c1, .Constant (.int 1) j2 c2] : List Expr).length + ([] : List Keyword).length + (if ([] : List Keyword).isEmpty then 0 else 1) < 30)) = true := by rfl)
    (hline : (apos.endLine == cpos.line) = true := by rfl)
    (hs : starEach [.Constant (.str y) j0 c0, .Constant (.str z) j1 c1, .Constant (.int 1) j2 c2] X.env = [(false, eval (.Constant (.str y) j0 c0) X.env), (false, eval (.Constant (.str z) j1 c1) X.env), (false, eval (.Constant (.int 1) j2 c2) X.env)] := by rfl) :
    PET X (.Call (.Attribute o "replace" apos) [.Constant (.str y) j0 c0, .Constant (.str z) j1 c1, .Constant (.int 1) j2 c2] [] cpos) (tRep1 y z to) := by
  intro pins s σ H Q h0 I h
  refine wpAny_Call_method_late hbase hfew hline rfl (wpAny_mono (PySem.wpAny_toks (ho.run pins s σ H _ I h)) (fun v s1 hh => ?_) fun _ _ z => z.2)
  obtain ⟨hk, w, H1, I1, r1, x, rfl, hx, q1⟩ := hh
  obtain ⟨tx, rfl⟩ := r1
  refine ⟨"str", _, F.plainAttrs_str, F.slot_str_replace, F.type_str_replace, typeIs_str _ _ _, (fun _ e => nomatch e), ?_⟩
  rw [hs]
  have hlen : (rep1 x y z).length ≤ sizeLine := by
    unfold rep1
    split
    · exact Nat.le_trans hx (by decide)
    · rename_i i r _
      have h1 := sub_len x 0 i
      have h2 := sub_len x (i + y.length) x.length
      rw [TL.len_tl, TL.tl_append, TL.tl_append, List.length_append, List.length_append, ← TL.len_tl, ← TL.len_tl, ← TL.len_tl]
      exact Nat.le_trans (show _ ≤ 3000000 by omega) (by decide)
  refine Calls.callWith_builtin rfl (Calls.evalArgs_plain (Calls.spliced_cons (Calls.Constant_str (x := y) (k := j0) (pos := c0) ?_)))
  refine Calls.spliced_cons (Calls.Constant_str (x := z) (k := j1) (pos := c1) (Calls.spliced_cons (wpAny_Constant_int (i := 1) (k := j2) (pos := c2) (Calls.spliced_nil ?_))))
  have t1 : s1.toks ≠ 0 := by omega
  refine call_gives F.slot_str_replace (typeIs_str _ _ _) F.entry_str_replace (F.args_str_replace_4 _ _ _ _) (gives_rep1 x y z _ _ _ _ hy ?_ ?_ hyz (by omega)) ?_
  · simp [t1]
  · simp
  · by_cases hc : (occurrences x y 0 x.length 1).isEmpty = true
    · rw [if_pos hc]
      have e : rep1 x y z = x := by
        unfold rep1
        cases ho : occurrences x y 0 x.length 1 with
        | nil => rfl
        | cons i r => rw [ho] at hc; cases hc
      rw [e] at q1
      exact ⟨.str x, H1, I1.tok _, ⟨_, rfl⟩, q1⟩
    · rw [if_neg hc]
      exact ⟨hlen, .str (rep1 x y z), H1, I1.tok _, ⟨_, rfl⟩, q1⟩
/-! a token is out behind e | ahead of e -/
def PEU (X : Cx) (e : Expr) (t : TE) : Prop :=
  ∀ (pins : List (Addr × Obj)) (s : Shared) (σ : L2.St) (H : Hp) (Q : VK), Inv X pins σ H s → t σ H Q → wpAny (model X.prog X.w) X.A (eval e X.env) (fun v s1 => 1 ≤ s1.toks ∧ EP X pins σ Q v s1) X.xe s
variable {a b e : Expr} {es : List Expr} {ta tb te : TE} {tr : TA} {rest : List Stmt} {t u : TS} {pos p : Pos} {i : Nat} {x c : Str}
theorem pet_of (h : PE X e te) : PET X e te := fun pins s σ H Q _ I q => h.run pins s σ H Q I q
theorem peU_add {j : Nat} (ha : PE X a ta) : PEU X (.BinOp a .Add (.Constant (.str c) j p) pos) (tOp rAddX ta (tC (.str c))) := by
  intro pins s σ H Q I h
  refine wpAny_BinOp (thn (ha.run pins s σ H _ I h) fun v s1 ⟨w, H1, I1, r1, q1⟩ => Calls.Constant_str ?_)
  refine wpAny_mono (PySem.wpAny_toks (op_addX pins { s1 with toks := s1.toks + 1 } σ H1 w (.str c) v _ Q (I1.tok _) r1 ⟨_, rfl⟩ q1)) (fun v s2 z => ⟨?_, z.2⟩) fun _ _ z => z.2
  have z1 : s1.toks + 1 ≤ s2.toks := z.1
  omega
theorem peU_lst (ha : PEU X e te) (hr : PAT X es tr) (hs : starEach (e :: es) X.env = (false, eval e X.env) :: starEach es X.env := by rfl) : PEU X (.List (e :: es) pos) (tLst (tCons te tr)) := by
  intro pins s σ H Q I h
  refine wpAny_List_spliced ?_
  rw [hs]
  show wpAny _ _ (spliced ((false, eval e X.env) :: backTo pos (starEach es X.env))) _ _ s
  refine Calls.spliced_cons (thn (ha pins s σ H _ I h) fun w s1 ⟨hk, y, H1, I1, r1, q1⟩ => ?_)
  refine wpAny_mono (PySem.wpAny_toks (hr pos pins s1 σ H1 _ hk I1 q1)) (fun us s2 ⟨hk2, xs, H2, I2, r2, z, q⟩ => ?_) fun _ _ z => z.2
  have rr : Vals (y :: xs) (w :: us) := .cons r1 r2
  have hf : H2 s2.heap.objs.size = none := I2.hok.fresh (Nat.le_refl _)
  exact ⟨by rw [← rr.length]; exact z, Nat.le_trans hk hk2, .ref s2.heap.objs.size, upd H2 s2.heap.objs.size (.lst (y :: xs)), I2.laid (t' := s2.toks) (fun b u e => Heap.get?_push_of_some _ e) (Nat.le_refl _) ⟨z, w :: us, 0, rr, Heap.get?_push_size _ rfl⟩, rfl, q _ hf⟩
theorem pss_setU {pos' : Pos} (hN : X.N.Nodup) (hi : X.N[i]? = some x) (hx : Loc X.env.scope x) (he : PEU X e te) (h2 : PSsT X rest u) (hs : swapsWith e (some (.Name x pos')) pos.line X.env = pure false := by rfl)
    (hf : X.fn x = true ∨ X.env.scope.names.lookup x = some .local := by first | exact .inl rfl | exact .inr rfl | assumption) : PSs X (.Assign [.Name x pos'] e pos :: rest) (tSeq (tAsg te (gName i)) u) := by
  refine ⟨fun pins s σ H D I h => ?_⟩
  refine wpAny_execs_cons (wpAny_Assign_Name (thn (he pins s σ H _ I h) fun v s1 ⟨hk, y, H1, I1, r1, q1⟩ => ?_) hs)
  refine wpAny_mono (PySem.wpAny_toks (store_ok (Q := fun _ s2 => ∃ H2, Inv X pins (σ.set i (some y)) H2 s2 ∧ u D (σ.set i (some y)) H2) I1 hN hi hx r1 (fun _ I2 => ⟨H1, I2, q1⟩) hf)) (fun _ s2 q => ?_) fun _ _ z => z.2
  obtain ⟨hk2, H2, I2, q2⟩ := q
  exact h2 pins s2 _ H2 D (Nat.le_trans hk hk2) I2 q2
theorem pst_set {pos' : Pos} (hN : X.N.Nodup) (hi : X.N[i]? = some x) (hx : Loc X.env.scope x) (he : PET X e te) (hs : swapsWith e (some (.Name x pos')) pos.line X.env = pure false := by rfl)
    (hf : X.fn x = true ∨ X.env.scope.names.lookup x = some .local := by first | exact .inl rfl | exact .inr rfl | assumption) : PST X (.Assign [.Name x pos'] e pos) (tAsg te (gName i)) := by
  intro pins s σ H D h0 I h
  refine wpAny_Assign_Name (thn (he pins s σ H _ h0 I h) fun v s1 ⟨y, H1, I1, r1, q1⟩ => ?_) hs
  exact store_ok I1 hN hi hx r1 (fun s2 I2 => ⟨_, H1, I2, q1⟩) hf
theorem pet_op {op : Operator} {r : R2} (ho : OpR X (binaryOp op) r) (ha : PE X a ta) (hb : PET X b tb) : PET X (.BinOp a op b pos) (tOp r ta tb) := by
  intro pins s σ H Q h0 I h
  refine wpAny_BinOp (wpAny_mono (PySem.wpAny_toks (ha.run pins s σ H _ I h)) (fun v s1 ⟨hk, y, H1, I1, r1, q1⟩ => ?_) fun _ _ z => z.2)
  exact thn (hb pins s1 σ H1 _ (Nat.le_trans h0 hk) I1 q1) fun v2 s2 ⟨y2, H2, I2, r2, q2⟩ => ho pins s2 σ H2 y y2 v v2 Q I2 r1 r2 q2
theorem pst_expr (he : PET X e te) (hs : swapsWith e none pos.line X.env = pure false := by rfl) : PST X (.Expr e pos) (tDrop te) := by
  intro pins s σ H D h0 I h
  refine wpAny_Expr_any (thn (he pins s σ H _ h0 I h) fun v s1 ⟨y, H1, I1, r1, q1⟩ => ⟨σ, H1, I1, q1⟩) I.quiet hs
theorem pet_bm {o : Expr} {to : TE} {T id : String} {nm : Str} {apos cpos : Pos} {r : V → List V → Hp → VK → Prop} (pa : PlainAttrs T) (slot : Slot T nm id) (hty : typeOf (.builtin id) = pure (.type "method_descriptor")) (hm : MtR X id r) (ho : PE X o to) (ha : PAT X (e :: es) tr)
    (hb : attributeBase o nm X.env (eval o X.env) = eval o X.env := by rfl)
    (hw : ((backTo cpos (starEach (e :: es) X.env)).all (fun x => !x.1) && (backToKw cpos (keywordEach [] X.env)).all (fun x => x.1.isSome) && decide ((e :: es).length + ([] : List Keyword).length + (if ([] : List Keyword).isEmpty then 0 else 1) < 30)) = true := by rfl)
    (hl : (apos.endLine == cpos.line) = true := by rfl) (hs : starEach (e :: es) X.env = (false, eval e X.env) :: starEach es X.env := by rfl) (hp : (backTo cpos (starEach es X.env)).any (·.1) = false := by rfl) : PET X (.Call (.Attribute o nm apos) (e :: es) [] cpos) (tBM X.K T r to tr) := by
  intro pins s σ H Q h0 I h
  refine wpAny_Call_method_late hb hw hl rfl (wpAny_mono (PySem.wpAny_toks (ho.run pins s σ H _ I h)) (fun v s1 ⟨hk, y, H1, I1, r1, ty, q1⟩ => ?_) fun _ _ z => z.2)
  have hA := ha cpos pins s1 σ H1 _ (Nat.le_trans h0 hk) I1 q1
  obtain ⟨k1, k2⟩ := tyV_is I1 r1 ty
  refine ⟨T, id, pa, slot, hty, k1, k2, ?_⟩
  rw [hs] at hA ⊢
  have hp2 : ((backTo cpos ((false, eval e X.env) :: starEach es X.env)).any (·.1)) = false := by
    show (false || (backTo cpos (starEach es X.env)).any (·.1)) = false
    rw [hp]
    rfl
  exact Calls.callWith_builtin hp2 (Calls.evalArgs_plain (thn hA fun us s2 ⟨vs, H2, I2, r2, q2⟩ => hm pins s2 σ H2 y vs v us Q I2 r1 r2 q2))
end
end Y
/-! YA: == and != of data. -/
namespace Y
open PySem PySem.Spec PyProof.Rows L2
class Dt (α : Type) extends Rp α where
  toD : α → PyData
  dp : ∀ {K : PySem.W.Frag} {H : Hp} {v : V} {a : α}, rp H v a → Dp K H v (toD a)
  lay : ∀ a, (toD a).canLay0 = true
  dep : Nat
  depth_le : ∀ a, (toD a).depth ≤ dep
  eqv : ∀ a b, PyData.eqv (toD a) (toD b) = true ↔ a = b
instance : Dt Int := ⟨fun i => .int i, fun h => by
  have e : _ = V.int _ := h
  rw [e]
  exact .int _, fun _ => rfl, 0, fun _ => Nat.le_refl 0, fun a b => by
  show ((a == b) = true) ↔ _
  exact beq_iff_eq⟩
instance {α β : Type} [Dt α] [Dt β] : Dt (α × β) := ⟨fun p => .tuple [Dt.toD p.1, Dt.toD p.2], fun {K H v a} h => by
  obtain ⟨t, x, y, rfl, ht, h1, h2⟩ := h
  exact .tup (sqT ht) (.cons (Dt.dp h1) (.cons (Dt.dp h2) .nil)), fun a => by
  show (PyData.canLay0 _ && (PyData.canLay0 _ && true)) = true
  rw [Dt.lay, Dt.lay]
  rfl, max (Dt.dep α) (Dt.dep β) + 1, fun a => by
  show max (PyData.depth _) (max (PyData.depth _) 0) + 1 ≤ _
  have h1 := Dt.depth_le a.1
  have h2 := Dt.depth_le a.2
  omega, fun a b => by
  show (PyData.eqv _ _ && (PyData.eqv _ _ && true)) = true ↔ _
  rw [Bool.and_true, Bool.and_eq_true, Dt.eqv, Dt.eqv]
  exact ⟨fun h => Prod.ext h.1 h.2, fun h => by rw [h]; exact ⟨rfl, rfl⟩⟩⟩
theorem dp_all {α : Type} [Dt α] {K : PySem.W.Frag} {H : Hp} : ∀ {xs : List V} {l : List α}, A2 (rp H) xs l → DpAll K H xs (l.map Dt.toD)
  | _, _, .nil => .nil
  | _, _, .cons x t => .cons (Dt.dp x) (dp_all t)
theorem lay_all {α : Type} [Dt α] : ∀ l : List α, PyData.canLayAll0 (l.map Dt.toD) = true
  | [] => rfl
  | a :: l => by
    show (PyData.canLay0 _ && PyData.canLayAll0 _) = true
    rw [Dt.lay, lay_all l]
    rfl
theorem depth_all {α : Type} [Dt α] : ∀ l : List α, PyData.depthAll (l.map Dt.toD) ≤ Dt.dep α
  | [] => Nat.zero_le _
  | a :: l => by
    show max (PyData.depth _) (PyData.depthAll _) ≤ _
    have h1 := Dt.depth_le a
    have h2 := depth_all l
    omega
theorem eqv_all {α : Type} [Dt α] : ∀ l m : List α, PyData.eqvAll (l.map Dt.toD) (m.map Dt.toD) = true ↔ l = m
  | [], [] => ⟨fun _ => rfl, fun _ => rfl⟩
  | [], b :: m => ⟨(fun h => by cases h), (fun h => by cases h)⟩
  | a :: l, [] => ⟨(fun h => by cases h), (fun h => by cases h)⟩
  | a :: l, b :: m => by
    show (PyData.eqv _ _ && PyData.eqvAll _ _) = true ↔ _
    rw [Bool.and_eq_true, Dt.eqv, eqv_all l m]
    exact ⟨fun h => by rw [h.1, h.2], fun h => by injection h with h1 h2; exact ⟨h1, h2⟩⟩
instance {α : Type} [Dt α] : Dt (List α) := ⟨fun l => .list (l.map Dt.toD), fun {K H v a} h => by
  obtain ⟨t, xs, rfl, ht, h1⟩ := h
  exact .lst (sqL ht) (dp_all h1), fun a => lay_all a, Dt.dep α + 1, fun a => Nat.succ_le_succ (depth_all a), fun a b => by
  show PyData.eqvAll _ _ = true ↔ _
  rw [eqv_all]⟩
section
variable {K : PySem.W.Frag} {H H1 H2 : Hp} {Q : VK} {x y : V} {α : Type} [Dt α] {a b : α}
theorem shp (h : Dt.dep α ≤ 64) (a : α) : SeqAt.shaped (Dt.toD a) = true := by
  unfold SeqAt.shaped
  rw [Dt.lay, decide_eq_true (Nat.le_trans (Dt.depth_le a) h)]
  rfl
theorem eqvD (a b : α) [Decidable (a = b)] : PyData.eqv (Dt.toD a) (Dt.toD b) = decide (a = b) := by
  by_cases h : a = b
  · rw [decide_eq_true h]
    exact (Dt.eqv a b).mpr h
  · rw [decide_eq_false h]
    exact Bool.eq_false_iff.mpr fun z => h ((Dt.eqv a b).mp z)
theorem r_eqDt [Decidable (a = b)] (hd : Dt.dep α ≤ 64) (h1 : rp H x a) (h2 : rp H y b) (q : Q (.bl (decide (a = b))) H) : rEqD K x y H Q := ⟨_, _, Dt.dp h1, Dt.dp h2, shp hd a, shp hd b, by rw [eqvD]; exact q⟩
theorem r_neDt [Decidable (a = b)] (hd : Dt.dep α ≤ 64) (h1 : rp H x a) (h2 : rp H y b) (q : Q (.bl (!decide (a = b))) H) : rNeD K x y H Q := ⟨_, _, Dt.dp h1, Dt.dp h2, shp hd a, shp hd b, by rw [eqvD]; exact q⟩
end
end Y
/-! YB: the law's own call. -/
namespace Y
open PySem PySem.Spec PyProof.Rows L2
theorem walkY {l : PySem.W.OpenLaw} {n k : Nat} {q : Program} {loose : List Str} {XP : (Str → Option Value) → Heap → Prop} {YP : World → Heap → Prop} {d : DefRec} {x : Str} (hn : l.most = some n) (hn2 : n ≤ sizeLine) (hd0 : d.params.defaults = [])
    (hr : Room k callerA)
    (F : ∀ (w : World) (mg : Str → Option Value) (fa : Addr) (h : Heap), YP w h → h.Ns mainGlobals mg → mg d.name = some (.ref fa) → ∃ (K : PySem.W.Frag) (fd : FuncData) (sp : Sp), K.In h ∧ (∀ (s : Shared) (u : Value), BindsTo s fd ⟨[u], []⟩ [(x, u)]) ∧
      (∀ (H : Hp) (a : Addr) (ns : List Int), ns.length ≤ n → SqL K H a (ns.map V.int) → sp [.ref a] H (fun v _ => v = .bl true) fun _ _ _ => False) ∧ ∀ base : Heap, K.In base → base.Ns mainGlobals mg → FnY l.prog w K mg base k fa fd [x] sp) :
    PySem.W.WalkO q loose XP YP l.row.toRowW d [] (fun f vs => PySem.call f vs) := by
  refine Att.attach_call hn hd0 fun w sa sb mg mb fa o pm cd doc a vs ns G yp ho hd hcd hmg hob hin hle hg => ?_
  obtain ⟨K, fd, sp, kx, hb, hs, hf⟩ := F w mg fa _ yp G.T.g hmg
  refine law_call kx G.T.g G.T.b G.T.builtins G.T.nolimit hg hob hin (Nat.le_trans hle hn2) hr hf hb ?_ ?_
  · exact fun H _ hS => hs H a ns hle hS
  · exact fun H e t c => cx_none c
end Y
namespace T
open PySem PySem.Spec PyProof.Rows L2 Y
def top (i : Nat) : Stmt := PySem.Challenge.pw_thinbook_k82_rules_written.main.body.getD i (.Pass ⟨0, 0, 0, 0⟩)
abbrev s__wall : Stmt := top 0
abbrev d__wall : He.DefD := ⟨("_wall", none), "_wall", "_wall", defArgs s__wall, defBody s__wall, defScope s__wall, [], []⟩
abbrev s_NoText___init__ : Stmt := inClass (top 5) 0
abbrev d_NoText___init__ : He.DefD := ⟨("NoText", some "__init__"), "__init__", "NoText.__init__", defArgs s_NoText___init__, defBody s_NoText___init__, defScope s_NoText___init__, [], []⟩
abbrev s_Rule___init__ : Stmt := inClass (top 8) 0
abbrev d_Rule___init__ : He.DefD := ⟨("Rule", some "__init__"), "__init__", "Rule.__init__", defArgs s_Rule___init__, defBody s_Rule___init__, defScope s_Rule___init__, [.non], []⟩
abbrev s_Rule_steps : Stmt := inClass (top 8) 1
abbrev d_Rule_steps : He.DefD := ⟨("Rule", some "steps"), "steps", "Rule.steps", defArgs s_Rule_steps, defBody s_Rule_steps, defScope s_Rule_steps, [], []⟩
abbrev s_Rule_gone : Stmt := inClass (top 8) 2
abbrev d_Rule_gone : He.DefD := ⟨("Rule", some "gone"), "gone", "Rule.gone", defArgs s_Rule_gone, defBody s_Rule_gone, defScope s_Rule_gone, [], []⟩
abbrev s_Rule_room : Stmt := inClass (top 8) 3
abbrev d_Rule_room : He.DefD := ⟨("Rule", some "room"), "room", "Rule.room", defArgs s_Rule_room, defBody s_Rule_room, defScope s_Rule_room, [], []⟩
abbrev s_needed : Stmt := top 12
abbrev d_needed : He.DefD := ⟨("needed", none), "needed", "needed", defArgs s_needed, defBody s_needed, defScope s_needed, [], []⟩
abbrev s_show_number : Stmt := top 13
abbrev d_show_number : He.DefD := ⟨("show_number", none), "show_number", "show_number", defArgs s_show_number, defBody s_show_number, defScope s_show_number, [], []⟩
abbrev s_read_number : Stmt := top 14
abbrev d_read_number : He.DefD := ⟨("read_number", none), "read_number", "read_number", defArgs s_read_number, defBody s_read_number, defScope s_read_number, [], []⟩
abbrev s_show_rule : Stmt := top 15
abbrev d_show_rule : He.DefD := ⟨("show_rule", none), "show_rule", "show_rule", defArgs s_show_rule, defBody s_show_rule, defScope s_show_rule, [], []⟩
abbrev s_read_step : Stmt := top 16
abbrev d_read_step : He.DefD := ⟨("read_step", none), "read_step", "read_step", defArgs s_read_step, defBody s_read_step, defScope s_read_step, [], []⟩
abbrev s_read_rule : Stmt := top 17
abbrev d_read_rule : He.DefD := ⟨("read_rule", none), "read_rule", "read_rule", defArgs s_read_rule, defBody s_read_rule, defScope s_read_rule, [], []⟩
abbrev s__law_mixed : Stmt := top 19
abbrev d__law_mixed : He.DefD := ⟨("_law_mixed", none), "_law_mixed", "_law_mixed", defArgs s__law_mixed, defBody s__law_mixed, defScope s__law_mixed, [], []⟩
abbrev s__law_amount : Stmt := top 20
abbrev d__law_amount : He.DefD := ⟨("_law_amount", none), "_law_amount", "_law_amount", defArgs s__law_amount, defBody s__law_amount, defScope s__law_amount, [], []⟩
abbrev s__law_rule : Stmt := top 21
abbrev d__law_rule : He.DefD := ⟨("_law_rule", none), "_law_rule", "_law_rule", defArgs s__law_rule, defBody s__law_rule, defScope s__law_rule, [], []⟩
abbrev s__law_text : Stmt := top 22
abbrev d__law_text : He.DefD := ⟨("_law_text", none), "_law_text", "_law_text", defArgs s__law_text, defBody s__law_text, defScope s__law_text, [], []⟩
abbrev s__law_spoilt : Stmt := top 23
abbrev d__law_spoilt : He.DefD := ⟨("_law_spoilt", none), "_law_spoilt", "_law_spoilt", defArgs s__law_spoilt, defBody s__law_spoilt, defScope s__law_spoilt, [], []⟩
abbrev s__law_no_rule : Stmt := top 24
abbrev d__law_no_rule : He.DefD := ⟨("_law_no_rule", none), "_law_no_rule", "_law_no_rule", defArgs s__law_no_rule, defBody s__law_no_rule, defScope s__law_no_rule, [], []⟩
abbrev s__law_refused : Stmt := top 25
abbrev d__law_refused : He.DefD := ⟨("_law_refused", none), "_law_refused", "_law_refused", defArgs s__law_refused, defBody s__law_refused, defScope s__law_refused, [], []⟩
abbrev s_law : Stmt := top 26
abbrev d_law : He.DefD := ⟨("law", none), "law", "law", defArgs s_law, defBody s_law, defScope s_law, [], []⟩
def fn0 : List He.DefD := [d__wall, d_NoText___init__, d_Rule___init__, d_Rule_steps, d_Rule_gone, d_Rule_room, d_needed, d_show_number, d_read_number, d_show_rule, d_read_step, d_read_rule]
def fn1 : List He.DefD := [d__law_mixed, d__law_amount, d__law_rule, d__law_text, d__law_spoilt, d__law_no_rule, d__law_refused, d_law]
def fns : List (List He.DefD) := [fn0, fn1]
def fa0 : List Fc := [.fa (.glo "_wall"), .fa (.glo "needed"), .fa (.glo "show_number"), .fa (.glo "read_number"), .fa (.glo "show_rule"), .fa (.glo "read_step"), .fa (.glo "read_rule"), .fa (.glo "_law_mixed"), .fa (.glo "_law_amount"), .fa (.glo "_law_rule"), .fa (.glo "_law_text"), .fa (.glo "_law_spoilt"), .fa (.glo "_law_no_rule"), .fa (.glo "_law_refused"), .fa (.glo "law"), .fa (.glo "BookError")]
def fa1 : List Fc := [.fa (.glo "NoNumber"), .fa (.glo "NoRule"), .fa (.glo "NoText"), .fa (.glo "Rule"), .fa (.free "ValueError"), .fa (.free "all"), .fa (.free "bool"), .fa (.free "int"), .fa (.free "isinstance"), .fa (.free "len"), .fa (.free "list"), .fa (.free "range"), .fa (.free "str"), .fa (.int "MOST_STEPS" 5), .fa (.str "FIGURES" "0123456789"), .fa (.int "MOST_FIGURES" 1000)]
def fa2 : List Fc := [.fa (.exc "BookError"), .ec "BookError", .fa (.exc "NoNumber"), .ec "NoNumber", .fa (.exc "NoRule"), .ec "NoRule", .ox "NoText", .fa (.noat "NoText" "line"), .ec "NoText", .fa (.cls "Rule"), .fa (.noat "Rule" "row"), .fa (.noat "Rule" "end"), .fa (.meth "Rule" "steps"), .fa (.meth "Rule" "gone"), .fa (.meth "Rule" "room"), .fa (.mkr "Rule")]
def fa3 : List Fc := [.vi "BookError", .fa (.exm "BookError" "NoRule" false), .fa (.exm "NoNumber" "NoRule" false), .fa (.exm "NoRule" "NoRule" true), .fa (.exm "NoText" "NoRule" false), .fa (.exm "BookError" "BookError" true), .fa (.exm "NoNumber" "BookError" true), .fa (.exm "NoRule" "BookError" true), .fa (.exm "NoText" "BookError" true), .kit "BookError" "NoText" false, .kit "NoNumber" "NoText" false, .kit "NoRule" "NoText" false, .kit "NoText" "NoText" true, .isi "Rule", .kit "BookError" "NoRule" false, .kit "NoNumber" "NoRule" false]
def fa4 : List Fc := [.kit "NoRule" "NoRule" true, .kit "NoText" "NoRule" false, .kit "BookError" "NoNumber" false, .kit "NoNumber" "NoNumber" true, .kit "NoRule" "NoNumber" false, .kit "NoText" "NoNumber" false]
def fas : List (List Fc) := [fa0, fa1, fa2, fa3, fa4]
abbrev Top (K : PySem.W.Frag) (mg : Str → Option Value) : Prop := Top0 fas fns K mg
section
variable {K : PySem.W.Frag} {mg : Str → Option Value}
theorem t_g__wall (T : Top K mg) : mg "_wall" = some (.ref (gA K "_wall")) := T.glo (T.fact 0 0 (l := fa0) (f := (.fa (.glo "_wall"))) rfl rfl)
theorem t_g_needed (T : Top K mg) : mg "needed" = some (.ref (gA K "needed")) := T.glo (T.fact 0 1 (l := fa0) (f := (.fa (.glo "needed"))) rfl rfl)
theorem t_g_show_number (T : Top K mg) : mg "show_number" = some (.ref (gA K "show_number")) := T.glo (T.fact 0 2 (l := fa0) (f := (.fa (.glo "show_number"))) rfl rfl)
theorem t_g_read_number (T : Top K mg) : mg "read_number" = some (.ref (gA K "read_number")) := T.glo (T.fact 0 3 (l := fa0) (f := (.fa (.glo "read_number"))) rfl rfl)
theorem t_g_show_rule (T : Top K mg) : mg "show_rule" = some (.ref (gA K "show_rule")) := T.glo (T.fact 0 4 (l := fa0) (f := (.fa (.glo "show_rule"))) rfl rfl)
theorem t_g_read_step (T : Top K mg) : mg "read_step" = some (.ref (gA K "read_step")) := T.glo (T.fact 0 5 (l := fa0) (f := (.fa (.glo "read_step"))) rfl rfl)
theorem t_g_read_rule (T : Top K mg) : mg "read_rule" = some (.ref (gA K "read_rule")) := T.glo (T.fact 0 6 (l := fa0) (f := (.fa (.glo "read_rule"))) rfl rfl)
theorem t_g__law_mixed (T : Top K mg) : mg "_law_mixed" = some (.ref (gA K "_law_mixed")) := T.glo (T.fact 0 7 (l := fa0) (f := (.fa (.glo "_law_mixed"))) rfl rfl)
theorem t_g__law_amount (T : Top K mg) : mg "_law_amount" = some (.ref (gA K "_law_amount")) := T.glo (T.fact 0 8 (l := fa0) (f := (.fa (.glo "_law_amount"))) rfl rfl)
theorem t_g__law_rule (T : Top K mg) : mg "_law_rule" = some (.ref (gA K "_law_rule")) := T.glo (T.fact 0 9 (l := fa0) (f := (.fa (.glo "_law_rule"))) rfl rfl)
theorem t_g__law_text (T : Top K mg) : mg "_law_text" = some (.ref (gA K "_law_text")) := T.glo (T.fact 0 10 (l := fa0) (f := (.fa (.glo "_law_text"))) rfl rfl)
theorem t_g__law_spoilt (T : Top K mg) : mg "_law_spoilt" = some (.ref (gA K "_law_spoilt")) := T.glo (T.fact 0 11 (l := fa0) (f := (.fa (.glo "_law_spoilt"))) rfl rfl)
theorem t_g__law_no_rule (T : Top K mg) : mg "_law_no_rule" = some (.ref (gA K "_law_no_rule")) := T.glo (T.fact 0 12 (l := fa0) (f := (.fa (.glo "_law_no_rule"))) rfl rfl)
theorem t_g__law_refused (T : Top K mg) : mg "_law_refused" = some (.ref (gA K "_law_refused")) := T.glo (T.fact 0 13 (l := fa0) (f := (.fa (.glo "_law_refused"))) rfl rfl)
theorem t_g_law (T : Top K mg) : mg "law" = some (.ref (gA K "law")) := T.glo (T.fact 0 14 (l := fa0) (f := (.fa (.glo "law"))) rfl rfl)
theorem t_g_BookError (T : Top K mg) : mg "BookError" = some (.ref (gA K "BookError")) := T.glo (T.fact 0 15 (l := fa0) (f := (.fa (.glo "BookError"))) rfl rfl)
theorem t_g_NoNumber (T : Top K mg) : mg "NoNumber" = some (.ref (gA K "NoNumber")) := T.glo (T.fact 1 0 (l := fa1) (f := (.fa (.glo "NoNumber"))) rfl rfl)
theorem t_g_NoRule (T : Top K mg) : mg "NoRule" = some (.ref (gA K "NoRule")) := T.glo (T.fact 1 1 (l := fa1) (f := (.fa (.glo "NoRule"))) rfl rfl)
theorem t_g_NoText (T : Top K mg) : mg "NoText" = some (.ref (gA K "NoText")) := T.glo (T.fact 1 2 (l := fa1) (f := (.fa (.glo "NoText"))) rfl rfl)
theorem t_g_Rule (T : Top K mg) : mg "Rule" = some (.ref (gA K "Rule")) := T.glo (T.fact 1 3 (l := fa1) (f := (.fa (.glo "Rule"))) rfl rfl)
theorem t_b_ValueError (T : Top K mg) : mg "ValueError" = none := T.free (T.fact 1 4 (l := fa1) (f := (.fa (.free "ValueError"))) rfl rfl)
theorem t_b_all (T : Top K mg) : mg "all" = none := T.free (T.fact 1 5 (l := fa1) (f := (.fa (.free "all"))) rfl rfl)
theorem t_b_bool (T : Top K mg) : mg "bool" = none := T.free (T.fact 1 6 (l := fa1) (f := (.fa (.free "bool"))) rfl rfl)
theorem t_b_int (T : Top K mg) : mg "int" = none := T.free (T.fact 1 7 (l := fa1) (f := (.fa (.free "int"))) rfl rfl)
theorem t_b_isinstance (T : Top K mg) : mg "isinstance" = none := T.free (T.fact 1 8 (l := fa1) (f := (.fa (.free "isinstance"))) rfl rfl)
theorem t_b_len (T : Top K mg) : mg "len" = none := T.free (T.fact 1 9 (l := fa1) (f := (.fa (.free "len"))) rfl rfl)
theorem t_b_list (T : Top K mg) : mg "list" = none := T.free (T.fact 1 10 (l := fa1) (f := (.fa (.free "list"))) rfl rfl)
theorem t_b_range (T : Top K mg) : mg "range" = none := T.free (T.fact 1 11 (l := fa1) (f := (.fa (.free "range"))) rfl rfl)
theorem t_b_str (T : Top K mg) : mg "str" = none := T.free (T.fact 1 12 (l := fa1) (f := (.fa (.free "str"))) rfl rfl)
theorem t_i_MOST_STEPS (T : Top K mg) : ∃ t, mg "MOST_STEPS" = some (.int 5 t) := T.int (T.fact 1 13 (l := fa1) (f := (.fa (.int "MOST_STEPS" 5))) rfl rfl)
theorem t_i_FIGURES (T : Top K mg) : ∃ t, mg "FIGURES" = some (.str "0123456789" t) := T.str (T.fact 1 14 (l := fa1) (f := (.fa (.str "FIGURES" "0123456789"))) rfl rfl)
theorem t_i_MOST_FIGURES (T : Top K mg) : ∃ t, mg "MOST_FIGURES" = some (.int 1000 t) := T.int (T.fact 1 15 (l := fa1) (f := (.fa (.int "MOST_FIGURES" 1000))) rfl rfl)
theorem t_x_BookError (T : Top K mg) : PySem.W.excIn K (gA K "BookError") He.veBase "ValueError.__new__" = true ∧ PySem.W.keepIn K (.ref (gA K "BookError")) = true ∧ PySem.W.subIn K (.ref (gA K "BookError")) (.type "BaseException") = some true ∧ PySem.W.typeIn K (.ref (gA K "BookError")) = some (.type "type") := He.exc_ok (T.fact 2 0 (l := fa2) (f := (.fa (.exc "BookError"))) rfl rfl)
theorem t_ec_BookError (T : Top K mg) : ExcC K (gA K "BookError") ∧ XfC K (gA K "BookError") := ec_ok (T.fact 2 1 (l := fa2) (f := (.ec "BookError")) rfl rfl)
theorem t_x_NoNumber (T : Top K mg) : PySem.W.excIn K (gA K "NoNumber") He.veBase "ValueError.__new__" = true ∧ PySem.W.keepIn K (.ref (gA K "NoNumber")) = true ∧ PySem.W.subIn K (.ref (gA K "NoNumber")) (.type "BaseException") = some true ∧ PySem.W.typeIn K (.ref (gA K "NoNumber")) = some (.type "type") := He.exc_ok (T.fact 2 2 (l := fa2) (f := (.fa (.exc "NoNumber"))) rfl rfl)
theorem t_ec_NoNumber (T : Top K mg) : ExcC K (gA K "NoNumber") ∧ XfC K (gA K "NoNumber") := ec_ok (T.fact 2 3 (l := fa2) (f := (.ec "NoNumber")) rfl rfl)
theorem t_x_NoRule (T : Top K mg) : PySem.W.excIn K (gA K "NoRule") He.veBase "ValueError.__new__" = true ∧ PySem.W.keepIn K (.ref (gA K "NoRule")) = true ∧ PySem.W.subIn K (.ref (gA K "NoRule")) (.type "BaseException") = some true ∧ PySem.W.typeIn K (.ref (gA K "NoRule")) = some (.type "type") := He.exc_ok (T.fact 2 4 (l := fa2) (f := (.fa (.exc "NoRule"))) rfl rfl)
theorem t_ec_NoRule (T : Top K mg) : ExcC K (gA K "NoRule") ∧ XfC K (gA K "NoRule") := ec_ok (T.fact 2 5 (l := fa2) (f := (.ec "NoRule")) rfl rfl)
theorem t_o_NoText (T : Top K mg) : OexC K (gA K "NoText") ∧ PySem.W.findIn K (.ref (gA K "NoText")) "__init__" = some (some (.ref (mA K "NoText" "__init__"))) ∧ PySem.W.typeIn K (.ref (mA K "NoText" "__init__")) = some (.type "function") := ox_ok (T.fact 2 6 (l := fa2) (f := (.ox "NoText")) rfl rfl)
theorem t_n_NoText_line (T : Top K mg) : PySem.W.findIn K (.ref (gA K "NoText")) "line" = some none := He.noat_ok (T.fact 2 7 (l := fa2) (f := (.fa (.noat "NoText" "line"))) rfl rfl)
theorem t_ec_NoText (T : Top K mg) : ExcC K (gA K "NoText") ∧ XfC K (gA K "NoText") := ec_ok (T.fact 2 8 (l := fa2) (f := (.ec "NoText")) rfl rfl)
theorem t_c_Rule (T : Top K mg) : Cls K (gA K "Rule") := He.cls_ok (T.fact 2 9 (l := fa2) (f := (.fa (.cls "Rule"))) rfl rfl)
theorem t_n_Rule_row (T : Top K mg) : NoAttr K (gA K "Rule") "row" := He.noat_ok (T.fact 2 10 (l := fa2) (f := (.fa (.noat "Rule" "row"))) rfl rfl)
theorem t_n_Rule_end (T : Top K mg) : NoAttr K (gA K "Rule") "end" := He.noat_ok (T.fact 2 11 (l := fa2) (f := (.fa (.noat "Rule" "end"))) rfl rfl)
theorem t_m_Rule_steps (T : Top K mg) : Meth K (gA K "Rule") "steps" (mA K "Rule" "steps") := He.meth_ok (T.fact 2 12 (l := fa2) (f := (.fa (.meth "Rule" "steps"))) rfl rfl)
theorem t_m_Rule_gone (T : Top K mg) : Meth K (gA K "Rule") "gone" (mA K "Rule" "gone") := He.meth_ok (T.fact 2 13 (l := fa2) (f := (.fa (.meth "Rule" "gone"))) rfl rfl)
theorem t_m_Rule_room (T : Top K mg) : Meth K (gA K "Rule") "room" (mA K "Rule" "room") := He.meth_ok (T.fact 2 14 (l := fa2) (f := (.fa (.meth "Rule" "room"))) rfl rfl)
theorem t_mk_Rule (T : Top K mg) : Mk K (gA K "Rule") (mA K "Rule" "__init__") := He.mkr_ok (T.fact 2 15 (l := fa2) (f := (.fa (.mkr "Rule"))) rfl rfl)
theorem t_vi (T : Top K mg) : PySem.W.readsIn K (gA K "BookError") (.type "type") = true ∧ PySem.W.specialIn K (.ref (gA K "BookError")) "__getattribute__" = some (some (.builtin "type.__getattribute__")) ∧ PySem.W.findCls K (.ref (gA K "BookError")) (.type "type") "__init__" = some (.val (.builtin "ValueError.__init__")) := vi_ok (T.fact 3 0 (l := fa3) (f := (.vi "BookError")) rfl rfl)
theorem t_e_BookError_NoRule (T : Top K mg) : PySem.W.exmOne K (.ref (gA K "BookError")) (.ref (gA K "NoRule")) = some false := He.exm_ok (T.fact 3 1 (l := fa3) (f := (.fa (.exm "BookError" "NoRule" false))) rfl rfl)
theorem t_e_NoNumber_NoRule (T : Top K mg) : PySem.W.exmOne K (.ref (gA K "NoNumber")) (.ref (gA K "NoRule")) = some false := He.exm_ok (T.fact 3 2 (l := fa3) (f := (.fa (.exm "NoNumber" "NoRule" false))) rfl rfl)
theorem t_e_NoRule_NoRule (T : Top K mg) : PySem.W.exmOne K (.ref (gA K "NoRule")) (.ref (gA K "NoRule")) = some true := He.exm_ok (T.fact 3 3 (l := fa3) (f := (.fa (.exm "NoRule" "NoRule" true))) rfl rfl)
theorem t_e_NoText_NoRule (T : Top K mg) : PySem.W.exmOne K (.ref (gA K "NoText")) (.ref (gA K "NoRule")) = some false := He.exm_ok (T.fact 3 4 (l := fa3) (f := (.fa (.exm "NoText" "NoRule" false))) rfl rfl)
theorem t_e_BookError_BookError (T : Top K mg) : PySem.W.exmOne K (.ref (gA K "BookError")) (.ref (gA K "BookError")) = some true := He.exm_ok (T.fact 3 5 (l := fa3) (f := (.fa (.exm "BookError" "BookError" true))) rfl rfl)
theorem t_e_NoNumber_BookError (T : Top K mg) : PySem.W.exmOne K (.ref (gA K "NoNumber")) (.ref (gA K "BookError")) = some true := He.exm_ok (T.fact 3 6 (l := fa3) (f := (.fa (.exm "NoNumber" "BookError" true))) rfl rfl)
theorem t_e_NoRule_BookError (T : Top K mg) : PySem.W.exmOne K (.ref (gA K "NoRule")) (.ref (gA K "BookError")) = some true := He.exm_ok (T.fact 3 7 (l := fa3) (f := (.fa (.exm "NoRule" "BookError" true))) rfl rfl)
theorem t_e_NoText_BookError (T : Top K mg) : PySem.W.exmOne K (.ref (gA K "NoText")) (.ref (gA K "BookError")) = some true := He.exm_ok (T.fact 3 8 (l := fa3) (f := (.fa (.exm "NoText" "BookError" true))) rfl rfl)
theorem t_k_BookError_NoText (T : Top K mg) : PySem.W.kitOne K (.ref (gA K "BookError")) (.ref (gA K "NoText")) = some false := kit_ok (T.fact 3 9 (l := fa3) (f := (.kit "BookError" "NoText" false)) rfl rfl)
theorem t_k_NoNumber_NoText (T : Top K mg) : PySem.W.kitOne K (.ref (gA K "NoNumber")) (.ref (gA K "NoText")) = some false := kit_ok (T.fact 3 10 (l := fa3) (f := (.kit "NoNumber" "NoText" false)) rfl rfl)
theorem t_k_NoRule_NoText (T : Top K mg) : PySem.W.kitOne K (.ref (gA K "NoRule")) (.ref (gA K "NoText")) = some false := kit_ok (T.fact 3 11 (l := fa3) (f := (.kit "NoRule" "NoText" false)) rfl rfl)
theorem t_k_NoText_NoText (T : Top K mg) : PySem.W.kitOne K (.ref (gA K "NoText")) (.ref (gA K "NoText")) = some true := kit_ok (T.fact 3 12 (l := fa3) (f := (.kit "NoText" "NoText" true)) rfl rfl)
theorem t_isi_Rule (T : Top K mg) : C8.InsC K (gA K "Rule") := isi_ok (T.fact 3 13 (l := fa3) (f := (.isi "Rule")) rfl rfl) (t_c_Rule T)
theorem t_k_BookError_NoRule (T : Top K mg) : PySem.W.kitOne K (.ref (gA K "BookError")) (.ref (gA K "NoRule")) = some false := kit_ok (T.fact 3 14 (l := fa3) (f := (.kit "BookError" "NoRule" false)) rfl rfl)
theorem t_k_NoNumber_NoRule (T : Top K mg) : PySem.W.kitOne K (.ref (gA K "NoNumber")) (.ref (gA K "NoRule")) = some false := kit_ok (T.fact 3 15 (l := fa3) (f := (.kit "NoNumber" "NoRule" false)) rfl rfl)
theorem t_k_NoRule_NoRule (T : Top K mg) : PySem.W.kitOne K (.ref (gA K "NoRule")) (.ref (gA K "NoRule")) = some true := kit_ok (T.fact 4 0 (l := fa4) (f := (.kit "NoRule" "NoRule" true)) rfl rfl)
theorem t_k_NoText_NoRule (T : Top K mg) : PySem.W.kitOne K (.ref (gA K "NoText")) (.ref (gA K "NoRule")) = some false := kit_ok (T.fact 4 1 (l := fa4) (f := (.kit "NoText" "NoRule" false)) rfl rfl)
theorem t_k_BookError_NoNumber (T : Top K mg) : PySem.W.kitOne K (.ref (gA K "BookError")) (.ref (gA K "NoNumber")) = some false := kit_ok (T.fact 4 2 (l := fa4) (f := (.kit "BookError" "NoNumber" false)) rfl rfl)
theorem t_k_NoNumber_NoNumber (T : Top K mg) : PySem.W.kitOne K (.ref (gA K "NoNumber")) (.ref (gA K "NoNumber")) = some true := kit_ok (T.fact 4 3 (l := fa4) (f := (.kit "NoNumber" "NoNumber" true)) rfl rfl)
theorem t_k_NoRule_NoNumber (T : Top K mg) : PySem.W.kitOne K (.ref (gA K "NoRule")) (.ref (gA K "NoNumber")) = some false := kit_ok (T.fact 4 4 (l := fa4) (f := (.kit "NoRule" "NoNumber" false)) rfl rfl)
theorem t_k_NoText_NoNumber (T : Top K mg) : PySem.W.kitOne K (.ref (gA K "NoText")) (.ref (gA K "NoNumber")) = some false := kit_ok (T.fact 4 5 (l := fa4) (f := (.kit "NoText" "NoNumber" false)) rfl rfl)
theorem t_d__wall (T : Top K mg) : FunD K "_wall" "_wall" (defArgs s__wall) (defBody s__wall) (defScope s__wall) [] [] (gA K "_wall") (fdOf K ("_wall", none)) := T.def_ 0 0 (l := fn0) (d := d__wall) rfl rfl
theorem t_b__wall (T : Top K mg) : Binds K (fdOf K ("_wall", none)) ["k"] [] := (t_d__wall T).bindsN fun _ _ _ _ _ _ us hl => match us, hl with | [_], _ => rfl
theorem t_d_NoText___init__ (T : Top K mg) : FunD K "__init__" "NoText.__init__" (defArgs s_NoText___init__) (defBody s_NoText___init__) (defScope s_NoText___init__) [] [] (mA K "NoText" "__init__") (fdOf K ("NoText", some "__init__")) := T.def_ 0 1 (l := fn0) (d := d_NoText___init__) rfl rfl
theorem t_b_NoText___init__ (T : Top K mg) : Binds K (fdOf K ("NoText", some "__init__")) ["self", "line"] [] := (t_d_NoText___init__ T).bindsN fun _ _ _ _ _ _ us hl => match us, hl with | [_, _], _ => rfl
theorem t_d_Rule___init__ (T : Top K mg) : FunD K "__init__" "Rule.__init__" (defArgs s_Rule___init__) (defBody s_Rule___init__) (defScope s_Rule___init__) [V.non] [] (mA K "Rule" "__init__") (fdOf K ("Rule", some "__init__")) := T.def_ 0 2 (l := fn0) (d := d_Rule___init__) rfl rfl
theorem t_b_Rule___init___2 (T : Top K mg) : ∃ ds, Vals [V.non] ds ∧ Binds K (fdOf K ("Rule", some "__init__")) ["self", "steps", "gone"] ds := (t_d_Rule___init__ T).binds1 2 0 (by intro z; cases z) rfl fun _ _ _ _ _ _ _ us its h1 h2 => match us, its, h1, h2 with | [_, _], [_], _, _ => ⟨_, rfl, rfl⟩
theorem t_b_Rule___init___3 (T : Top K mg) : ∃ ds, Vals ([] : List V) ds ∧ Binds K (fdOf K ("Rule", some "__init__")) ["self", "steps", "gone"] ds := (t_d_Rule___init__ T).binds1 3 1 (by intro z; cases z) rfl fun _ _ _ _ _ _ _ us its h1 h2 => match us, its, h1, h2 with | [_, _, _], [_], _, _ => ⟨_, rfl, rfl⟩
theorem t_d_Rule_steps (T : Top K mg) : FunD K "steps" "Rule.steps" (defArgs s_Rule_steps) (defBody s_Rule_steps) (defScope s_Rule_steps) [] [] (mA K "Rule" "steps") (fdOf K ("Rule", some "steps")) := T.def_ 0 3 (l := fn0) (d := d_Rule_steps) rfl rfl
theorem t_b_Rule_steps (T : Top K mg) : Binds K (fdOf K ("Rule", some "steps")) ["self"] [] := (t_d_Rule_steps T).bindsN fun _ _ _ _ _ _ us hl => match us, hl with | [_], _ => rfl
theorem t_d_Rule_gone (T : Top K mg) : FunD K "gone" "Rule.gone" (defArgs s_Rule_gone) (defBody s_Rule_gone) (defScope s_Rule_gone) [] [] (mA K "Rule" "gone") (fdOf K ("Rule", some "gone")) := T.def_ 0 4 (l := fn0) (d := d_Rule_gone) rfl rfl
theorem t_b_Rule_gone (T : Top K mg) : Binds K (fdOf K ("Rule", some "gone")) ["self"] [] := (t_d_Rule_gone T).bindsN fun _ _ _ _ _ _ us hl => match us, hl with | [_], _ => rfl
theorem t_d_Rule_room (T : Top K mg) : FunD K "room" "Rule.room" (defArgs s_Rule_room) (defBody s_Rule_room) (defScope s_Rule_room) [] [] (mA K "Rule" "room") (fdOf K ("Rule", some "room")) := T.def_ 0 5 (l := fn0) (d := d_Rule_room) rfl rfl
theorem t_b_Rule_room (T : Top K mg) : Binds K (fdOf K ("Rule", some "room")) ["self"] [] := (t_d_Rule_room T).bindsN fun _ _ _ _ _ _ us hl => match us, hl with | [_], _ => rfl
theorem t_d_needed (T : Top K mg) : FunD K "needed" "needed" (defArgs s_needed) (defBody s_needed) (defScope s_needed) [] [] (gA K "needed") (fdOf K ("needed", none)) := T.def_ 0 6 (l := fn0) (d := d_needed) rfl rfl
theorem t_b_needed (T : Top K mg) : Binds K (fdOf K ("needed", none)) ["truth"] [] := (t_d_needed T).bindsN fun _ _ _ _ _ _ us hl => match us, hl with | [_], _ => rfl
theorem t_d_show_number (T : Top K mg) : FunD K "show_number" "show_number" (defArgs s_show_number) (defBody s_show_number) (defScope s_show_number) [] [] (gA K "show_number") (fdOf K ("show_number", none)) := T.def_ 0 7 (l := fn0) (d := d_show_number) rfl rfl
theorem t_b_show_number (T : Top K mg) : Binds K (fdOf K ("show_number", none)) ["number"] [] := (t_d_show_number T).bindsN fun _ _ _ _ _ _ us hl => match us, hl with | [_], _ => rfl
theorem t_d_read_number (T : Top K mg) : FunD K "read_number" "read_number" (defArgs s_read_number) (defBody s_read_number) (defScope s_read_number) [] [] (gA K "read_number") (fdOf K ("read_number", none)) := T.def_ 0 8 (l := fn0) (d := d_read_number) rfl rfl
theorem t_b_read_number (T : Top K mg) : Binds K (fdOf K ("read_number", none)) ["text"] [] := (t_d_read_number T).bindsN fun _ _ _ _ _ _ us hl => match us, hl with | [_], _ => rfl
theorem t_d_show_rule (T : Top K mg) : FunD K "show_rule" "show_rule" (defArgs s_show_rule) (defBody s_show_rule) (defScope s_show_rule) [] [] (gA K "show_rule") (fdOf K ("show_rule", none)) := T.def_ 0 9 (l := fn0) (d := d_show_rule) rfl rfl
theorem t_b_show_rule (T : Top K mg) : Binds K (fdOf K ("show_rule", none)) ["rule"] [] := (t_d_show_rule T).bindsN fun _ _ _ _ _ _ us hl => match us, hl with | [_], _ => rfl
theorem t_d_read_step (T : Top K mg) : FunD K "read_step" "read_step" (defArgs s_read_step) (defBody s_read_step) (defScope s_read_step) [] [] (gA K "read_step") (fdOf K ("read_step", none)) := T.def_ 0 10 (l := fn0) (d := d_read_step) rfl rfl
theorem t_b_read_step (T : Top K mg) : Binds K (fdOf K ("read_step", none)) ["word"] [] := (t_d_read_step T).bindsN fun _ _ _ _ _ _ us hl => match us, hl with | [_], _ => rfl
theorem t_d_read_rule (T : Top K mg) : FunD K "read_rule" "read_rule" (defArgs s_read_rule) (defBody s_read_rule) (defScope s_read_rule) [] [] (gA K "read_rule") (fdOf K ("read_rule", none)) := T.def_ 0 11 (l := fn0) (d := d_read_rule) rfl rfl
theorem t_b_read_rule (T : Top K mg) : Binds K (fdOf K ("read_rule", none)) ["text"] [] := (t_d_read_rule T).bindsN fun _ _ _ _ _ _ us hl => match us, hl with | [_], _ => rfl
theorem t_d__law_mixed (T : Top K mg) : FunD K "_law_mixed" "_law_mixed" (defArgs s__law_mixed) (defBody s__law_mixed) (defScope s__law_mixed) [] [] (gA K "_law_mixed") (fdOf K ("_law_mixed", none)) := T.def_ 1 0 (l := fn1) (d := d__law_mixed) rfl rfl
theorem t_b__law_mixed (T : Top K mg) : Binds K (fdOf K ("_law_mixed", none)) ["_law_x", "_law_k"] [] := (t_d__law_mixed T).bindsN fun _ _ _ _ _ _ us hl => match us, hl with | [_, _], _ => rfl
theorem t_d__law_amount (T : Top K mg) : FunD K "_law_amount" "_law_amount" (defArgs s__law_amount) (defBody s__law_amount) (defScope s__law_amount) [] [] (gA K "_law_amount") (fdOf K ("_law_amount", none)) := T.def_ 1 1 (l := fn1) (d := d__law_amount) rfl rfl
theorem t_b__law_amount (T : Top K mg) : Binds K (fdOf K ("_law_amount", none)) ["_law_x"] [] := (t_d__law_amount T).bindsN fun _ _ _ _ _ _ us hl => match us, hl with | [_], _ => rfl
theorem t_d__law_rule (T : Top K mg) : FunD K "_law_rule" "_law_rule" (defArgs s__law_rule) (defBody s__law_rule) (defScope s__law_rule) [] [] (gA K "_law_rule") (fdOf K ("_law_rule", none)) := T.def_ 1 2 (l := fn1) (d := d__law_rule) rfl rfl
theorem t_b__law_rule (T : Top K mg) : Binds K (fdOf K ("_law_rule", none)) ["_law_number"] [] := (t_d__law_rule T).bindsN fun _ _ _ _ _ _ us hl => match us, hl with | [_], _ => rfl
theorem t_d__law_text (T : Top K mg) : FunD K "_law_text" "_law_text" (defArgs s__law_text) (defBody s__law_text) (defScope s__law_text) [] [] (gA K "_law_text") (fdOf K ("_law_text", none)) := T.def_ 1 3 (l := fn1) (d := d__law_text) rfl rfl
theorem t_b__law_text (T : Top K mg) : Binds K (fdOf K ("_law_text", none)) ["_law_rows", "_law_end"] [] := (t_d__law_text T).bindsN fun _ _ _ _ _ _ us hl => match us, hl with | [_, _], _ => rfl
theorem t_d__law_spoilt (T : Top K mg) : FunD K "_law_spoilt" "_law_spoilt" (defArgs s__law_spoilt) (defBody s__law_spoilt) (defScope s__law_spoilt) [] [] (gA K "_law_spoilt") (fdOf K ("_law_spoilt", none)) := T.def_ 1 4 (l := fn1) (d := d__law_spoilt) rfl rfl
theorem t_b__law_spoilt (T : Top K mg) : Binds K (fdOf K ("_law_spoilt", none)) ["_law_text_here", "_law_rows", "_law_cell"] [] := (t_d__law_spoilt T).bindsN fun _ _ _ _ _ _ us hl => match us, hl with | [_, _, _], _ => rfl
theorem t_d__law_no_rule (T : Top K mg) : FunD K "_law_no_rule" "_law_no_rule" (defArgs s__law_no_rule) (defBody s__law_no_rule) (defScope s__law_no_rule) [] [] (gA K "_law_no_rule") (fdOf K ("_law_no_rule", none)) := T.def_ 1 5 (l := fn1) (d := d__law_no_rule) rfl rfl
theorem t_b__law_no_rule (T : Top K mg) : Binds K (fdOf K ("_law_no_rule", none)) ["_law_rows", "_law_end", "_law_cell"] [] := (t_d__law_no_rule T).bindsN fun _ _ _ _ _ _ us hl => match us, hl with | [_, _, _], _ => rfl
theorem t_d__law_refused (T : Top K mg) : FunD K "_law_refused" "_law_refused" (defArgs s__law_refused) (defBody s__law_refused) (defScope s__law_refused) [] [] (gA K "_law_refused") (fdOf K ("_law_refused", none)) := T.def_ 1 6 (l := fn1) (d := d__law_refused) rfl rfl
theorem t_b__law_refused (T : Top K mg) : Binds K (fdOf K ("_law_refused", none)) ["_law_text_here"] [] := (t_d__law_refused T).bindsN fun _ _ _ _ _ _ us hl => match us, hl with | [_], _ => rfl
theorem t_d_law (T : Top K mg) : FunD K "law" "law" (defArgs s_law) (defBody s_law) (defScope s_law) [] [] (gA K "law") (fdOf K ("law", none)) := T.def_ 1 7 (l := fn1) (d := d_law) rfl rfl
theorem t_b_law (T : Top K mg) : Binds K (fdOf K ("law", none)) ["_law_script"] [] := (t_d_law T).bindsN fun _ _ _ _ _ _ us hl => match us, hl with | [_], _ => rfl
end
abbrev R : PySem.W.OpenRow := PySem.W.OpenLaw.row PySem.Challenge.rw_thinbook_k82_rules_written
abbrev hk : PySem.W.Hook := hookY fas fns
def ob (s : PySem.W.SharedT) : Bool × List (List He.FnW) := obsY fas fns (HandSHeadRun.getT s)
theorem ob_eq (s : PySem.W.SharedT) : ob s = hk.obs s.abs := obsY_eq (HandSHeadRun.getT_eq s)
def loose : List PySem.Str := (["_wall", "BookError", "NoNumber", "NoRule", "NoText", "MOST_STEPS", "Rule", "FIGURES", "MOST_FIGURES", "needed", "show_number", "read_number", "show_rule", "read_step", "read_rule", "_law_mixed", "_law_amount", "_law_rule", "_law_text", "_law_spoilt"] : List PySem.Str) ++ (["_law_no_rule", "_law_refused"] : List PySem.Str)
theorem run (w : World) : HandSHeadRun.RunEq R (PySem.W.view R.prog [26]) hk ob 2000 loose w := by
  intro os
  kernel_rfl
end T
namespace T
open PySem PySem.Spec PyProof.Rows L2 Y
/-- one step -/
local macro_rules
  | `(tactic| walk_at "s") => `(tactic| first
    | with_reducible refine w_seq ?_
    | with_reducible refine w_asg ?_
    | with_reducible refine w_name ?_
    | ((with_reducible apply w_var); (first | rfl | assumption))
    | with_reducible refine w_c ?_
    | with_reducible refine w_op ?_
    | with_reducible refine r_I0 ?_
    | ((with_reducible refine r_I ?_ ?_); (first | decide | (left; constructor <;> (first | decide | omega)) | (right; constructor <;> (first | decide | omega)) | (constructor <;> (first | decide | omega)) | omega))
    | with_reducible refine w_test ?_
    | with_reducible refine w_bl ?_
    | with_reducible refine w_if ?_
    | with_reducible refine w_ret ?_
    | with_reducible refine w_cons ?_
    | with_reducible refine w_nil ?_
    | with_reducible refine w_cb ?_
    | with_reducible refine w_call ?_
    | with_reducible refine w_not ?_
    | with_reducible refine w_and ?_
    | with_reducible refine w_or ?_
    | with_reducible refine w_tB ?_
    | with_reducible refine w_un ?_
    | with_reducible refine r_U ?_
    | with_reducible refine w_drop ?_
    | with_reducible refine w_next ?_
    | with_reducible refine w_retN ?_
    | with_reducible refine w_lst ?_
    | with_reducible refine w_tup ?_
    | with_reducible refine w_sl ?_
    | with_reducible refine w_nopart ?_
    | with_reducible refine w_part ?_
    | with_reducible refine w_i ?_
    | with_reducible refine r_eqI ?_
    | with_reducible refine r_neI ?_
    | with_reducible refine r_eqS ?_
    | with_reducible refine r_neS ?_
    | with_reducible refine w_notV ?_
    | with_reducible refine w_andV ?_
    | with_reducible refine w_orV ?_
    | with_reducible refine w_ife ?_
    | with_reducible refine w_m1 ?_
    | with_reducible refine w_strand ?_
    | with_reducible refine w_par ?_
    | with_reducible refine w_par2 ?_
    | with_reducible refine w_fld ?_
    | with_reducible refine w_gcons ?_
    | with_reducible refine w_gnil ?_
    | with_reducible refine w_gsub ?_
    | with_reducible refine w_bm ?_
    | with_reducible refine w_cont ?_
    | with_reducible refine w_brk ?_
    | with_reducible refine r_intB ?_
    | with_reducible refine r_intI ?_
    | with_reducible refine r_inS ?_
    | with_reducible refine r_starts ?_
    | with_reducible refine w_chain ?_
    | with_reducible refine w_ve ?_
    | with_reducible refine w_ost ?_
    | with_reducible refine w_sfld ?_
    | with_reducible refine w_meth ?_
    | with_reducible refine w_make ?_
    | with_reducible refine w_forl ?_
    | with_reducible refine w_forr ?_
    | with_reducible refine w_lcl ?_
    | with_reducible refine w_lcs ?_
    | with_reducible refine w_aug rfl ?_)
section
variable {P : Program} {w : World} {K : PySem.W.Frag} {mg : Str → Option Value} {base : Heap}
def mixed (x k : Int) : Int :=
  let n := (x % 2147483647 + 7919 * k + 1) * 48271 % 2147483647
  n * (n / 1009 + 69621) % 2147483647
theorem mixed_lt (x k : Int) : 0 ≤ mixed x k ∧ mixed x k < 2147483647 := by
  unfold mixed
  constructor
  · exact Int.emod_nonneg _ (by decide)
  · exact Int.emod_lt_of_pos _ (by decide)
def sp_mixed : Sp := fun vs H Q _ => ∃ x k : Int, vs = [.int x, .int k] ∧ -(2 ^ 20) < k ∧ k < 2 ^ 20 ∧ Q (.int (mixed x k)) H
abbrev N__law_mixed : List Str := ["_law_x", "_law_k", "_law_number"]
theorem sc__law_mixed : FnScope N__law_mixed ["_law_x", "_law_k"] (defScope s__law_mixed) := ⟨rfl, rfl, rfl, by decide +kernel, rfl, by decide +kernel, by decide +kernel⟩
theorem ok__law_mixed (T : Top K mg) : FnY P w K mg base 1 (gA K "_law_mixed") (fdOf K ("_law_mixed", none)) ["_law_x", "_law_k"] sp_mixed := by
  have sc := sc__law_mixed
  refine okY (t_d__law_mixed T) sc (fun vs H Q E h => by first | exact sp_len h | (obtain ⟨_, rfl, _⟩ := h; rfl) | (obtain ⟨_, _, rfl, _⟩ := h; rfl) | (obtain ⟨_, _, _, rfl, _⟩ := h; rfl) | (obtain ⟨_, _, _, _, rfl, _⟩ := h; rfl) | (obtain ⟨_, _, _, _, _, rfl, _⟩ := h; rfl)) (fun cdv A outer s H vs Q E B h => ⟨_, (pss_cons (ps_set (i := 2) sc.nd rfl (.inl rfl) (pe_op op_mod (pe_op op_mul (pe_op op_add (pe_op op_add (pe_op op_mod (pv 0) pe_int) (pe_op op_mul pe_int (pv 1))) pe_int) pe_int) pe_int))
      (pss_one (ps_ret (pe_op op_mod (pe_op op_mulW (pv 2) (pe_op op_add (pe_op op_fdiv (pv 2) pe_int) pe_int)) pe_int)))), ?_⟩)
  obtain ⟨x, k, rfl, h1, h2, hQ⟩ := h
  repeat walk_at "s"
  have e : ∃ n : Int, n = (x % 2147483647 + 7919 * k + 1) * 48271 % 2147483647 := ⟨_, rfl⟩
  obtain ⟨n, en⟩ := e
  have hn : 0 ≤ n ∧ n < 2147483647 := by rw [en]; exact ⟨Int.emod_nonneg _ (by decide), Int.emod_lt_of_pos _ (by decide)⟩
  rw [← en]
  refine r_I (cmulW 32 32 (by omega) (by omega) (by decide)) ?_
  repeat walk_at "s"
  rw [en]
  exact hQ
def amount (x : Int) : Int := if x % 4 = 0 then 0 else if x % 4 = 1 then x / 4 % 5 else if x % 4 = 2 then x / 4 % 100 else x / 4 * (10 ^ 12 + 39)
theorem amount_lt {x : Int} (h0 : 0 ≤ x) (h1 : x < 2147483647) : 0 ≤ amount x ∧ amount x < 10 ^ 22 := by
  unfold amount
  split
  · exact ⟨by decide, by decide⟩
  · split
    · omega
    · split <;> omega
def sp_amount : Sp := fun vs H Q _ => ∃ x : Int, vs = [.int x] ∧ 0 ≤ x ∧ x < 2147483647 ∧ ∀ H', Ex H H' → Q (.int (amount x)) H'
abbrev N__law_amount : List Str := ["_law_x"]
theorem sc__law_amount : FnScope N__law_amount ["_law_x"] (defScope s__law_amount) := ⟨rfl, rfl, rfl, by decide +kernel, rfl, by decide +kernel, by decide +kernel⟩
theorem ok__law_amount (T : Top K mg) : FnY P w K mg base 1 (gA K "_law_amount") (fdOf K ("_law_amount", none)) ["_law_x"] sp_amount := by
  have sc := sc__law_amount
  refine okY (t_d__law_amount T) sc (fun vs H Q E h => by first | exact sp_len h | (obtain ⟨_, rfl, _⟩ := h; rfl) | (obtain ⟨_, _, rfl, _⟩ := h; rfl) | (obtain ⟨_, _, _, rfl, _⟩ := h; rfl) | (obtain ⟨_, _, _, _, rfl, _⟩ := h; rfl) | (obtain ⟨_, _, _, _, _, rfl, _⟩ := h; rfl)) (fun cdv A outer s H vs Q E B h => ⟨_, (pss_one (ps_ret (pe_ix ix_list (pe_lst (pa_cons pe_int (pa_cons (pe_op op_mod (pe_op op_fdiv (pv 0) pe_int) pe_int) (pa_cons (pe_op op_mod (pe_op op_fdiv (pv 0) pe_int) pe_int) (pa_cons (pe_op op_mulW (pe_op op_fdiv (pv 0) pe_int) (pe_op op_add (pe_op op_pow pe_int pe_int) pe_int)) pa_nil))))) (pe_op op_mod (pv 0) pe_int) (fun _ _ => rfl)))), ?_⟩)
  obtain ⟨x, rfl, h1, h2, hQ⟩ := h
  repeat walk_at "s"
  refine r_I (cmulW 40 64 (by omega) (by decide) (by decide)) ?_
  repeat walk_at "s"
  refine nL le5 fun p H1 e1 np _ hp => ?_
  repeat walk_at "s"
  refine r_ixL (v := .int (amount x)) (sqL hp) ?_ (hQ _ e1)
  unfold amount
  have c : x % 4 = 0 ∨ x % 4 = 1 ∨ x % 4 = 2 ∨ x % 4 = 3 := by omega
  rcases c with c | c | c | c <;> rw [c] <;> rfl
def small (i : Int) : Prop := i.natAbs < 2 ^ 1900
def sp_show_number : Sp := fun vs H Q _ => ∃ i : Int, vs = [.int i] ∧ small i ∧ Q (.str (toString i)) H
abbrev N_show_number : List Str := ["number"]
theorem sc_show_number : FnScope N_show_number ["number"] (defScope s_show_number) := ⟨rfl, rfl, rfl, by decide +kernel, rfl, by decide +kernel, by decide +kernel⟩
theorem ok_show_number (T : Top K mg) : FnY P w K mg base 1 (gA K "show_number") (fdOf K ("show_number", none)) ["number"] sp_show_number := by
  have sc := sc_show_number
  refine okY (t_d_show_number T) sc (fun vs H Q E h => by first | exact sp_len h | (obtain ⟨_, rfl, _⟩ := h; rfl) | (obtain ⟨_, _, rfl, _⟩ := h; rfl) | (obtain ⟨_, _, _, rfl, _⟩ := h; rfl) | (obtain ⟨_, _, _, _, rfl, _⟩ := h; rfl) | (obtain ⟨_, _, _, _, _, rfl, _⟩ := h; rfl)) (fun cdv A outer s H vs Q E B h => ⟨_, (pss_one (ps_ret (pe_callTy call_strI (by rfl) (t_b_str T) (by decide +kernel) (pa_cons (pv 0) pa_nil)))), ?_⟩)
  obtain ⟨x, rfl, h1, hQ⟩ := h
  repeat walk_at "s"
  exact r_strI (by have := log2_le h1; omega) hQ
def sp_NoText (K : PySem.W.Frag) : Sp := fun vs H Q _ => ∃ (a : Addr) (line : Int), vs = [.ref a, .int line] ∧ H a = some (exo a (gA K "NoText") none) ∧
  ∀ dx, H dx = none → dx ≠ a → Q .non (upd (upd H dx (exd dx [("line", .int line)])) a (exo a (gA K "NoText") (some dx)))
abbrev N_NoText___init__ : List Str := ["self", "line"]
theorem sc_NoText___init__ : FnScope N_NoText___init__ ["self", "line"] (defScope s_NoText___init__) := ⟨rfl, rfl, rfl, by decide +kernel, rfl, by decide +kernel, by decide +kernel⟩
theorem ok_NoText___init__ (T : Top K mg) : FnA P w K mg base 1 (mA K "NoText" "__init__") (fdOf K ("NoText", some "__init__")) ["self", "line"] (sp_NoText K) := by
  have sc := sc_NoText___init__
  refine okA (t_d_NoText___init__ T) sc (fun vs H Q E h => by first | exact sp_len h | (obtain ⟨_, rfl, _⟩ := h; rfl) | (obtain ⟨_, _, rfl, _⟩ := h; rfl) | (obtain ⟨_, _, _, rfl, _⟩ := h; rfl) | (obtain ⟨_, _, _, _, rfl, _⟩ := h; rfl) | (obtain ⟨_, _, _, _, _, rfl, _⟩ := h; rfl)) (fun cdv A outer s H vs Q E B h => ⟨_, (pss_cons (ps_expr (pe_bkinit rfl (t_g_BookError T) (t_vi T).1 (t_vi T).2.1 (t_vi T).2.2 (pa_cons (pv 0) (pa_cons pe_str pa_nil))))
      (pss_one (ps_ost (pv 0) (pv 1)))), ?_⟩)
  obtain ⟨a, line, rfl, ha, hQ⟩ := h
  repeat walk_at "s"
  refine ⟨a, gA K "NoText", _, rfl, by decide, (t_o_NoText T).1, ha, ?_⟩
  repeat walk_at "s"
  exact ⟨a, gA K "NoText", rfl, (t_o_NoText T).1, t_n_NoText_line T, .inl ⟨ha, fun dx h1 h2 => hQ dx h1 h2⟩⟩
/-- NoText(line) is told of E -/
def ErrT (K : PySem.W.Frag) (line : Int) (E : XK) (H : Hp) : Prop := ∀ d H', Ex H H' → H' d = some (.xd [("line", .int line)]) → E (.ref (gA K "NoText")) (some d) H'
theorem ErrT.mono {line : Int} {E : XK} {H H' : Hp} (e : Ex H H') (h : ErrT K line E H) : ErrT K line E H' := fun d H2 e2 => h d H2 (e.trans e2)
theorem mk_NoText {ta : TA} {σ : L2.St} {H : Hp} {line : Int} {Qx : XK} (h : ta σ H fun vs H1 => vs = [.int line] ∧ ErrT K line Qx H1) (mono : ∀ {Q Q' : List V → Hp → Prop}, (∀ x H, Q x H → Q' x H) → ta σ H Q → ta σ H Q') : tMkO (gA K "NoText") (sp_NoText K) [] ta σ H Qx := by
  refine mono (fun vs H1 hh => ?_) h
  obtain ⟨rfl, hE⟩ := hh
  refine ⟨Nat.le_of_ble_eq_true rfl, fun a ha => ⟨a, line, rfl, upd_same, fun dx hdx ne => ⟨rfl, dx, _, upd_same, ?_, ?_, hE dx _ ?_ upd_same⟩⟩⟩
  · rw [upd_ne ne, upd_same]
  · rw [upd_ne ne] at hdx
    exact hdx
  · intro b o hb
    have n1 : b ≠ a := ne_of_none hb ha
    have n2 : b ≠ dx := by
      rw [upd_ne ne] at hdx
      exact ne_of_none hb hdx
    rw [upd_ne n2, del_ne n1, upd_ne n1, upd_ne n2, upd_ne n1]
    exact hb
theorem raise_NoText {σ : L2.St} {H : Hp} {line : Int} {Qx : XK} (h : ErrT K line Qx H) : tMkO (gA K "NoText") (sp_NoText K) [] (tCons (tC (.int line)) tNil) σ H Qx :=
  mk_NoText ⟨rfl, h⟩ fun q z => q _ _ z
def sp_needed (K : PySem.W.Frag) : Sp := fun vs H Q E => ∃ b : Bool, vs = [.bl b] ∧ (b = true → Q .non H) ∧ (b = false → ErrT K 0 E H)
abbrev N_needed : List Str := ["truth"]
theorem sc_needed : FnScope N_needed ["truth"] (defScope s_needed) := ⟨rfl, rfl, rfl, by decide +kernel, rfl, by decide +kernel, by decide +kernel⟩
theorem ok_needed (T : Top K mg) : FnY P w K mg base 3 (gA K "needed") (fdOf K ("needed", none)) ["truth"] (sp_needed K) := by
  have sc := sc_needed
  refine okY (t_d_needed T) sc (fun vs H Q E h => by first | exact sp_len h | (obtain ⟨_, rfl, _⟩ := h; rfl) | (obtain ⟨_, _, rfl, _⟩ := h; rfl) | (obtain ⟨_, _, _, rfl, _⟩ := h; rfl) | (obtain ⟨_, _, _, _, rfl, _⟩ := h; rfl) | (obtain ⟨_, _, _, _, _, rfl, _⟩ := h; rfl)) (fun cdv A outer s H vs Q E B h => ⟨_, (pss_one (ps_if (pt_not (pt_val (pv 0)))
        (pss_one (ps_raiseY rfl B.tk (pmk_oexA (t_o_NoText T).1 (t_o_NoText T).2.1 (t_o_NoText T).2.2 (ok_NoText___init__ T) (L2H.roomH_of (B.room.mono (by decide))) (t_b_NoText___init__ T) rfl (t_g_NoText T) (pa_cons pe_int pa_nil))))
        pss_nil)), ?_⟩)
  obtain ⟨b, rfl, h1, h2⟩ := h
  repeat walk_at "s"
  cases b with
  | true => exact h1 rfl
  | false => exact raise_NoText (h2 rfl)
end
end T
/-- one step -/
local macro_rules
  | `(tactic| walk_at "s") => `(tactic| first
    | with_reducible refine Y.w_seq ?_
    | with_reducible refine Y.w_asg ?_
    | with_reducible refine Y.w_name ?_
    | ((with_reducible apply Y.w_var); (first | rfl | assumption))
    | with_reducible refine Y.w_c ?_
    | with_reducible refine Y.w_op ?_
    | with_reducible refine Y.r_I0 ?_
    | ((with_reducible refine Y.r_I ?_ ?_); (first | decide | (left; constructor <;> (first | decide | omega)) | (right; constructor <;> (first | decide | omega)) | (constructor <;> (first | decide | omega)) | omega))
    | with_reducible refine Y.w_test ?_
    | with_reducible refine Y.w_bl ?_
    | with_reducible refine Y.w_if ?_
    | with_reducible refine Y.w_ret ?_
    | with_reducible refine Y.w_cons ?_
    | with_reducible refine Y.w_nil ?_
    | with_reducible refine Y.w_cb ?_
    | with_reducible refine Y.w_call ?_
    | with_reducible refine Y.w_not ?_
    | with_reducible refine Y.w_and ?_
    | with_reducible refine Y.w_or ?_
    | with_reducible refine Y.w_tB ?_
    | with_reducible refine Y.w_un ?_
    | with_reducible refine Y.r_U ?_
    | with_reducible refine Y.w_drop ?_
    | with_reducible refine Y.w_next ?_
    | with_reducible refine Y.w_retN ?_
    | with_reducible refine Y.w_lst ?_
    | with_reducible refine Y.w_tup ?_
    | with_reducible refine Y.w_sl ?_
    | with_reducible refine Y.w_nopart ?_
    | with_reducible refine Y.w_part ?_
    | with_reducible refine Y.w_i ?_
    | with_reducible refine Y.r_eqI ?_
    | with_reducible refine Y.r_neI ?_
    | with_reducible refine Y.r_eqS ?_
    | with_reducible refine Y.r_neS ?_
    | with_reducible refine Y.w_notV ?_
    | with_reducible refine Y.w_andV ?_
    | with_reducible refine Y.w_orV ?_
    | with_reducible refine Y.w_ife ?_
    | with_reducible refine Y.w_m1 ?_
    | with_reducible refine Y.w_strand ?_
    | with_reducible refine Y.w_par ?_
    | with_reducible refine Y.w_par2 ?_
    | with_reducible refine Y.w_fld ?_
    | with_reducible refine Y.w_gcons ?_
    | with_reducible refine Y.w_gnil ?_
    | with_reducible refine Y.w_gsub ?_
    | with_reducible refine Y.w_bm ?_
    | with_reducible refine Y.w_cont ?_
    | with_reducible refine Y.w_brk ?_
    | with_reducible refine Y.r_intB ?_
    | with_reducible refine Y.r_intI ?_
    | with_reducible refine Y.r_inS ?_
    | with_reducible refine Y.r_starts ?_
    | with_reducible refine Y.w_yes ?_
    | with_reducible refine L2.iteT ?_
    | with_reducible refine L2.iteF ?_
    | with_reducible refine Y.w_chain ?_
    | with_reducible refine Y.w_ve ?_
    | with_reducible refine Y.w_ost ?_
    | with_reducible refine Y.w_xf ?_
    | with_reducible refine Y.w_sfld ?_
    | with_reducible refine Y.w_meth ?_
    | with_reducible refine Y.w_make ?_
    | with_reducible refine Y.w_forl ?_
    | with_reducible refine Y.w_forr ?_
    | with_reducible refine Y.w_lcl ?_
    | with_reducible refine Y.w_lcs ?_
    | with_reducible refine Y.w_aug rfl ?_)
namespace T
open PySem PySem.Spec PyProof.Rows L2 Y SX
abbrev RuleV := List (Int × Int) × Option Int
section
variable {P : Program} {w : World} {K : PySem.W.Frag} {mg : Str → Option Value} {base : Heap}
def RuleAt (K : PySem.W.Frag) (H : Hp) (v : V) (r : RuleV) : Prop := ∃ a dx row g, v = .ref a ∧ H a = some (.ins (gA K "Rule") dx [("row", row), ("end", g)]) ∧ rp H row r.1 ∧ rp H g r.2
theorem RuleAt.mono {H H' : Hp} {v : V} {r : RuleV} (e : Ex H H') (h : RuleAt K H v r) : RuleAt K H' v r := by
  obtain ⟨a, dx, row, g, h1, h2, h3, h4⟩ := h
  exact ⟨a, dx, row, g, h1, e _ _ h2, Rp.mono e h3, Rp.mono e h4⟩
def stepB (old broad : Int) (s : Int × Int) : Bool := !(decide (s.1 < old) || (decide (s.2 < 1) || !decide (s.2 % broad = 0)))
def okSteps : Int → Int → List (Int × Int) → Bool
  | _, _, [] => true
  | old, broad, s :: r => stepB old broad s && okSteps s.1 s.2 r
def lastOf (l : List (Int × Int)) : Int × Int := l.foldl (fun _ s => s) (0, 1)
def goneB : Option Int → Int → Bool
  | none, _ => true
  | some g, a => !decide (g < a)
def okRule (r : RuleV) : Bool := decide (1 ≤ r.1.length ∧ r.1.length ≤ 5) && (okSteps 0 1 r.1 && goneB r.2 (lastOf r.1).1)
theorem lt1000 {n : Nat} (h : Nat.ble (n + 1) 1000 = true := by rfl) : n < 1000 := Nat.le_of_ble_eq_true h
theorem bF {b : Bool} (h : ¬ b = true) : b = false := Bool.eq_false_iff.mpr h
theorem lastOf_snoc (l : List (Int × Int)) (s : Int × Int) : lastOf (l ++ [s]) = s := by
  unfold lastOf
  rw [List.foldl_append]
  rfl
theorem okSteps_app : ∀ (l m : List (Int × Int)) (o b : Int), okSteps o b (l ++ m) = (okSteps o b l && okSteps (l.foldl (fun _ s => s) (o, b)).1 (l.foldl (fun _ s => s) (o, b)).2 m)
  | [], m, o, b => rfl
  | s :: l, m, o, b => by
    show (stepB o b s && okSteps s.1 s.2 (l ++ m)) = ((stepB o b s && okSteps s.1 s.2 l) && okSteps (l.foldl (fun _ s => s) s).1 (l.foldl (fun _ s => s) s).2 m)
    rw [okSteps_app l m s.1 s.2, Bool.and_assoc]
theorem okSteps_wide : ∀ (l : List (Int × Int)) (o b : Int), 1 ≤ b → okSteps o b l = true → 1 ≤ (l.foldl (fun _ s => s) (o, b)).2
  | [], o, b, h, _ => h
  | s :: l, o, b, h, k => by
    have k' : stepB o b s = true ∧ okSteps s.1 s.2 l = true := by
      have z : (stepB o b s && okSteps s.1 s.2 l) = true := k
      rw [Bool.and_eq_true] at z
      exact z
    refine okSteps_wide l s.1 s.2 ?_ k'.2
    have z := k'.1
    unfold stepB at z
    simp only [Bool.not_eq_true', Bool.or_eq_false_iff, decide_eq_false_iff_not] at z
    omega
def sp_Rule (K : PySem.W.Frag) : Sp := fun vs H Q E => ∃ (a dx : Addr) (H0 : Hp) (sv gv : V) (r : RuleV), vs = [.ref a, sv, gv] ∧ Ex H0 H ∧ H0 a = none ∧ H a = some (.ins (gA K "Rule") dx []) ∧ rp H0 sv r.1 ∧ rp H0 gv r.2 ∧ r.1.length ≤ 100000 ∧
  (okRule r = true → ∀ H', Ex H0 H' → RuleAt K H' (.ref a) r → Q .non H') ∧ (okRule r = false → ∀ H', Ex H0 H' → E (.ref (gA K "NoRule")) none H')
abbrev N_Rule___init__ : List Str := ["self", "steps", "gone", "old", "broad", "age", "width"]
theorem sc_Rule___init__ : FnScope N_Rule___init__ ["self", "steps", "gone"] (defScope s_Rule___init__) := ⟨rfl, rfl, rfl, by decide +kernel, rfl, by decide +kernel, by decide +kernel⟩
theorem ok_Rule___init__ (T : Top K mg) : FnY P w K mg base 1 (mA K "Rule" "__init__") (fdOf K ("Rule", some "__init__")) ["self", "steps", "gone"] (sp_Rule K) := by
  obtain ⟨tk_MOST_STEPS, hk_MOST_STEPS⟩ := t_i_MOST_STEPS T
  have sc := sc_Rule___init__
  refine okY (t_d_Rule___init__ T) sc (fun vs H Q E h => by repeat (first | (obtain ⟨rfl, _⟩ := h; rfl) | obtain ⟨_, h⟩ := h)) (fun cdv A outer s H vs Q E B h => ⟨_, (pss_cons (ps_if (pt_not (pt_chain op_le op_le pe_int (pe_callB call_lenQ (by rfl) (t_b_len T) (by decide +kernel) (pa_cons (pv 1) pa_nil)) (pe_glob (v := .int 5) rfl hk_MOST_STEPS ⟨_, rfl⟩)))
        (pss_one (ps_raiseY rfl B.tk (L2N.pmk_own PySem.F.excBase_ValueError (t_x_NoRule T).1 (t_g_NoRule T) (t_x_NoRule T).2.1 (raises_own (t_x_NoRule T).2.2.1 (t_x_NoRule T).2.2.2) rfl)))
        pss_nil)
      (pss_cons (ps_fld (pv 0) (pe_lst pa_nil) rfl)
      (pss_cons (ps_set (i := 3) sc.nd rfl (.inl rfl) pe_int)
      (pss_cons (ps_set (i := 4) sc.nd rfl (.inl rfl) pe_int)
      (pss_cons (ps_for B.pass rfl (pi_list (pv 1)) (pg_tup (n := 2) rfl (pgs_cons (pg_name (i := 5) sc.nd rfl (.inl rfl)) (pgs_cons (pg_name (i := 6) sc.nd rfl (.inl rfl)) pgs_nil)))
        (pss_cons (ps_if (PW.pt (pw_or (pt_cmpR op_lt (pv 5) (pv 3) (nomark _)) (pw_or (pt_cmpR op_lt (pv 6) pe_int (nomark _)) (pw_or1 (pt_cmpR op_ne (pe_op op_mod (pv 6) (pv 4)) pe_int (nomark _))))))
          (pss_one (ps_raiseY rfl B.tk (L2N.pmk_own PySem.F.excBase_ValueError (t_x_NoRule T).1 (t_g_NoRule T) (t_x_NoRule T).2.1 (raises_own (t_x_NoRule T).2.2.1 (t_x_NoRule T).2.2.2) rfl)))
          pss_nil)
        (pss_cons (ps_set (i := 3) sc.nd rfl (.inl rfl) (pv 5))
        (pss_cons (ps_set (i := 4) sc.nd rfl (.inl rfl) (pv 6))
        (pss_one (ps_expr (pe_bm PySem.F.plainAttrs_list PySem.F.slot_list_append PySem.F.type_list_append mt_append (pe_fld (pv 0) rfl) (pa_cons (pe_tup (pa_cons (pv 5) (pa_cons (pv 6) pa_nil))) pa_nil))))))))
      (pss_cons (ps_if (PW.pt (pw_and (pt_cmpR op_notN1 (pv 2) pe_non (nomark _)) (pw_and1 (pt_cmpR op_lt (pv 2) (pv 3) (nomark _)))))
        (pss_one (ps_raiseY rfl B.tk (L2N.pmk_own PySem.F.excBase_ValueError (t_x_NoRule T).1 (t_g_NoRule T) (t_x_NoRule T).2.1 (raises_own (t_x_NoRule T).2.2.1 (t_x_NoRule T).2.2.2) rfl)))
        pss_nil)
      (pss_one (ps_fld (pv 0) (pv 2) rfl)))))))), ?_⟩)
  obtain ⟨a, dx, H0, sv, gv, r, rfl, e0, a0, ha, hs, hg, hlen, hQ, hE⟩ := h
  obtain ⟨rows, gone⟩ := r
  obtain ⟨sa, xs, rfl, hsa, hxs⟩ := hs
  have hl : (xs.length : Int) = rows.length := by rw [hxs.length]
  have hbad : (1 ≤ rows.length ∧ rows.length ≤ 5) ∨ ∀ H', Ex H0 H' → E (.ref (gA K "NoRule")) none H' := by
    by_cases c : 1 ≤ rows.length ∧ rows.length ≤ 5
    · exact .inl c
    · refine .inr (hE ?_)
      unfold okRule
      rw [decide_eq_false c]
      rfl
  repeat walk_at "s"
  refine r_lenL (sqL (e0 _ _ hsa)) ?_
  repeat walk_at "s"
  refine ite2 (fun c1 => ?_) (fun c1 => ?_)
  · repeat walk_at "s"
    refine ite2 (fun c2 => ?_) (fun c2 => ?_)
    · rcases hbad with hb | hb
      · simp only [Bool.not_eq_true', decide_eq_false_iff_not] at c2
        omega
      · exact hb _ e0
    · repeat walk_at "s"
      refine nL le5 fun p H1 e1 np _ hp => ?_
      repeat walk_at "s"
      refine ⟨a, _, _, _, rfl, e1 _ _ ha, t_c_Rule T, t_n_Rule_row T, by decide, ?_⟩
      have np0 : H0 p = none := ex_none e0 np
      have npa : p ≠ a := fun z => by rw [z, ha] at np; cases np
      repeat walk_at "s"
      have h1 : 1 ≤ rows.length ∧ rows.length ≤ 5 := by
        simp only [Bool.not_eq_true', decide_eq_true_iff, decide_eq_false_iff_not] at c1 c2
        omega
      have e01 : Ex H0 (upd H1 a (.ins (gA K "Rule") dx (putF "row" (.ref p) []))) := Ex.mut (e0.trans e1) a0
      refine for_rp (l := rows) (H0 := H0) ⟨sa, xs, rfl, hsa, hxs⟩ (fun pre σ' H' => ∃ ys oa ow, σ' = [some (.ref a), some (.ref sa), some gv, some (.int (lastOf pre).1), some (.int (lastOf pre).2), oa, ow] ∧ H' a = some (.ins (gA K "Rule") dx [("row", .ref p)]) ∧ H' p = some (.lst ys) ∧ A2 (rp H') ys pre ∧ Ex H0 H' ∧ okSteps 0 1 pre = true) ?_ ?_ ?_ ?_
      · refine ⟨[], none, none, rfl, upd_same, ?_, .nil, e01, rfl⟩
        rw [upd_ne npa]
        exact hp
      · rintro pre σ' H' ⟨ys, oa, ow, _, _, _, _, e, _⟩
        exact e
      · rintro pre s post x σ' H' el ⟨ys, oa, ow, rfl, ga, gp, hys, e, ok⟩ hx
        obtain ⟨t, u, v, rfl, ht, hu, hv⟩ := hx
        obtain ⟨s1, s2⟩ := s
        obtain rfl : u = .int s1 := hu
        obtain rfl : v = .int s2 := hv
        refine w_gtup (sqT ht) rfl ?_
        repeat walk_at "s"
        have wide : 1 ≤ (lastOf pre).2 := okSteps_wide pre 0 1 (by decide) ok
        have okn : okSteps 0 1 (pre ++ [(s1, s2)]) = stepB (lastOf pre).1 (lastOf pre).2 (s1, s2) := by
          rw [okSteps_app, ok, Bool.true_and]
          exact Bool.and_true _
        have bad : stepB (lastOf pre).1 (lastOf pre).2 (s1, s2) = false → E (.ref (gA K "NoRule")) none H' := fun z => hE (by
          unfold okRule
          have q : okSteps 0 1 rows = false := by rw [el, show pre ++ (s1, s2) :: post = (pre ++ [(s1, s2)]) ++ post by simp, okSteps_app, okn, z]; rfl
          show (_ && (okSteps 0 1 rows && _)) = false
          rw [q, Bool.false_and, Bool.and_false]) H' e
        refine ite2 (fun c1 => ?_) (fun c1 => ?_)
        · repeat walk_at "s"
          refine bad ?_
          unfold stepB
          rw [c1]
          rfl
        · repeat walk_at "s"
          refine ite2 (fun c2 => ?_) (fun c2 => ?_)
          · repeat walk_at "s"
            refine bad ?_
            unfold stepB
            rw [c2, Bool.true_or, Bool.or_true]
            rfl
          · repeat walk_at "s"
            refine ite2 (fun c3 => ?_) (fun c3 => ?_)
            · refine bad ?_
              unfold stepB
              rw [bF c1, bF c2, c3]
              rfl
            · repeat walk_at "s"
              refine ⟨a, _, _, _, _, rfl, ga, t_c_Rule T, t_n_Rule_row T, rfl, .inl ⟨rfl, _, sqL gp⟩, ?_⟩
              repeat walk_at "s"
              refine nT le5 fun q H2 e2 nq _ hq => ?_
              repeat walk_at "s"
              have hl : ys.length ≤ 5 := by
                have h1 := hys.length
                have h2 : rows.length = pre.length + (post.length + 1) := by rw [el, List.length_append, List.length_cons]
                omega
              refine r_append (e2 _ _ gp) (Nat.lt_of_le_of_lt hl (by decide)) ?_
              have nap : a ≠ p := fun z => by rw [← z, ga] at gp; cases gp
              have nqp : q ≠ p := fun z => by rw [z, gp] at nq; cases nq
              refine ⟨ys ++ [.ref q], some (.int s1), some (.int s2), ?_, ?_, upd_same, ?_, ?_, ?_⟩
              · rw [lastOf_snoc]
                rfl
              · rw [upd_ne nap]
                exact e2 _ _ ga
              · refine (hys.ex e2).fz (ExT.lst (e2 _ _ gp)) |>.snoc ⟨q, _, _, rfl, ?_, rfl, rfl⟩
                rw [upd_ne nqp]
                exact hq
              · exact Ex.mut (e.trans e2) np0
              · rw [okn]
                unfold stepB
                rw [bF c1, bF c2, bF c3]
                rfl
      · rintro σ' H' ⟨ys, oa, ow, rfl, ga, gp, hys, e, ok⟩
        repeat walk_at "s"
        have hokR : okRule (rows, gone) = goneB gone (lastOf rows).1 := by
          unfold okRule
          rw [decide_eq_true h1, Bool.true_and]
          show (okSteps 0 1 rows && _) = _
          rw [ok, Bool.true_and]
        have fin : okRule (rows, gone) = true → Q .non (upd H' a (.ins (gA K "Rule") dx (putF "end" gv [("row", .ref p)]))) := fun z => hQ z _ (Ex.mut e a0) ⟨a, dx, .ref p, gv, rfl, upd_same, ⟨p, ys, rfl, by rw [upd_ne npa]; exact gp, hys.fz (ExT.ins ga)⟩, by
          have q : rp H' gv gone := Rp.mono e hg
          exact Fz.fz (ExT.ins ga) q⟩
        refine r_notN (isN_opt hg) ?_
        repeat walk_at "s"
        cases gone with
        | none =>
          refine ite2 (fun c => absurd (show false = true from c) (by decide)) (fun _ => ?_)
          refine ite2 (fun c => absurd (show false = true from c) (by decide)) (fun _ => ?_)
          repeat walk_at "s"
          exact ⟨a, _, _, _, rfl, ga, t_c_Rule T, t_n_Rule_end T, lt1000, fin hokR⟩
        | some g =>
          obtain rfl : gv = .int g := hg
          refine ite2 (fun _ => ?_) (fun c => absurd rfl c)
          repeat walk_at "s"
          refine ite2 (fun c => ?_) (fun c => ?_)
          · exact hE (by rw [hokR]; show (!decide _) = false; rw [c]; rfl) _ e
          · repeat walk_at "s"
            exact ⟨a, _, _, _, rfl, ga, t_c_Rule T, t_n_Rule_end T, lt1000, fin (by rw [hokR]; show (!decide _) = true; rw [Bool.not_eq_true] at c; rw [c]; rfl)⟩
  · rcases hbad with hb | hb
    · simp only [decide_eq_false_iff_not, Bool.not_eq_true, decide_eq_true_iff] at c1
      omega
    · repeat walk_at "s"
      exact hb _ e0
def sp_steps (K : PySem.W.Frag) : Sp := fun vs H Q _ => ∃ (v : V) (r : RuleV), vs = [v] ∧ RuleAt K H v r ∧ ∀ v' H', Ex H H' → rp H' v' r.1 → Q v' H'
abbrev N_Rule_steps : List Str := ["self"]
theorem sc_Rule_steps : FnScope N_Rule_steps ["self"] (defScope s_Rule_steps) := ⟨rfl, rfl, rfl, by decide +kernel, rfl, by decide +kernel, by decide +kernel⟩
theorem ok_Rule_steps (T : Top K mg) : FnY P w K mg base 1 (mA K "Rule" "steps") (fdOf K ("Rule", some "steps")) ["self"] (sp_steps K) := by
  have sc := sc_Rule_steps
  refine okY (t_d_Rule_steps T) sc (fun vs H Q E h => by repeat (first | (obtain ⟨rfl, _⟩ := h; rfl) | obtain ⟨_, h⟩ := h)) (fun cdv A outer s H vs Q E B h => ⟨_, (pss_one (ps_ret (pe_callTy call_lstOf (by rfl) (t_b_list T) (by decide +kernel) (pa_cons (pe_fld (pv 0) rfl) pa_nil)))), ?_⟩)
  obtain ⟨v, r, rfl, ⟨a, dx, row, g, rfl, ha, hr, hg⟩, hQ⟩ := h
  obtain ⟨p, xs, rfl, hp, hxs⟩ := hr
  repeat walk_at "s"
  refine ⟨a, _, _, _, _, rfl, ha, t_c_Rule T, t_n_Rule_row T, rfl, ?_⟩
  repeat walk_at "s"
  exact r_lstL (sqL hp) fun l hl => hQ _ _ (Ex.new hl) (rp_list upd_same (hxs.ex (Ex.new hl)))
def sp_gone (K : PySem.W.Frag) : Sp := fun vs H Q _ => ∃ (v : V) (r : RuleV), vs = [v] ∧ RuleAt K H v r ∧ ∀ v', rp H v' r.2 → Q v' H
abbrev N_Rule_gone : List Str := ["self"]
theorem sc_Rule_gone : FnScope N_Rule_gone ["self"] (defScope s_Rule_gone) := ⟨rfl, rfl, rfl, by decide +kernel, rfl, by decide +kernel, by decide +kernel⟩
theorem ok_Rule_gone (T : Top K mg) : FnY P w K mg base 1 (mA K "Rule" "gone") (fdOf K ("Rule", some "gone")) ["self"] (sp_gone K) := by
  have sc := sc_Rule_gone
  refine okY (t_d_Rule_gone T) sc (fun vs H Q E h => by repeat (first | (obtain ⟨rfl, _⟩ := h; rfl) | obtain ⟨_, h⟩ := h)) (fun cdv A outer s H vs Q E B h => ⟨_, (pss_one (ps_ret (pe_fld (pv 0) rfl))), ?_⟩)
  obtain ⟨v, r, rfl, ⟨a, dx, row, g, rfl, ha, hr, hg⟩, hQ⟩ := h
  repeat walk_at "s"
  exact ⟨a, _, _, _, _, rfl, ha, t_c_Rule T, t_n_Rule_end T, rfl, hQ _ hg⟩
def FIG : Str := "0123456789"
theorem fig_mem (c : Nat) : decide (c ∈ FIG.cps.toList) = digB c := by
  have e : FIG.cps.toList = [48, 49, 50, 51, 52, 53, 54, 55, 56, 57] := by decide +kernel
  rw [e]
  by_cases h : 48 ≤ c ∧ c ≤ 57
  · rw [digB_iff.mpr h]
    refine decide_eq_true ?_
    obtain ⟨h1, h2⟩ := h
    simp only [List.mem_cons, List.mem_nil_iff]
    omega
  · rw [bF (fun z => h (digB_iff.mp z))]
    refine decide_eq_false fun z => h ?_
    simp only [List.mem_cons, List.mem_nil_iff, or_false] at z
    omega
theorem lit0 : ("0" : Str) = S [48] := by decide +kernel
theorem sgn_eq (a : Nat) {x : Str} {b : Nat} (h : x = S [b]) : decide (({ cps := #[a] } : Str) = x) = decide (a = b) := by
  subst h
  by_cases q : a = b
  · rw [q, decide_eq_true rfl, decide_eq_true rfl]
  · refine (decide_eq_false fun z => q ?_).trans (decide_eq_false q).symm
    have e : [a] = [b] := S_inj z
    injection e
theorem C8_sl {z : Str} {lo hi : Option Int} {H : Hp} {Q : VK} (h : z.length ≤ sizeLine) (q : Q (.str (Txt.slice z lo hi)) H) : C8.rSlX (.str z) lo hi H Q := ⟨z, rfl, h, q⟩
theorem starts1 (t : List Nat) : Txt.startswith (S t) "-" = decide (t.head? = some 45) := by
  have e : ("-" : Str) = S [45] := by decide +kernel
  rw [e]
  cases t with
  | nil => rfl
  | cons a l =>
    have e2 : Builtin.Str.subAt (S (a :: l)) (S [45]) 0 = decide (a = 45) := by
      have e3 : (S (a :: l)).cps.extract 0 (0 + (S [45]).length) = #[a] := by
        apply Array.toList_inj.mp
        rw [Array.toList_extract]
        rfl
      show ((S (a :: l)).cps.extract 0 (0 + (S [45]).length) == #[45]) = _
      rw [e3]
      by_cases h : a = 45
      · subst h
        rfl
      · rw [decide_eq_false h]
        exact beq_false_of_ne fun z => h (by simpa using z)
    show (decide _ && Builtin.Str.subAt (S (a :: l)) (S [45]) 0) = _
    rw [e2, decide_eq_true (by rw [S_len, S_len, List.length_cons]; exact Nat.succ_le_succ (Nat.zero_le _) : 0 + (S [45]).length ≤ (S (a :: l)).length), Bool.true_and]
    show _ = decide (some a = some 45)
    by_cases h : a = 45
    · subst h
      rfl
    · rw [decide_eq_false h]
      exact (decide_eq_false fun z => h (Option.some.inj z)).symm
theorem atI0 {α : Type} (a : α) (l : List α) : atI (a :: l) 0 = some a := by
  unfold atI ixN
  rw [if_pos (Int.le_refl 0), if_pos (by rw [List.length_cons]; omega)]
  rfl
def sp_read_number (K : PySem.W.Frag) : Sp := fun vs H Q E => ∃ t : List Nat, vs = [.str (S t)] ∧ t.length ≤ 640 ∧ (∀ H' i, Ex H H' → readL t = some i → Q (.int i) H') ∧ (readL t = none → ErrT K 0 E H)
abbrev N_read_number : List Str := ["text", "figures", "sign"]
theorem sc_read_number : FnScope N_read_number ["text"] (defScope s_read_number) := ⟨rfl, rfl, rfl, by decide +kernel, rfl, by decide +kernel, by decide +kernel⟩
theorem ok_read_number (T : Top K mg) : FnY P w K mg base 4 (gA K "read_number") (fdOf K ("read_number", none)) ["text"] (sp_read_number K) := by
  obtain ⟨tk_MOST_FIGURES, hk_MOST_FIGURES⟩ := t_i_MOST_FIGURES T
  obtain ⟨tk_FIGURES, hk_FIGURES⟩ := t_i_FIGURES T
  have sc := sc_read_number
  refine okY (t_d_read_number T) sc (fun vs H Q E h => by repeat (first | (obtain ⟨rfl, _⟩ := h; rfl) | obtain ⟨_, h⟩ := h)) (fun cdv A outer s H vs Q E B h => ⟨_, (pss_cons (ps_expr (pe_callY (ok_needed T) (B.room.mono (by decide)) rfl (t_g_needed T) (t_d_needed T).kp (t_b_needed T) .nil B.tk (pa_cons (pe_callB call_isi (by rfl) (t_b_isinstance T) (by decide +kernel) (pa_cons (pv 0) (pa_cons (pe_bltn (v := .ty "str") rfl (t_b_str T) (by decide +kernel) rfl) pa_nil))) pa_nil)))
      (pss_cons (ps_set (i := 1) sc.nd rfl (.inl rfl) (pv 0))
      (C8.pss_cut (ps_if (pt_val (pe_m1 PySem.F.slot_str_startswith PySem.F.type_str_startswith mt_starts (pv 0) pe_str))
        (pss_one (ps_set (i := 1) sc.nd rfl (.inl rfl) (pe_slice C8.sl_txt (pv 0) (po_some pe_int) po_none)))
        pss_nil)
      (pss_cons (ps_expr (pe_callY (ok_needed T) (B.room.mono (by decide)) rfl (t_g_needed T) (t_d_needed T).kp (t_b_needed T) .nil B.tk (pa_cons (pe_chain op_le op_le pe_int (pe_callB call_lenS (by rfl) (t_b_len T) (by decide +kernel) (pa_cons (pv 1) pa_nil)) (pe_glob (v := .int 1000) rfl hk_MOST_FIGURES ⟨_, rfl⟩)) pa_nil)))
      (pss_cons (ps_expr (pe_callY (ok_needed T) (B.room.mono (by decide)) rfl (t_g_needed T) (t_d_needed T).kp (t_b_needed T) .nil B.tk (pa_cons (pe_callB (cr_all rfl) (by rfl) (t_b_all T) (by decide +kernel) (pa_cons (pe_lcY B.stk B.frm B.tk rfl sc.nd (pi_str (pv 1)) (blkOk_by (own := [("sign", 2)]) (N := N_read_number) (sc := defScope s_read_number) (by decide +kernel)) (fun _ _ _ _ _ _ => (pg_name (i := 2) sc.nd rfl (.inl rfl) (.inr rfl))) (fun _ _ _ _ _ _ => pts_nil) (fun _ _ _ _ _ _ => (pe_cmpR op_inS (pv 2) (pe_glob (v := .str "0123456789") rfl hk_FIGURES ⟨_, rfl⟩) rfl))) pa_nil)) pa_nil)))
      (pss_cons (ps_expr (pe_callY (ok_needed T) (B.room.mono (by decide)) rfl (t_g_needed T) (t_d_needed T).kp (t_b_needed T) .nil B.tk (pa_cons (pe_or (pe_cmpR op_ne (pe_ix ix_str (pv 1) pe_int (fun _ _ => rfl)) pe_str (nomark _)) (pe_one (pe_cmpR op_eq (pv 0) pe_str (nomark _)))) pa_nil)))
      (pss_one (ps_ret (pe_callTy call_intS (by rfl) (t_b_int T) (by decide +kernel) (pa_cons (pv 0) pa_nil)))))))))), ?_⟩)
  obtain ⟨t, rfl, hl, hQ, hE⟩ := h
  repeat walk_at "s"
  refine w_isi (.ty "str") (.base (.str _)) (b := true) (by rfl) ?_
  repeat walk_at "s"
  refine ⟨true, rfl, fun _ => ?_, fun z => nomatch z⟩
  repeat walk_at "s"
  refine w_cut (fun σ' H' => σ' = [some (.str (S t)), some (.str (S (figL t))), none] ∧ H' = H) ?_ ?_
  · repeat walk_at "s"
    rw [starts1]
    unfold figL
    refine ite2 (fun c => ?_) (fun c => ?_)
    · repeat walk_at "s"
      refine C8_sl ?_ ?_
      · rw [S_len]
        exact Nat.le_trans hl (by decide)
      · repeat walk_at "s"
        rw [if_pos (of_decide_eq_true c), slice_from (by decide)]
        exact ⟨by rw [← List.drop_one]; rfl, rfl⟩
    · repeat walk_at "s"
      rw [if_neg (fun z => c (decide_eq_true z))]
      exact ⟨rfl, rfl⟩
  · rintro σ' H' ⟨rfl, rfl⟩
    have hf : (figL t).length ≤ 640 := by
      unfold figL
      split
      · rw [List.length_tail]; omega
      · exact hl
    repeat walk_at "s"
    refine r_lenS (by rw [S_len]; exact Nat.le_trans hf (by decide)) ?_
    repeat walk_at "s"
    have bad : ∀ {p : Prop}, (okNum t = true → p) → ¬ p → readL t = none := fun h1 h2 => if_neg fun z => h2 (h1 z)
    have okc : okNum t = true → 1 ≤ (figL t).length ∧ (figL t).length ≤ 1000 ∧ (figL t).all digB = true ∧ ((figL t).head? ≠ some 48 ∨ t = [48]) := fun z => by
      unfold okNum at z
      simp only [Bool.and_eq_true, Bool.or_eq_true, Bool.not_eq_true', decide_eq_true_iff, decide_eq_false_iff_not] at z
      exact z
    refine ite2 (fun c1 => ?_) (fun c1 => ?_)
    · repeat walk_at "s"
      rw [decide_eq_true_iff, S_len] at c1
      have c1' : 1 ≤ (figL t).length := by omega
      refine ⟨_, rfl, fun c2 => ?_, fun c2 => hE ?_⟩
      · have c2' : decide ((figL t).length ≤ 1000) = true := by
          rw [decide_eq_true_iff, S_len] at c2
          rw [decide_eq_true_iff]
          omega
        repeat walk_at "s"
        refine lc_txt (β := Bool) (l := figL t) (by omega) (fun pre bs => bs = pre.map digB) rfl (fun pre c post bs H2 Kt Kf el hb e2 hkt hkf => ?_) (fun p H3 bs e3 np hbs hb => ?_) rfl
        · repeat walk_at "s"
          refine ⟨rfl, ?_⟩
          repeat walk_at "s"
          refine hkt _ _ (digB c) (Ex.refl _) ?_ (by rw [hb, List.map_append]; rfl)
          show V.bl _ = V.bl _
          rw [← fig_mem]
          rfl
        · obtain ⟨q, ys, eq, hq, hys⟩ := hbs
          cases eq
          have ey := bls_map hys
          subst ey
          subst hb
          repeat walk_at "s"
          refine r_all (sqL hq) ?_
          repeat walk_at "s"
          have eall : ((figL t).map digB).all id = (figL t).all digB := by rw [List.all_map]; rfl
          rw [eall]
          refine ⟨_, rfl, fun c3 => ?_, fun c3 => (hE (bad (fun z => (okc z).2.2.1) (by rw [c3]; decide))).mono e3⟩
          repeat walk_at "s"
          have hc : ∃ a l, figL t = a :: l := by
            cases ef : figL t with
            | nil => rw [ef] at c1'; exact absurd c1' (by decide)
            | cons a l => exact ⟨a, l, rfl⟩
          obtain ⟨a, l, ef⟩ := hc
          refine r_ixS (c := a) (by rw [S_len]; exact Nat.le_trans hf (by decide)) (by rw [ef]; exact atI0 a l) ?_
          repeat walk_at "s"
          have e0 : decide (({ cps := #[a] } : Str) = Str.ofString "0") = decide (a = 48) := sgn_eq a lit0
          have hhd : (figL t).head? = some a := by rw [ef]; rfl
          have good : okNum t = true → ∀ G, Ex H' G → rIntS [.str (S t)] G Q := fun z G e => by
            refine r_intS (okNum_text z (by omega)) (by rw [S_len]; exact hl) (hQ _ _ e ?_)
            exact if_pos z
          rw [e0]
          refine ite2 (fun c4 => ?_) (fun c4 => ?_)
          · repeat walk_at "s"
            refine ⟨true, rfl, fun _ => ?_, fun z => nomatch z⟩
            repeat walk_at "s"
            refine good ?_ _ e3
            unfold okNum
            rw [decide_eq_true c1', c2', c3, hhd]
            have c5 : ¬ a = 48 := by simpa using c4
            rw [decide_eq_false (fun z => c5 (Option.some.inj z))]
            rfl
          · repeat walk_at "s"
            have c5 : a = 48 := by simpa using c4
            have e1 : decide (S t = Str.ofString "0") = decide (t = [48]) := by
              rw [lit0]
              by_cases q : t = [48]
              · rw [q, decide_eq_true rfl, decide_eq_true rfl]
              · rw [decide_eq_false q, decide_eq_false fun z => q (S_inj z)]
            rw [e1]
            refine ⟨_, rfl, fun c6 => ?_, fun c6 => (hE (bad (fun z => (okc z).2.2.2) ?_)).mono e3⟩
            · repeat walk_at "s"
              refine good ?_ _ e3
              unfold okNum
              rw [decide_eq_true c1', c2', c3, c6, Bool.or_true]
              rfl
            · rintro (q | q)
              · exact q (by rw [hhd, c5])
              · exact of_decide_eq_false c6 q
      · refine bad (fun z => (okc z).2.1) fun z => ?_
        rw [decide_eq_false_iff_not, S_len] at c2
        omega
    · repeat walk_at "s"
      refine ⟨false, rfl, (fun z => nomatch z), fun _ => hE ?_⟩
      refine bad (fun z => (okc z).1) fun z => c1 ?_
      rw [decide_eq_true_iff, S_len]
      omega
end
end T
namespace T
open PySem PySem.Spec PyProof.Rows L2 Y SX
section
variable {P : Program} {w : World} {K : PySem.W.Frag} {mg : Str → Option Value} {base : Heap}
def wordL (s : Int × Int) : List Nat := intL s.1 ++ 58 :: intL s.2
def GONE : List Nat := [103, 111, 110, 101]
theorem lit_gone : ("gone" : Str) = S GONE := by decide +kernel
theorem lit_blank : (" " : Str) = S [32] := by decide +kernel
theorem lit_colon : (":" : Str) = S [58] := by decide +kernel
def goneW : Option Int → List (List Nat)
  | none => []
  | some g => [GONE, intL g]
def wordsL (r : RuleV) : List (List Nat) := r.1.map wordL ++ goneW r.2
def textL (r : RuleV) : List Nat := TL.joinL [32] (wordsL r)
def fits (i : Int) : Prop := i.natAbs < 10 ^ 500
theorem fits.small {i : Int} (h : fits i) : small i := Nat.lt_trans h (by decide +kernel)
theorem fits.len {i : Int} (h : fits i) : (intL i).length ≤ 501 := intL_len (by decide) h
def fitsR (r : RuleV) : Prop := r.1.length ≤ 100 ∧ (∀ s ∈ r.1, fits s.1 ∧ fits s.2) ∧ ∀ g, r.2 = some g → fits g
theorem wordL_len {s : Int × Int} (h1 : fits s.1) (h2 : fits s.2) : (wordL s).length ≤ 1003 := by
  unfold wordL
  rw [List.length_append, List.length_cons]
  have := h1.len
  have := h2.len
  omega
theorem wordsL_len {r : RuleV} (h : fitsR r) : ∀ x ∈ wordsL r, x.length ≤ 1003 := by
  intro x hx
  rcases List.mem_append.mp hx with hx | hx
  · obtain ⟨s, hs, rfl⟩ := List.mem_map.mp hx
    exact wordL_len (h.2.1 s hs).1 (h.2.1 s hs).2
  · obtain ⟨rows, gone⟩ := r
    cases gone with
    | none => cases hx
    | some g =>
      have hg := (h.2.2 g rfl).len
      rcases List.mem_cons.mp hx with hx | hx
      · rw [hx]; decide
      · rw [List.mem_singleton.mp hx]; omega
theorem sum_le {l : List Nat} {b : Nat} (h : ∀ x ∈ l, x ≤ b) : l.sum ≤ l.length * b := by
  induction l with
  | nil => exact Nat.zero_le _
  | cons a l ih =>
    rw [List.sum_cons, List.length_cons, Nat.succ_mul]
    have := h a List.mem_cons_self
    have := ih fun x hx => h x (List.mem_cons_of_mem _ hx)
    omega
def rJoin (K : PySem.W.Frag) : V → List V → Hp → VK → Prop := fun x xs H Q => ∃ a p, ∃ ys : List Str, x = .str a ∧ xs = [.ref p] ∧ (SqL K H p (ys.map V.str) ∨ SqT K H p (ys.map V.str)) ∧ (ys.map (·.length)).sum + ys.length * a.length ≤ 16777216 ∧ Q (.str (Txt.join a ys)) H
/-- " ".join of few words -/
theorem r_joinB {H : Hp} {Q : VK} {v : V} {ws : List (List Nat)} (h : rp H v (ws.map S)) (hl : ws.length ≤ 1000) (hw : ∀ x ∈ ws, x.length ≤ 2000) (q : Q (.str (S (TL.joinL [32] ws))) H) : rJoin K (.str " ") [v] H Q := by
  obtain ⟨p, xs, rfl, hp, hxs⟩ := h
  have e := strs_map hxs
  subst e
  refine ⟨" ", p, ws.map S, rfl, rfl, .inl (sqL hp), ?_, ?_⟩
  · have h1 : ((ws.map S).map (·.length)).sum ≤ ws.length * 2000 := by
      have q := sum_le (l := (ws.map S).map (·.length)) (b := 2000) (fun x hx => by
        obtain ⟨y, hy, rfl⟩ := List.mem_map.mp hx
        obtain ⟨z, hz, rfl⟩ := List.mem_map.mp hy
        rw [S_len]
        exact hw z hz)
      rw [List.length_map, List.length_map] at q
      exact q
    have h2 : (" " : Str).length = 1 := by rw [lit_blank]; rfl
    rw [h2, List.length_map]
    omega
  · rw [lit_blank, join_S]
    exact q
def sp_show_rule (K : PySem.W.Frag) : Sp := fun vs H Q _ => ∃ (v : V) (r : RuleV), vs = [v] ∧ RuleAt K H v r ∧ fitsR r ∧ ∀ H', Ex H H' → Q (.str (S (textL r))) H'
abbrev N_show_rule : List Str := ["rule", "words", "age", "width"]
theorem sc_show_rule : FnScope N_show_rule ["rule"] (defScope s_show_rule) := ⟨rfl, rfl, rfl, by decide +kernel, rfl, by decide +kernel, by decide +kernel⟩
theorem ok_show_rule (T : Top K mg) : FnY P w K mg base 2 (gA K "show_rule") (fdOf K ("show_rule", none)) ["rule"] (sp_show_rule K) := by
  have sc := sc_show_rule
  refine okY (t_d_show_rule T) sc (fun vs H Q E h => by repeat (first | (obtain ⟨rfl, _⟩ := h; rfl) | obtain ⟨_, h⟩ := h)) (fun cdv A outer s H vs Q E B h => ⟨_, (pss_cons (ps_setLcY (i := 1) B.stk B.frm B.tk rfl sc.nd rfl rfl (sw_true rfl rfl rfl (by decide +kernel)) (pi_list (pe_methY0 (pv 0) (t_c_Rule T) (t_m_Rule_steps T) (ok_Rule_steps T) (B.room.mono (by decide)) (t_b_Rule_steps T) .nil B.tk)) (blkOk_by (own := [("age", 2), ("width", 3)]) (N := N_show_rule) (sc := defScope s_show_rule) (by decide +kernel)) (fun _ _ _ _ _ _ => (pg_tupK K (n := 2) rfl rfl (pgs_cons (pg_name (i := 2) sc.nd rfl (.inl rfl) (.inr rfl)) (pgs_cons (pg_name (i := 3) sc.nd rfl (.inl rfl) (.inr rfl)) pgs_nil)))) (fun _ _ _ _ _ _ => pts_nil) (fun _ _ _ _ _ _ => (pe_op op_addX (pe_op op_addX (pe_callY (ok_show_number T) (B.room.mono (by decide)) rfl (t_g_show_number T) (t_d_show_number T).kp (t_b_show_number T) .nil blk_takes (pa_cons (pv 2) pa_nil)) pe_str) (pe_callY (ok_show_number T) (B.room.mono (by decide)) rfl (t_g_show_number T) (t_d_show_number T).kp (t_b_show_number T) .nil blk_takes (pa_cons (pv 3) pa_nil)))))
      (C8.pss_cut (ps_if (pt_cmpR op_notN1 (pe_methY0 (pv 0) (t_c_Rule T) (t_m_Rule_gone T) (ok_Rule_gone T) (B.room.mono (by decide)) (t_b_Rule_gone T) .nil B.tk) pe_non (nomark _))
        (pss_one (ps_set (i := 1) sc.nd rfl (.inl rfl) (pe_op op_cat (pv 1) (pe_lst (pa_cons pe_str (pa_cons (pe_callY (ok_show_number T) (B.room.mono (by decide)) rfl (t_g_show_number T) (t_d_show_number T).kp (t_b_show_number T) .nil B.tk (pa_cons (pe_methY0 (pv 0) (t_c_Rule T) (t_m_Rule_gone T) (ok_Rule_gone T) (B.room.mono (by decide)) (t_b_Rule_gone T) .nil B.tk) pa_nil)) pa_nil))))))
        pss_nil)
      (pss_one (ps_ret (pe_join pe_str (pv 1)))))), ?_⟩)
  obtain ⟨v, r, rfl, hr, hfit, hQ⟩ := h
  have hr0 := hr
  obtain ⟨a, dx, row, g, rfl, ha, hrow, hg⟩ := hr
  obtain ⟨rows, gone⟩ := r
  repeat walk_at "s"
  refine ⟨a, _, _, rfl, ha, rfl, ?_⟩
  repeat walk_at "s"
  refine ⟨_, _, rfl, hr0, fun sv H1 e1 hs => ?_⟩
  refine lc_rp (β := Str) hs (by have := hfit.1; omega) (fun pre bs => bs = (pre.map wordL).map S) rfl (fun pre s post bs x H2 Kt Kf el hb e2 hx hkt hkf => ?_) (fun p H3 bs e3 np hbs hb => ?_)
  · obtain ⟨t, u, v, rfl, ht, hu, hv⟩ := hx
    obtain ⟨s1, s2⟩ := s
    obtain rfl : u = .int s1 := hu
    obtain rfl : v = .int s2 := hv
    have hin : (s1, s2) ∈ rows := by
      have q : rows = pre ++ (s1, s2) :: post := el
      rw [q]
      exact List.mem_append_right _ List.mem_cons_self
    obtain ⟨f1, f2⟩ := hfit.2.1 _ hin
    refine w_gtup (sqT ht) rfl ?_
    repeat walk_at "s"
    refine ⟨rfl, ?_⟩
    repeat walk_at "s"
    refine ⟨s1, rfl, f1.small, ?_⟩
    repeat walk_at "s"
    have l1 := f1.len
    have l2 := f2.len
    rw [int_str, lit_colon]
    refine r_addS (by rw [S_len, S_len]; exact Nat.le_trans (Nat.add_le_add_right l1 1) (by decide)) ?_
    repeat walk_at "s"
    refine ⟨s2, rfl, f2.small, ?_⟩
    rw [int_str, S_cat]
    have e4 : (intL s1 ++ [58]).length ≤ 502 := by rw [List.length_append]; exact Nat.add_le_add_right l1 1
    refine r_addS (by rw [S_len, S_len]; exact Nat.le_trans (Nat.add_le_add e4 l2) (by decide)) ?_
    rw [S_cat]
    refine hkt _ _ (S (wordL (s1, s2))) (Ex.refl _) ?_ (by rw [hb, List.map_append, List.map_append]; rfl)
    show V.str _ = V.str _
    unfold wordL
    rw [List.append_assoc]
    rfl
  · subst hb
    repeat walk_at "s"
    refine w_cut (fun σ' H' => ∃ v oa ow, σ' = [some (.ref a), some v, oa, ow] ∧ Ex H H' ∧ rp H' v ((wordsL (rows, gone)).map S)) ?_ ?_
    · repeat walk_at "s"
      refine ⟨a, _, _, rfl, e3 _ _ (e1 _ _ ha), rfl, ?_⟩
      repeat walk_at "s"
      refine ⟨_, _, rfl, (hr0.mono e1).mono e3, fun gv hgv => ?_⟩
      have hgv1 : rp H3 gv gone := hgv
      repeat walk_at "s"
      refine r_notN (isN_opt hgv1) ?_
      repeat walk_at "s"
      cases gone with
      | none =>
        refine ite2 (fun c => absurd (show false = true from c) (by decide)) (fun _ => ?_)
        repeat walk_at "s"
        refine ⟨_, _, _, rfl, e1.trans e3, ?_⟩
        show rp H3 (.ref p) ((rows.map wordL ++ []).map S)
        rw [List.append_nil]
        exact hbs
      | some g' =>
        obtain rfl : gv = .int g' := hgv
        refine ite2 (fun _ => ?_) (fun c => absurd rfl c)
        repeat walk_at "s"
        refine ⟨a, _, _, rfl, e3 _ _ (e1 _ _ ha), rfl, ?_⟩
        repeat walk_at "s"
        refine ⟨_, _, rfl, (hr0.mono e1).mono e3, fun gv hgv => ?_⟩
        obtain rfl : gv = .int g' := hgv
        repeat walk_at "s"
        refine ⟨g', rfl, (hfit.2.2 g' rfl).small, ?_⟩
        repeat walk_at "s"
        refine nL le5 fun q H4 e4 nq _ hq => ?_
        obtain ⟨p', ys, ep, hp, hys⟩ := hbs
        cases ep
        refine r_cat (e4 _ _ hp) hq ?_ fun p5 hp5 => ?_
        · have h1 := hys.length
          rw [List.length_map, List.length_map] at h1
          have := hfit.1
          show ys.length + 2 ≤ _
          have h3 : rows.length ≤ 100 := hfit.1
          exact Nat.le_trans (show ys.length + 2 ≤ 102 by omega) (by decide)
        · repeat walk_at "s"
          refine ⟨_, _, _, rfl, ((e1.trans e3).trans e4).trans (Ex.new hp5), ?_⟩
          show rp _ (.ref p5) ((rows.map wordL ++ [GONE, intL g']).map S)
          rw [List.map_append]
          refine rp_list upd_same ((hys.ex (e4.trans (Ex.new hp5))).append (.cons ?_ (.cons ?_ .nil)))
          · show V.str _ = V.str _
            rw [lit_gone]
          · show V.str _ = V.str _
            rw [int_str]
    · rintro σ' H' ⟨v, oa, ow, rfl, e, hv⟩
      repeat walk_at "s"
      refine r_joinB (K := K) hv ?_ (fun x hx => Nat.le_trans (wordsL_len hfit x hx) (by decide)) (hQ _ e)
      unfold wordsL
      rw [List.length_append, List.length_map]
      have h3 : rows.length ≤ 100 := hfit.1
      have h4 : (goneW gone).length ≤ 2 := by
        cases gone with
        | none => exact Nat.zero_le _
        | some _ => exact Nat.le_refl 2
      show rows.length + (goneW gone).length ≤ 1000
      omega
end
end T
namespace T
open PySem PySem.Spec PyProof.Rows L2 Y SX
section
variable {P : Program} {w : World} {K : PySem.W.Frag} {mg : Str → Option Value} {base : Heap}
def parL (t : List Nat) : Option (List Nat × List Nat) := TL.par [58] [] t
theorem par_len : ∀ (t acc p q : List Nat), TL.par [58] acc t = some (p, q) → p.length + 1 + q.length = acc.length + t.length
  | [], acc, p, q, h => by cases h
  | c :: r, acc, p, q, h => by
    unfold TL.par at h
    split at h
    · injection h with h
      injection h with h1 h2
      subst h1
      subst h2
      show acc.length + 1 + ((c :: r).drop 1).length = acc.length + (r.length + 1)
      rw [List.drop_one]
      show acc.length + 1 + r.length = _
      omega
    · have q := par_len r (acc ++ [c]) p q h
      rw [List.length_append, List.length_singleton] at q
      rw [List.length_cons]
      omega
def stepL (t : List Nat) : Option (Int × Int) := match parL t with
  | none => none
  | some (p, q) => match readL p, readL q with
    | some a, some b => some (a, b)
    | _, _ => none
def sp_read_step (K : PySem.W.Frag) : Sp := fun vs H Q E => ∃ t : List Nat, vs = [.str (S t)] ∧ t.length ≤ 640 ∧ (∀ v' H' s, Ex H H' → rp H' v' s → stepL t = some s → Q v' H') ∧ (stepL t = none → ErrT K 0 E H)
abbrev N_read_step : List Str := ["word", "age", "colon", "width"]
theorem sc_read_step : FnScope N_read_step ["word"] (defScope s_read_step) := ⟨rfl, rfl, rfl, by decide +kernel, rfl, by decide +kernel, by decide +kernel⟩
theorem ok_read_step (T : Top K mg) : FnY P w K mg base 5 (gA K "read_step") (fdOf K ("read_step", none)) ["word"] (sp_read_step K) := by
  have sc := sc_read_step
  refine okY (t_d_read_step T) sc (fun vs H Q E h => by repeat (first | (obtain ⟨rfl, _⟩ := h; rfl) | obtain ⟨_, h⟩ := h)) (fun cdv A outer s H vs Q E B h => ⟨_, (pss_cons (ps_asg (pe_partition (pv 0) pe_str) (pg_tup (n := 3) rfl (pgs_cons (pg_name (i := 1) sc.nd rfl (.inl rfl)) (pgs_cons (pg_name (i := 2) sc.nd rfl (.inl rfl)) (pgs_cons (pg_name (i := 3) sc.nd rfl (.inl rfl)) pgs_nil)))))
      (pss_cons (ps_expr (pe_callY (ok_needed T) (B.room.mono (by decide)) rfl (t_g_needed T) (t_d_needed T).kp (t_b_needed T) .nil B.tk (pa_cons (pe_cmpR op_eq (pv 2) pe_str (nomark _)) pa_nil)))
      (pss_one (ps_ret (pe_tup (pa_cons (pe_callY (ok_read_number T) (B.room.mono (by decide)) rfl (t_g_read_number T) (t_d_read_number T).kp (t_b_read_number T) .nil B.tk (pa_cons (pv 1) pa_nil)) (pa_cons (pe_callY (ok_read_number T) (B.room.mono (by decide)) rfl (t_g_read_number T) (t_d_read_number T).kp (t_b_read_number T) .nil B.tk (pa_cons (pv 3) pa_nil)) pa_nil))))))), ?_⟩)
  obtain ⟨t, rfl, hl, hQ, hE⟩ := h
  repeat walk_at "s"
  refine ⟨_, _, rfl, rfl, by decide +kernel, by rw [S_len]; exact Nat.le_trans hl (by decide), fun p hp => ?_⟩
  refine w_gtup (sqT upd_same) rfl ?_
  rw [lit_colon] at *
  cases hp2 : parL t with
  | none =>
    have ep := partition_none (a := t) (b := [58]) (by decide) hp2
    rw [ep] at *
    repeat walk_at "s"
    refine ⟨_, rfl, fun c => ?_, fun _ => (hE ?_).mono (Ex.new hp)⟩
    · have c2 := of_decide_eq_true c
      exact absurd c2 (by intro z; cases S_inj z)
    · unfold stepL
      rw [hp2]
  | some pq =>
    obtain ⟨a, b⟩ := pq
    have ep := partition_some (a := t) (b := [58]) (by decide) hp2
    rw [ep] at *
    have hlen := par_len t [] a b hp2
    repeat walk_at "s"
    refine ⟨true, by rw [decide_eq_true rfl]; rfl, fun _ => ?_, fun z => nomatch z⟩
    have es : stepL t = match readL a, readL b with
        | some x, some y => some (x, y)
        | _, _ => none := by
      unfold stepL
      rw [hp2]
    repeat walk_at "s"
    refine ⟨a, rfl, by rw [List.length_nil] at hlen; omega, fun H2 x e2 hx => ?_, fun hx => (hE (by rw [es, hx])).mono (Ex.new hp)⟩
    repeat walk_at "s"
    refine ⟨b, rfl, by rw [List.length_nil] at hlen; omega, fun H3 y e3 hy => ?_, fun hy => (hE (by rw [es, hx, hy])).mono ((Ex.new hp).trans e2)⟩
    repeat walk_at "s"
    refine nT le5 fun q H4 e4 nq _ hq => ?_
    exact hQ _ _ (x, y) ((((Ex.new hp).trans e2).trans e3).trans e4) (rp_pair hq rfl rfl) (by rw [es, hx, hy])
end
end T
namespace T
open PySem PySem.Spec PyProof.Rows L2 Y SX
section
variable {P : Program} {w : World} {K : PySem.W.Frag} {mg : Str → Option Value} {base : Heap}
theorem mapS {l m : List (List Nat)} (h : l.map S = m.map S) : l = m := by
  rw [← map_S_tl l, h, map_S_tl]
def stepsL (ws : List (List Nat)) : Option (List (Int × Int)) := ws.foldl (fun o w => o.bind fun bs => (stepL w).map fun s => bs ++ [s]) (some [])
theorem stepsL_snoc (pre : List (List Nat)) (w : List Nat) : stepsL (pre ++ [w]) = (stepsL pre).bind fun bs => (stepL w).map fun s => bs ++ [s] := by
  unfold stepsL
  rw [List.foldl_append]
  rfl
theorem fold_none (post : List (List Nat)) : post.foldl (fun (o : Option (List (Int × Int))) w => o.bind fun bs => (stepL w).map fun s => bs ++ [s]) none = none := by
  induction post with
  | nil => rfl
  | cons a l ih => exact ih
theorem stepsL_bad {pre post : List (List Nat)} {w : List Nat} (h : stepL w = none) : stepsL (pre ++ w :: post) = none := by
  have e : pre ++ w :: post = (pre ++ [w]) ++ post := by rw [List.append_assoc]; rfl
  have q := stepsL_snoc pre w
  rw [h] at q
  have z : stepsL (pre ++ [w]) = none := by
    rw [q]
    cases stepsL pre <;> rfl
  unfold stepsL at z ⊢
  rw [e, List.foldl_append, z]
  exact fold_none post
theorem steps_len {ws : List (List Nat)} : ∀ {bs : List (Int × Int)}, stepsL ws = some bs → bs.length = ws.length := by
  suffices h : ∀ (ws : List (List Nat)) (acc bs : List (Int × Int)), ws.foldl (fun o w => o.bind fun bs => (stepL w).map fun s => bs ++ [s]) (some acc) = some bs → bs.length = acc.length + ws.length from fun {bs} q => by
    have := h ws [] bs q
    rw [List.length_nil] at this
    omega
  intro ws
  induction ws with
  | nil =>
    intro acc bs q
    have e : acc = bs := Option.some.inj q
    rw [e]
    rfl
  | cons a l ih =>
    intro acc bs q
    rw [List.foldl_cons] at q
    cases h : stepL a with
    | none =>
      have e : ((some acc).bind fun bs => (stepL a).map fun s => bs ++ [s]) = none := by rw [h]; rfl
      rw [e, fold_none] at q
      cases q
    | some s =>
      have e : ((some acc).bind fun bs => (stepL a).map fun s => bs ++ [s]) = some (acc ++ [s]) := by rw [h]; rfl
      rw [e] at q
      have := ih _ _ q
      rw [List.length_append, List.length_singleton] at this
      rw [List.length_cons]
      omega
def fin (ws : List (List Nat)) (g : Option Int) : Option RuleV := match stepsL ws with
  | none => none
  | some rows => if okRule (rows, g) = true then some (rows, g) else none
def cutG (ws : List (List Nat)) : Bool := decide (2 < ws.length) && decide (ws[ws.length - 2]? = some GONE)
def readW (ws : List (List Nat)) : Option RuleV := if cutG ws = true then (match readL (ws.getD (ws.length - 1) []) with
    | none => none
    | some g => fin (ws.take (ws.length - 2)) (some g)) else fin ws none
def readT (t : List Nat) : Option RuleV := readW (TL.spl [32] 0 [] t)
theorem atI_neg {α : Type} {xs : List α} {k : Nat} (h0 : 0 < k) (h : k ≤ xs.length) : atI xs (-(k : Int)) = xs[xs.length - k]? := by
  unfold atI ixN
  rw [if_neg (by omega), if_pos (by omega)]
  show xs[(-(k : Int) + (xs.length : Int)).toNat]? = _
  congr 1
  omega
theorem cut_to {xs : List V} {k : Nat} (h0 : 0 < k) (h : k ≤ xs.length) : cutV xs none (some (-(k : Int))) = xs.take (xs.length - k) := by
  have e1 : HT.sIx xs.length 0 none = 0 := rfl
  have e2 : HT.sIx xs.length xs.length (some (-(k : Int))) = xs.length - k := by
    show (if -(k : Int) < 0 then (-(k : Int) + (xs.length : Int)).toNat else _) = _
    rw [if_pos (by omega)]
    omega
  unfold cutV
  rw [e1, e2, List.drop_zero, Nat.sub_zero]
def NotStr (H : Hp) (v : V) : Prop := v = .non ∨ (∃ i, v = .int i) ∨ ∃ p xs, v = .ref p ∧ H p = some (.lst xs)
def sp_read_rule (K : PySem.W.Frag) : Sp := fun vs H Q E => ∃ v : V, vs = [v] ∧ ((∃ t : List Nat, v = .str (S t) ∧ t.length ≤ 90000 ∧ (TL.spl [32] 0 [] t).length ≤ 90000 ∧ (∀ w ∈ TL.spl [32] 0 [] t, w.length ≤ 640) ∧
    (∀ v' H' r, Ex H H' → RuleAt K H' v' r → readT t = some r → Q v' H') ∧ (readT t = none → ErrT K 0 E H)) ∨ (NotStr H v ∧ ErrT K 0 E H))
abbrev N_read_rule : List Str := ["text", "words", "gone", "steps", "word", "rule"]
theorem sc_read_rule : FnScope N_read_rule ["text"] (defScope s_read_rule) := ⟨rfl, rfl, rfl, by decide +kernel, rfl, by decide +kernel, by decide +kernel⟩
theorem ok_read_rule (T : Top K mg) : FnY P w K mg base 6 (gA K "read_rule") (fdOf K ("read_rule", none)) ["text"] (sp_read_rule K) := by
  obtain ⟨ds_Rule___init___3, dv_Rule___init___3, db_Rule___init___3⟩ := t_b_Rule___init___3 T
  have sc := sc_read_rule
  refine okY (t_d_read_rule T) sc (fun vs H Q E h => by repeat (first | (obtain ⟨rfl, _⟩ := h; rfl) | obtain ⟨_, h⟩ := h)) (fun cdv A outer s H vs Q E B h => ⟨_, (pss_cons (ps_expr (pe_callY (ok_needed T) (B.room.mono (by decide)) rfl (t_g_needed T) (t_d_needed T).kp (t_b_needed T) .nil B.tk (pa_cons (pe_callB call_isi (by rfl) (t_b_isinstance T) (by decide +kernel) (pa_cons (pv 0) (pa_cons (pe_bltn (v := .ty "str") rfl (t_b_str T) (by decide +kernel) rfl) pa_nil))) pa_nil)))
      (pss_cons (ps_set (i := 1) sc.nd rfl (.inl rfl) (pe_split (pv 0) pe_str))
      (pss_cons (ps_set (i := 2) sc.nd rfl (.inl rfl) pe_non)
      (C8.pss_cut (ps_if (PW.pt (pw_and (pt_cmpR op_gt (pe_callB call_lenQ (by rfl) (t_b_len T) (by decide +kernel) (pa_cons (pv 1) pa_nil)) pe_int (nomark _)) (pw_and1 (pt_cmpR op_eq (pe_ix ix_list (pv 1) (pe_un un_neg pe_int) (fun _ _ => rfl)) pe_str (nomark _)))))
        (pss_cons (ps_set (i := 2) sc.nd rfl (.inl rfl) (pe_callY (ok_read_number T) (B.room.mono (by decide)) rfl (t_g_read_number T) (t_d_read_number T).kp (t_b_read_number T) .nil B.tk (pa_cons (pe_ix ix_list (pv 1) (pe_un un_neg pe_int) (fun _ _ => rfl)) pa_nil)))
        (pss_one (ps_set (i := 1) sc.nd rfl (.inl rfl) (pe_slice sl_list (pv 1) po_none (po_some (pe_un un_neg pe_int))))))
        pss_nil)
      (pss_cons (ps_setLcY (i := 3) B.stk B.frm B.tk rfl sc.nd rfl rfl (sw_true rfl rfl rfl (by decide +kernel)) (pi_list (pv 1)) (blkOk_by (own := [("word", 4)]) (N := N_read_rule) (sc := defScope s_read_rule) (by decide +kernel)) (fun _ _ _ _ _ _ => (pg_name (i := 4) sc.nd rfl (.inl rfl) (.inr rfl))) (fun _ _ _ _ _ _ => pts_nil) (fun _ _ _ _ _ _ => (pe_callY (ok_read_step T) (B.room.mono (by decide)) rfl (t_g_read_step T) (t_d_read_step T).kp (t_b_read_step T) .nil blk_takes (pa_cons (pv 4) pa_nil))))
      (pss_one (ps_tryY B.stk B.frm B.passAt B.tk (fun W pn xe tkB paB =>
        (pss_one (ps_set (i := 5) sc.nd rfl (.inl rfl) (pe_makeY (t_mk_Rule T) (ok_Rule___init__ T) (B.room.mono (by decide)) rfl (t_g_Rule T) db_Rule___init___3 dv_Rule___init___3 tkB (pa_cons (pv 3) (pa_cons (pv 2) pa_nil))))))
        (HdY.bare ⟨rfl, by decide, .inl (t_g_NoRule T)⟩ (fun a oe cls d ch pn hz hf hp tkS hot =>
          (pss_one (ps_raiseYH hot tkS (pmk_oexA (t_o_NoText T).1 (t_o_NoText T).2.1 (t_o_NoText T).2.2 (ok_NoText___init__ T) (L2H.roomH_mark (B.room.mono (by decide)) _) (t_b_NoText___init__ T) rfl (t_g_NoText T) (pa_cons pe_int pa_nil))))) HdY.nil)
        (pss_one (ps_ret (pv 5)))))))))), ?_⟩)
  obtain ⟨v, rfl, h⟩ := h
  rcases h with ⟨t, rfl, hl, hwl, hw, hQ, hE⟩ | ⟨hn, hE⟩
  case inr =>
    repeat walk_at "s"
    rcases hn with rfl | ⟨i, rfl⟩ | ⟨p, xs, rfl, hp⟩
    · refine w_isi (.ty "str") (.base .non) (b := false) (by rfl) ?_
      repeat walk_at "s"
      exact ⟨false, rfl, (fun z => nomatch z), fun _ => hE⟩
    · refine w_isi (.ty "str") (.base (.int _)) (b := false) (by rfl) ?_
      repeat walk_at "s"
      exact ⟨false, rfl, (fun z => nomatch z), fun _ => hE⟩
    · refine w_isi (.ty "str") (.base (.lst hp)) (b := false) (by rfl) ?_
      repeat walk_at "s"
      exact ⟨false, rfl, (fun z => nomatch z), fun _ => hE⟩
  case inl =>
  repeat walk_at "s"
  refine w_isi (.ty "str") (.base (.str _)) (b := true) (by rfl) ?_
  repeat walk_at "s"
  refine ⟨true, rfl, fun _ => ?_, fun z => nomatch z⟩
  repeat walk_at "s"
  refine ⟨_, _, rfl, rfl, by decide +kernel, by rw [S_len]; exact Nat.le_trans (Nat.add_le_add_right hl 2) (by decide), fun p hp => ?_⟩
  repeat walk_at "s"
  generalize hws : TL.spl [32] 0 [] t = ws at *
  have esp : Txt.split (S t) " " = ws.map S := by rw [lit_blank, split_S (by decide) (by decide), hws]
  rw [esp]
  have hbad : (∀ (ws' : List (List Nat)) (g : Option Int), readT t = fin ws' g → True) := fun _ _ _ => trivial
  refine w_cut (fun σ' H' => ∃ v gv ws' g, σ' = [some (.str (S t)), some v, some gv, none, none, none] ∧ Ex H H' ∧ rp H' v (ws'.map S) ∧ rp H' gv g ∧ readT t = fin ws' g ∧ ws'.length ≤ 90000 ∧ ∀ w ∈ ws', w.length ≤ 640) ?_ ?_
  · repeat walk_at "s"
    have hq : upd H p (.lst ((ws.map S).map V.str)) p = some (.lst ((ws.map S).map V.str)) := upd_same
    have e1 : Ex H (upd H p (.lst ((ws.map S).map V.str))) := Ex.new hp
    generalize upd H p (.lst ((ws.map S).map V.str)) = H1 at hq e1 ⊢
    refine r_lenL (sqL hq) ?_
    repeat walk_at "s"
    have eL : (((ws.map S).map V.str).length : Int) = ws.length := by rw [List.length_map, List.length_map]
    rw [eL]
    have er : readT t = readW ws := by unfold readT; rw [hws]
    have hg : ∀ i : Nat, ((ws.map S).map V.str)[i]? = (ws[i]?).map fun x => V.str (S x) := fun i => by
      rw [List.getElem?_map, List.getElem?_map]
      cases ws[i]? <;> rfl
    have hys : A2 (rp H1) ((ws.map S).map V.str) (ws.map S) := A2.of_map (ws.map S)
    have noc : cutG ws = false → ∃ v gv ws' g, [some (.str (S t)), some (V.ref p), some V.non, none, none, none] = [some (.str (S t)), some v, some gv, none, none, none] ∧ Ex H H1 ∧ rp H1 v (ws'.map S) ∧ rp H1 gv g ∧ readT t = fin ws' g ∧ ws'.length ≤ 90000 ∧ ∀ w ∈ ws', w.length ≤ 640 := fun z =>
      ⟨_, _, ws, none, rfl, e1, rp_list hq hys, rfl, by rw [er]; unfold readW; rw [z]; rfl, hwl, hw⟩
    refine ite2 (fun c1 => ?_) (fun c1 => ?_)
    · rw [decide_eq_true_iff] at c1
      have c1' : 2 < ws.length := by omega
      obtain ⟨x, hx⟩ : ∃ x, ws[ws.length - 2]? = some x := ⟨_, List.getElem?_eq_getElem (by omega)⟩
      obtain ⟨y, hy⟩ : ∃ y, ws[ws.length - 1]? = some y := ⟨_, List.getElem?_eq_getElem (by omega)⟩
      have hlen : ((ws.map S).map V.str).length = ws.length := by rw [List.length_map, List.length_map]
      have cG : cutG ws = decide (x = GONE) := by
        unfold cutG
        rw [decide_eq_true c1', Bool.true_and, hx]
        by_cases q : x = GONE
        · rw [q, decide_eq_true rfl, decide_eq_true rfl]
        · rw [decide_eq_false q, decide_eq_false fun z => q (Option.some.inj z)]
      repeat walk_at "s"
      refine r_ixL (v := .str (S x)) (sqL hq) ?_ ?_
      · refine (atI_neg (k := 2) (by decide) (by rw [hlen]; omega)).trans ?_
        rw [hlen, hg, hx]
        rfl
      repeat walk_at "s"
      have ex : decide (S x = Str.ofString "gone") = decide (x = GONE) := by
        rw [lit_gone]
        by_cases q : x = GONE
        · rw [q, decide_eq_true rfl, decide_eq_true rfl]
        · rw [decide_eq_false q, decide_eq_false fun z => q (S_inj z)]
      rw [ex, ← cG]
      refine ite2 (fun c2 => ?_) (fun c2 => ?_)
      · have ey : ws.getD (ws.length - 1) [] = y := by rw [List.getD_eq_getElem?_getD, hy]; rfl
        repeat walk_at "s"
        refine r_ixL (v := .str (S y)) (sqL hq) ?_ ?_
        · refine (atI_neg (k := 1) (by decide) (by rw [hlen]; omega)).trans ?_
          rw [hlen, hg, hy]
          rfl
        repeat walk_at "s"
        have err : readT t = match readL y with
            | none => none
            | some g => fin (ws.take (ws.length - 2)) (some g) := by
          rw [er]
          unfold readW
          rw [c2, ey]
          rfl
        refine ⟨y, rfl, hw y (List.mem_of_getElem? hy), fun H2 g e2 hgv => ?_, fun hgv => (hE (by rw [err, hgv])).mono e1⟩
        repeat walk_at "s"
        refine r_slL (sqL (e2 _ _ hq)) fun p2 hp2 => ?_
        repeat walk_at "s"
        refine ⟨_, _, ws.take (ws.length - 2), some g, rfl, (e1.trans e2).trans (Ex.new hp2), rp_list upd_same ?_, rfl, by rw [err, hgv], ?_, fun w hw2 => hw w (List.mem_of_mem_take hw2)⟩
        · have ec := cut_to (xs := (ws.map S).map V.str) (k := 2) (by decide) (by rw [hlen]; omega)
          rw [hlen] at ec
          have ec2 : cutV ((ws.map S).map V.str) none (some (-2)) = ((ws.take (ws.length - 2)).map S).map V.str := by
            refine ec.trans ?_
            rw [List.map_take, List.map_take]
          rw [ec2]
          exact A2.of_map _
        · rw [List.length_take]
          omega
      · repeat walk_at "s"
        exact noc (bF c2)
    · repeat walk_at "s"
      refine noc ?_
      unfold cutG
      rw [decide_eq_true_iff] at c1
      rw [decide_eq_false (show ¬ 2 < ws.length by omega), Bool.false_and]
  · rintro σ' H' ⟨v, gv, ws', g, rfl, e1, hv, hgv, er, hl', hw'⟩
    repeat walk_at "s"
    refine lc_rp (β := Int × Int) hv (by rw [List.length_map]; omega) (fun pre bs => ∃ pw, pre = pw.map S ∧ stepsL pw = some bs) ⟨[], rfl, rfl⟩ (fun pre s post bs x H2 Kt Kf el hb e2 hx hkt hkf => ?_) (fun p3 H3 bs e3 np hbs hb => ?_)
    · obtain ⟨pw, rfl, hpw⟩ := hb
      obtain rfl : x = .str s := hx
      obtain ⟨a1, a2, ea, ha1, ha2⟩ := List.map_eq_append_iff.mp el
      obtain ⟨w1, a3, eb, hw1, ha3⟩ := List.map_eq_cons_iff.mp ha2
      have epw : a1 = pw := mapS ha1
      subst epw
      subst hw1
      subst eb
      repeat walk_at "s"
      refine ⟨rfl, ?_⟩
      repeat walk_at "s"
      refine ⟨w1, rfl, hw' w1 (by rw [ea]; exact List.mem_append_right _ List.mem_cons_self), fun v2 H5 s2 e5 hs2 hst => ?_, fun hst => (hE ?_).mono (e1.trans e2)⟩
      · refine hkt _ _ s2 e5 hs2 ⟨a1 ++ [w1], by rw [List.map_append]; rfl, ?_⟩
        rw [stepsL_snoc, hpw, hst]
        rfl
      · rw [er, ea]
        unfold fin
        rw [stepsL_bad hst]
    · obtain ⟨pw, epw, hpw⟩ := hb
      have epw2 : ws' = pw := mapS epw
      subst epw2
      repeat walk_at "s"
      intro xA dxA hx0 hd0 hne
      have gv3 : rp H3 gv g := Rp.mono e3 hgv
      have hlb : bs.length ≤ 100000 := by
        obtain ⟨_, _, _, _, hys⟩ := hbs
        have := steps_len hpw
        omega
      refine ⟨xA, dxA, H3, .ref p3, gv, (bs, g), rfl, (Ex.new hd0).trans (Ex.new ?_), hx0, upd_same, hbs, gv3, hlb, fun ok H' e r => ⟨rfl, ?_⟩, fun bad H' e => ?_⟩
      · rw [upd_ne hne.symm]
        exact hx0
      · repeat walk_at "s"
        exact hQ _ _ (bs, g) ((e1.trans e3).trans e) r (by rw [er]; unfold fin; rw [hpw]; exact if_pos ok)
      · refine ⟨true, t_e_NoRule_NoRule T, fun _ a ha => ?_, fun z => nomatch z⟩
        dsimp only [onS, offD]
        exact raise_NoText ((hE (by rw [er]; unfold fin; rw [hpw]; exact if_neg (by rw [bad]; decide))).mono ((e1.trans e3).trans e))
end
end T
namespace T
open PySem PySem.Spec PyProof.Rows L2 Y SX
section
variable {P : Program} {w : World} {K : PySem.W.Frag} {mg : Str → Option Value} {base : Heap}
theorem fits.lg {i : Int} (h : fits i) : i.natAbs.log2 < 1920 := by have := log2_le h.small; omega
def sp_text : Sp := fun vs H Q _ => ∃ (v g : V) (r : RuleV), vs = [v, g] ∧ rp H v r.1 ∧ rp H g r.2 ∧ fitsR r ∧ ∀ H', Ex H H' → Q (.str (S (textL r))) H'
abbrev N__law_text : List Str := ["_law_rows", "_law_end", "_law_words", "_law_age", "_law_width"]
theorem sc__law_text : FnScope N__law_text ["_law_rows", "_law_end"] (defScope s__law_text) := ⟨rfl, rfl, rfl, by decide +kernel, rfl, by decide +kernel, by decide +kernel⟩
theorem ok__law_text (T : Top K mg) : FnY P w K mg base 1 (gA K "_law_text") (fdOf K ("_law_text", none)) ["_law_rows", "_law_end"] sp_text := by
  have sc := sc__law_text
  refine okY (t_d__law_text T) sc (fun vs H Q E h => by repeat (first | (obtain ⟨rfl, _⟩ := h; rfl) | obtain ⟨_, h⟩ := h)) (fun cdv A outer s H vs Q E B h => ⟨_, (pss_cons (ps_setLcY (i := 2) B.stk B.frm B.tk rfl sc.nd rfl rfl (sw_true rfl rfl rfl (by decide +kernel)) (pi_list (pv 0)) (blkOk_by (own := [("_law_age", 3), ("_law_width", 4)]) (N := N__law_text) (sc := defScope s__law_text) (by decide +kernel)) (fun _ _ _ _ _ _ => (pg_tupK K (n := 2) rfl rfl (pgs_cons (pg_name (i := 3) sc.nd rfl (.inl rfl) (.inr rfl)) (pgs_cons (pg_name (i := 4) sc.nd rfl (.inl rfl) (.inr rfl)) pgs_nil)))) (fun _ _ _ _ _ _ => pts_nil) (fun _ _ _ _ _ _ => (pe_op op_addX (pe_op op_addX (pe_callTy call_strI (by rfl) (t_b_str T) (by decide +kernel) (pa_cons (pv 3) pa_nil)) pe_str) (pe_callTy call_strI (by rfl) (t_b_str T) (by decide +kernel) (pa_cons (pv 4) pa_nil)))))
      (C8.pss_cut (ps_if (pt_cmpR op_notN1 (pv 1) pe_non (nomark _))
        (pss_one (ps_set (i := 2) sc.nd rfl (.inl rfl) (pe_op op_cat (pv 2) (pe_lst (pa_cons pe_str (pa_cons (pe_callTy call_strI (by rfl) (t_b_str T) (by decide +kernel) (pa_cons (pv 1) pa_nil)) pa_nil))))))
        pss_nil)
      (pss_one (ps_ret (pe_join pe_str (pv 2)))))), ?_⟩)
  obtain ⟨v0, g, r, rfl, hrow, hg, hfit, hQ⟩ := h
  obtain ⟨rows, gone⟩ := r
  repeat walk_at "s"
  refine lc_rp (β := Str) hrow (by have := hfit.1; omega) (fun pre bs => bs = (pre.map wordL).map S) rfl (fun pre s post bs x H2 Kt Kf el hb e2 hx hkt hkf => ?_) (fun p H3 bs e3 np hbs hb => ?_)
  · obtain ⟨t, u, v, rfl, ht, hu, hv⟩ := hx
    obtain ⟨s1, s2⟩ := s
    obtain rfl : u = .int s1 := hu
    obtain rfl : v = .int s2 := hv
    have hin : (s1, s2) ∈ rows := by
      have q : rows = pre ++ (s1, s2) :: post := el
      rw [q]
      exact List.mem_append_right _ List.mem_cons_self
    obtain ⟨f1, f2⟩ : fits s1 ∧ fits s2 := hfit.2.1 _ hin
    refine w_gtup (sqT ht) rfl ?_
    repeat walk_at "s"
    refine ⟨rfl, ?_⟩
    repeat walk_at "s"
    refine r_strI (f1.lg) ?_
    repeat walk_at "s"
    have l1 := f1.len
    have l2 := f2.len
    rw [int_str, lit_colon]
    refine r_addS (by rw [S_len, S_len]; exact Nat.le_trans (Nat.add_le_add_right l1 1) (by decide)) ?_
    repeat walk_at "s"
    refine r_strI (f2.lg) ?_
    rw [int_str, S_cat]
    have e4 : (intL s1 ++ [58]).length ≤ 502 := by rw [List.length_append]; exact Nat.add_le_add_right l1 1
    refine r_addS (by rw [S_len, S_len]; exact Nat.le_trans (Nat.add_le_add e4 l2) (by decide)) ?_
    rw [S_cat]
    refine hkt _ _ (S (wordL (s1, s2))) (Ex.refl _) ?_ (by rw [hb, List.map_append, List.map_append]; rfl)
    show V.str _ = V.str _
    unfold wordL
    rw [List.append_assoc]
    rfl
  · subst hb
    repeat walk_at "s"
    refine w_cut (fun σ' H' => ∃ v oa ow, σ' = [some v0, some g, some v, oa, ow] ∧ Ex H H' ∧ rp H' v ((wordsL (rows, gone)).map S)) ?_ ?_
    · repeat walk_at "s"
      refine r_notN (isN_opt hg) ?_
      repeat walk_at "s"
      cases gone with
      | none =>
        refine ite2 (fun c => absurd (show false = true from c) (by decide)) (fun _ => ?_)
        repeat walk_at "s"
        refine ⟨_, _, _, rfl, e3, ?_⟩
        show rp H3 (.ref p) ((rows.map wordL ++ []).map S)
        rw [List.append_nil]
        exact hbs
      | some g' =>
        obtain rfl : g = .int g' := hg
        refine ite2 (fun _ => ?_) (fun c => absurd rfl c)
        repeat walk_at "s"
        refine r_strI ((hfit.2.2 g' rfl).lg) ?_
        repeat walk_at "s"
        refine nL le5 fun q H4 e4 nq _ hq => ?_
        obtain ⟨p', ys, ep, hp, hys⟩ := hbs
        cases ep
        refine r_cat (e4 _ _ hp) hq ?_ fun p5 hp5 => ?_
        · have h1 := hys.length
          rw [List.length_map, List.length_map] at h1
          have h1' : ys.length = rows.length := h1
          show ys.length + 2 ≤ _
          have h3 : rows.length ≤ 100 := hfit.1
          exact Nat.le_trans (show ys.length + 2 ≤ 102 by omega) (by decide)
        · repeat walk_at "s"
          refine ⟨_, _, _, rfl, (e3.trans e4).trans (Ex.new hp5), ?_⟩
          show rp _ (.ref p5) ((rows.map wordL ++ [GONE, intL g']).map S)
          rw [List.map_append]
          refine rp_list upd_same ((hys.ex (e4.trans (Ex.new hp5))).append (.cons ?_ (.cons ?_ .nil)))
          · show V.str _ = V.str _
            rw [lit_gone]
          · show V.str _ = V.str _
            rw [int_str]
    · rintro σ' H' ⟨v, oa, ow, rfl, e, hv⟩
      repeat walk_at "s"
      refine r_joinB (K := K) hv ?_ (fun x hx => Nat.le_trans (wordsL_len hfit x hx) (by decide)) (hQ _ e)
      unfold wordsL
      rw [List.length_append, List.length_map]
      have h3 : rows.length ≤ 100 := hfit.1
      have h4 : (goneW gone).length ≤ 2 := by
        cases gone with
        | none => exact Nat.zero_le _
        | some _ => exact Nat.le_refl 2
      show rows.length + (goneW gone).length ≤ 1000
      omega
def pick (x : Int) : Int := if x % 3 = 0 then 0 else if x % 3 = 1 then x / 3 % 12 else x / 3 % 10 ^ 7
theorem pick_lt {x : Int} (h : 0 ≤ x) : 0 ≤ pick x ∧ pick x < 10 ^ 7 := by
  unfold pick
  split
  · exact ⟨by decide, by decide⟩
  · split <;> omega
def rowsOf (n : Int) : Nat → (Int × Int) × List (Int × Int)
  | 0 => ((amount (mixed n 0), 1), [])
  | k + 1 =>
    let o := rowsOf n k
    let s := (o.1.1 + amount (mixed n (2 * (k : Int) + 2)), o.1.2 * (1 + pick (mixed n (2 * (k : Int) + 1))))
    (s, o.2 ++ [s])
def cntOf (n : Int) : Nat := (1 + n % 5).toNat
def ruleOf (n : Int) : RuleV := ((rowsOf n (cntOf n)).2, if n / 5 % 3 > 0 then some ((rowsOf n (cntOf n)).1.1 + amount (mixed n 20)) else none)
theorem rowsOf_bd (n : Int) : ∀ k : Nat, k ≤ 5 → 0 ≤ (rowsOf n k).1.1 ∧ (rowsOf n k).1.1 ≤ (k + 1) * 10 ^ 22 ∧ 1 ≤ (rowsOf n k).1.2 ∧ (rowsOf n k).1.2 ≤ (10 ^ 7) ^ k
  | 0, _ => by
    have h := mixed_lt n 0
    have := amount_lt h.1 h.2
    show 0 ≤ amount (mixed n 0) ∧ amount (mixed n 0) ≤ _ ∧ (1 : Int) ≤ 1 ∧ (1 : Int) ≤ _
    refine ⟨this.1, by omega, by decide, by decide⟩
  | k + 1, hk => by
    obtain ⟨h1, h2, h3, h4⟩ := rowsOf_bd n k (by omega)
    have m1 := mixed_lt n (2 * (k : Int) + 2)
    have m2 := mixed_lt n (2 * (k : Int) + 1)
    have a1 := amount_lt m1.1 m1.2
    have p1 := pick_lt m2.1
    show 0 ≤ (rowsOf n k).1.1 + amount (mixed n (2 * (k : Int) + 2)) ∧ (rowsOf n k).1.1 + amount (mixed n (2 * (k : Int) + 2)) ≤ _ ∧ 1 ≤ (rowsOf n k).1.2 * (1 + pick (mixed n (2 * (k : Int) + 1))) ∧ (rowsOf n k).1.2 * (1 + pick (mixed n (2 * (k : Int) + 1))) ≤ _
    refine ⟨by omega, by push_cast; omega, ?_, ?_⟩
    · have := Int.mul_le_mul h3 (show 1 ≤ 1 + pick (mixed n (2 * (k : Int) + 1)) by omega) (by decide) (by omega)
      simpa using this
    · rw [Int.pow_succ]
      exact Int.mul_le_mul h4 (by omega) (by omega) (by omega)
theorem fits_of {i : Int} (h0 : 0 ≤ i) (h : i < 10 ^ 60) : fits i := by
  have e : (10 : Nat) ^ 60 ≤ 10 ^ 500 := by decide +kernel
  have e2 : i.natAbs < 10 ^ 60 := by omega
  exact Nat.lt_of_lt_of_le e2 e
theorem rowsOf_le (n : Int) (k : Nat) (h : k ≤ 5) : (rowsOf n k).1.1 < 10 ^ 24 ∧ (rowsOf n k).1.2 < 10 ^ 36 := by
  obtain ⟨h1, h2, h3, h4⟩ := rowsOf_bd n k h
  have e : k = 0 ∨ k = 1 ∨ k = 2 ∨ k = 3 ∨ k = 4 ∨ k = 5 := by omega
  rcases e with e | e | e | e | e | e <;> subst e <;> constructor <;> omega
def sp_rule : Sp := fun vs H Q _ => ∃ n : Int, vs = [.int n] ∧ ∀ v H', Ex H H' → rp H' v (ruleOf n) → Q v H'
abbrev N__law_rule : List Str := ["_law_number", "_law_rows", "_law_age", "_law_width", "_law_k", "_law_x", "_law_end"]
theorem sc__law_rule : FnScope N__law_rule ["_law_number"] (defScope s__law_rule) := ⟨rfl, rfl, rfl, by decide +kernel, rfl, by decide +kernel, by decide +kernel⟩
theorem ok__law_rule (T : Top K mg) : FnY P w K mg base 2 (gA K "_law_rule") (fdOf K ("_law_rule", none)) ["_law_number"] sp_rule := by
  have sc := sc__law_rule
  refine okY (t_d__law_rule T) sc (fun vs H Q E h => by repeat (first | (obtain ⟨rfl, _⟩ := h; rfl) | obtain ⟨_, h⟩ := h)) (fun cdv A outer s H vs Q E B h => ⟨_, (pss_cons (ps_set (i := 1) sc.nd rfl (.inl rfl) (pe_lst pa_nil))
      (pss_cons (ps_set (i := 2) sc.nd rfl (.inl rfl) (pe_callY (ok__law_amount T) (B.room.mono (by decide)) rfl (t_g__law_amount T) (t_d__law_amount T).kp (t_b__law_amount T) .nil B.tk (pa_cons (pe_callY (ok__law_mixed T) (B.room.mono (by decide)) rfl (t_g__law_mixed T) (t_d__law_mixed T).kp (t_b__law_mixed T) .nil B.tk (pa_cons (pv 0) (pa_cons pe_int pa_nil))) pa_nil)))
      (pss_cons (ps_set (i := 3) sc.nd rfl (.inl rfl) pe_int)
      (pss_cons (ps_for B.pass rfl (pi_range1 rfl (t_b_range T) (pa_cons (pe_op op_add pe_int (pe_op op_mod (pv 0) pe_int)) pa_nil)) (pg_name (i := 4) sc.nd rfl (.inl rfl))
        (pss_cons (ps_set (i := 5) sc.nd rfl (.inl rfl) (pe_callY (ok__law_mixed T) (B.room.mono (by decide)) rfl (t_g__law_mixed T) (t_d__law_mixed T).kp (t_b__law_mixed T) .nil B.tk (pa_cons (pv 0) (pa_cons (pe_op op_add (pe_op op_mul pe_int (pv 4)) pe_int) pa_nil))))
        (pss_cons (ps_set (i := 2) sc.nd rfl (.inl rfl) (pe_op op_add (pv 2) (pe_callY (ok__law_amount T) (B.room.mono (by decide)) rfl (t_g__law_amount T) (t_d__law_amount T).kp (t_b__law_amount T) .nil B.tk (pa_cons (pe_callY (ok__law_mixed T) (B.room.mono (by decide)) rfl (t_g__law_mixed T) (t_d__law_mixed T).kp (t_b__law_mixed T) .nil B.tk (pa_cons (pv 0) (pa_cons (pe_op op_add (pe_op op_mul pe_int (pv 4)) pe_int) pa_nil))) pa_nil))))
        (pss_cons (ps_set (i := 3) sc.nd rfl (.inl rfl) (pe_op op_mulW (pv 3) (pe_op op_add pe_int (pe_ix ix_list (pe_lst (pa_cons pe_int (pa_cons (pe_op op_mod (pe_op op_fdiv (pv 5) pe_int) pe_int) (pa_cons (pe_op op_mod (pe_op op_fdiv (pv 5) pe_int) (pe_op op_pow pe_int pe_int)) pa_nil)))) (pe_op op_mod (pv 5) pe_int) (fun _ _ => rfl)))))
        (pss_one (ps_expr (pe_bm PySem.F.plainAttrs_list PySem.F.slot_list_append PySem.F.type_list_append mt_append (pv 1) (pa_cons (pe_tup (pa_cons (pv 2) (pa_cons (pv 3) pa_nil))) pa_nil))))))))
      (pss_cons (ps_set (i := 6) sc.nd rfl (.inl rfl) pe_non)
      (C8.pss_cut (ps_if (pt_cmpR op_gt (pe_op op_mod (pe_op op_fdiv (pv 0) pe_int) pe_int) pe_int (nomark _))
        (pss_one (ps_set (i := 6) sc.nd rfl (.inl rfl) (pe_op op_add (pv 2) (pe_callY (ok__law_amount T) (B.room.mono (by decide)) rfl (t_g__law_amount T) (t_d__law_amount T).kp (t_b__law_amount T) .nil B.tk (pa_cons (pe_callY (ok__law_mixed T) (B.room.mono (by decide)) rfl (t_g__law_mixed T) (t_d__law_mixed T).kp (t_b__law_mixed T) .nil B.tk (pa_cons (pv 0) (pa_cons pe_int pa_nil))) pa_nil)))))
        pss_nil)
      (pss_one (ps_ret (pe_tup (pa_cons (pv 1) (pa_cons (pv 6) pa_nil))))))))))), ?_⟩)
  obtain ⟨n, rfl, hQ⟩ := h
  repeat walk_at "s"
  refine nL le5 fun p H1 e1 np _ hp => ?_
  repeat walk_at "s"
  refine ⟨n, 0, rfl, by decide, by decide, ?_⟩
  repeat walk_at "s"
  have m0 := mixed_lt n 0
  refine ⟨mixed n 0, rfl, m0.1, m0.2, fun H2 e2 => ?_⟩
  repeat walk_at "s"
  have hc : ((1 : Int) + n % 5) = (cntOf n : Int) := by unfold cntOf; omega
  have hc5 : cntOf n ≤ 5 := by unfold cntOf; omega
  refine for_rng (n := cntOf n) (Nat.lt_of_le_of_lt hc5 (by decide)) (fun k σ' H' => ∃ xs ok ox, σ' = [some (.int n), some (.ref p), some (.int (rowsOf n k).1.1), some (.int (rowsOf n k).1.2), ok, ox, none] ∧ Ex H H' ∧ H' p = some (.lst xs) ∧ A2 (rp H') xs (rowsOf n k).2 ∧ xs.length = k) ?_ ?_ ?_ hc
  · exact ⟨[], none, none, rfl, e1.trans e2, e2 _ _ hp, .nil, rfl⟩
  · rintro k σ' H' hk ⟨xs, ok, ox, rfl, e, gp, hxs, hl⟩
    repeat walk_at "s"
    refine ⟨n, 2 * (k : Int) + 1, rfl, by omega, by omega, ?_⟩
    repeat walk_at "s"
    refine ⟨n, 2 * (k : Int) + 2, rfl, by omega, by omega, ?_⟩
    repeat walk_at "s"
    have m1 := mixed_lt n (2 * (k : Int) + 2)
    have m2 := mixed_lt n (2 * (k : Int) + 1)
    have b1 := rowsOf_bd n k (by omega)
    have b2 := rowsOf_le n k (by omega)
    have pk := pick_lt m2.1
    refine ⟨_, rfl, m1.1, m1.2, fun H3 e3 => ?_⟩
    repeat walk_at "s"
    refine nL le5 fun q H4 e4 nq _ hq => ?_
    repeat walk_at "s"
    refine r_ixL (v := .int (pick (mixed n (2 * (k : Int) + 1)))) (sqL hq) ?_ ?_
    · unfold pick
      have c : mixed n (2 * (k : Int) + 1) % 3 = 0 ∨ mixed n (2 * (k : Int) + 1) % 3 = 1 ∨ mixed n (2 * (k : Int) + 1) % 3 = 2 := by omega
      rcases c with c | c | c <;> rw [c] <;> rfl
    repeat walk_at "s"
    refine r_I (cmulW 200 200 (by omega) (by omega) (by decide)) ?_
    repeat walk_at "s"
    have gp4 := e4 _ _ (e3 _ _ gp)
    refine ⟨.inl ⟨rfl, _, sqL gp4⟩, ?_⟩
    repeat walk_at "s"
    refine nT le5 fun t H5 e5 nt _ ht => ?_
    repeat walk_at "s"
    have gp5 := e5 _ _ gp4
    have ntp : t ≠ p := fun z => by rw [z, gp4] at nt; cases nt
    have e35 := (e3.trans e4).trans e5
    refine r_append gp5 (by rw [hl]; exact Nat.lt_of_lt_of_le (Nat.lt_of_lt_of_le hk hc5) (by decide)) ?_
    refine ⟨xs ++ [.ref t], _, _, rfl, Ex.mut (e.trans e35) np, upd_same, ?_, by rw [List.length_append, hl]; rfl⟩
    refine ((hxs.ex e35).fz (ExT.lst gp5)).snoc ⟨t, _, _, rfl, ?_, rfl, rfl⟩
    rw [upd_ne ntp]
    exact ht
  · rintro σ' H' ⟨xs, ok, ox, rfl, e, gp, hxs, hl⟩
    repeat walk_at "s"
    refine w_cut (fun σ2 H2 => ∃ g ok ox, σ2 = [some (.int n), some (.ref p), some (.int (rowsOf n (cntOf n)).1.1), some (.int (rowsOf n (cntOf n)).1.2), ok, ox, some g] ∧ Ex H' H2 ∧ rp H2 g (ruleOf n).2) ?_ ?_
    · repeat walk_at "s"
      refine ite2 (fun c => ?_) (fun c => ?_)
      · repeat walk_at "s"
        refine ⟨n, 20, rfl, by decide, by decide, ?_⟩
        repeat walk_at "s"
        have m1 := mixed_lt n 20
        refine ⟨_, rfl, m1.1, m1.2, fun H3 e3 => ?_⟩
        repeat walk_at "s"
        refine ⟨_, ok, ox, rfl, e3, ?_⟩
        have ec : (ruleOf n).2 = some ((rowsOf n (cntOf n)).1.1 + amount (mixed n 20)) := if_pos (of_decide_eq_true c)
        rw [ec]
        rfl
      · repeat walk_at "s"
        refine ⟨_, ok, ox, rfl, Ex.refl _, ?_⟩
        have ec : (ruleOf n).2 = none := if_neg fun z => c (decide_eq_true z)
        rw [ec]
        rfl
    · rintro σ2 H2 ⟨g, ok, ox, rfl, e2', hg⟩
      repeat walk_at "s"
      refine nT le5 fun t H3 e3 nt _ ht => ?_
      exact hQ _ _ ((e.trans e2').trans e3) ⟨t, _, _, rfl, ht, rp_list (e3 _ _ (e2' _ _ gp)) (hxs.ex (e2'.trans e3)), Rp.mono e3 hg⟩
end
end T
namespace T
open PySem PySem.Spec PyProof.Rows L2 Y SX
section
variable {P : Program} {w : World} {K : PySem.W.Frag} {mg : Str → Option Value} {base : Heap}
def lit (s : String) : List Nat := s.toList.map Char.toNat
theorem lit_eq (s : String) : (s : Str) = S (lit s) := TL.ext_tl (TL.tl_ofString s)
theorem r_addR {H : Hp} {Q : VK} {a b : List Nat} (ha : a.length ≤ 1000000) (hb : b.length ≤ 1000000) (q : Q (.str (S (a ++ b))) H) : rAddX (.str (S a)) (.str (S b)) H Q :=
  r_addS (by rw [S_len, S_len]; exact Nat.le_trans (Nat.add_le_add ha hb) (by decide)) (by rw [S_cat]; exact q)
theorem r_addRL {H : Hp} {Q : VK} {a : List Nat} {s : String} (ha : a.length ≤ 1000000) (hb : (lit s).length ≤ 1000000) (q : Q (.str (S (a ++ lit s))) H) : rAddX (.str (S a)) (.str (Str.ofString s)) H Q := by
  rw [lit_eq]
  exact r_addR ha hb q
theorem r_addLR {H : Hp} {Q : VK} {a : List Nat} {s : String} (ha : a.length ≤ 1000000) (hb : (lit s).length ≤ 1000000) (q : Q (.str (S (lit s ++ a))) H) : rAddX (.str (Str.ofString s)) (.str (S a)) H Q := by
  rw [lit_eq]
  exact r_addR hb ha q
theorem w_repV {σ : L2.St} {H : Hp} {Q : VK} {i : Nat} {p q : List Nat} {z : String} (hσ : σ[i]? = some (some (.str (S (p ++ 58 :: q))))) (hn : 58 ∉ p) (hl : (p ++ 58 :: q).length ≤ 1000000) (h : Q (.str (S (p ++ (lit z ++ q)))) H) : tRep1 (Str.ofString ":") (Str.ofString z) (tVar i) σ H Q := by
  refine ⟨_, hσ, S (p ++ 58 :: q), rfl, by rw [S_len]; exact hl, ?_⟩
  have e : (Str.ofString ":" : Str) = S [58] := by decide +kernel
  rw [e, lit_eq z, rep1_at hn]
  exact h
def IsO (H : Hp) (v : V) : Option (List Nat) → Prop
  | some t => v = .str (S t)
  | none => NotStr H v
def spoiltL (a p q : List Nat) (rows : List (Int × Int)) : List (Option (List Nat)) :=
  let pl := textL (rows, none)
  [some (a ++ lit " "), some (lit " " ++ a), some (p ++ (lit "" ++ q)), some (p ++ (lit "::" ++ q)), some (p ++ (lit ": " ++ q)),
    some (p ++ (lit "-" ++ q)), some (lit "0" ++ a), some (lit "+" ++ a), some (pl ++ lit " gone"), some (pl ++ lit " gone "), some (pl ++ lit " gone 0x9"),
    some ((pl ++ lit " gone 0") ++ intL (lastOf rows).1), some (pl ++ lit " Gone 99"), some (pl ++ lit " gone none"), some (pl ++ lit "  gone 99"),
    some (lit ""), some (lit "gone 5"), some (lit "gone"), some (a ++ lit ";"), some (a ++ lit "\n"), none, none, none, some (lit "none"), some (pl ++ lit " gone 9 9")]
theorem lastOf_get : ∀ {rows : List (Int × Int)}, rows ≠ [] → rows[rows.length - 1]? = some (lastOf rows) := by
  intro rows h
  have e := List.dropLast_concat_getLast h
  have e2 : lastOf rows = rows.getLast h := by
    conv => lhs; rw [← e]
    rw [lastOf_snoc]
  rw [e2, ← List.getLast?_eq_getElem?, List.getLast?_eq_some_getLast h]
theorem joinL_len : ∀ (ws : List (List Nat)) {b : Nat}, (∀ x ∈ ws, x.length ≤ b) → (TL.joinL [32] ws).length ≤ ws.length * (b + 1)
  | [], _, _ => Nat.zero_le _
  | [x], b, h => by
    have := h x List.mem_cons_self
    show x.length ≤ _
    rw [List.length_singleton]
    omega
  | x :: y :: r, b, h => by
    have h1 := h x List.mem_cons_self
    have h2 := joinL_len (y :: r) fun z hz => h z (List.mem_cons_of_mem _ hz)
    have e : (x :: y :: r).length * (b + 1) = (y :: r).length * (b + 1) + (b + 1) := by rw [List.length_cons, Nat.add_mul, Nat.one_mul]
    show (x ++ ([32] ++ TL.joinL [32] (y :: r))).length ≤ _
    rw [e, List.length_append, List.length_append, List.length_singleton]
    omega
theorem textL_len {r : RuleV} (h : fitsR r) : (textL r).length ≤ 500000 := by
  have q := joinL_len (wordsL r) (wordsL_len h)
  have h1 : (wordsL r).length ≤ 102 := by
    unfold wordsL
    rw [List.length_append, List.length_map]
    have := h.1
    have h4 : (goneW r.2).length ≤ 2 := by
      cases r.2 with
      | none => exact Nat.zero_le _
      | some _ => exact Nat.le_refl 2
    omega
  have h2 : (wordsL r).length * (1003 + 1) ≤ 102 * 1004 := Nat.mul_le_mul_right _ h1
  unfold textL
  omega
theorem ltS {n : Nat} (h : Nat.ble (n + 1) 1000 = true := by rfl) : n < sizeLine := Nat.lt_of_lt_of_le (show n < 1000 from Nat.le_of_ble_eq_true h) (by decide)
theorem leS {n : Nat} (h : Nat.ble n 1000 = true := by rfl) : n ≤ sizeLine := Nat.le_trans (show n ≤ 1000 from Nat.le_of_ble_eq_true h) (by decide)
def sp_spoilt : Sp := fun vs H Q _ => ∃ (p q : List Nat) (v : V) (rows : List (Int × Int)) (cell : Int), vs = [.str (S (p ++ 58 :: q)), v, .int cell] ∧ 58 ∉ p ∧ (p ++ 58 :: q).length ≤ 200000 ∧ rp H v rows ∧ fitsR (rows, none) ∧ rows ≠ [] ∧
  ∀ v' H', Ex H H' → IsO H' v' ((spoiltL (p ++ 58 :: q) p q rows).getD (cell % 25).toNat none) → Q v' H'
theorem atI_pos {α : Type} {xs : List α} {c : Int} (h0 : 0 ≤ c) (h1 : c < xs.length) : atI xs c = xs[c.toNat]? := by
  unfold atI ixN
  rw [if_pos h0, if_pos h1]
  rfl
theorem r_fin {p : Addr} {xs : List V} {l : List (Option (List Nat))} {c : Int} {H : Hp} {Q : VK} (g : H p = some (.lst xs)) (h : A2 (IsO H) xs l) (h0 : 0 ≤ c) (h1 : c < l.length) (q : ∀ v, IsO H v (l.getD c.toNat none) → Q v H) : rIxL K (.ref p) (.int c) H Q := by
  have hl := h.length
  obtain ⟨o, ho⟩ : ∃ o, l[c.toNat]? = some o := ⟨_, List.getElem?_eq_getElem (by omega)⟩
  obtain ⟨v, hv, hr⟩ := h.get ho
  refine r_ixL (v := v) (sqL g) ((atI_pos h0 (by omega)).trans hv) (q v ?_)
  rw [List.getD_eq_getElem?_getD, ho]
  exact hr
theorem litS (s : String) : V.str (Str.ofString s) = V.str (S (lit s)) := by rw [lit_eq]
abbrev N__law_spoilt : List Str := ["_law_text_here", "_law_rows", "_law_cell", "_law_plain", "_law_some"]
theorem sc__law_spoilt : FnScope N__law_spoilt ["_law_text_here", "_law_rows", "_law_cell"] (defScope s__law_spoilt) := ⟨rfl, rfl, rfl, by decide +kernel, rfl, by decide +kernel, by decide +kernel⟩
theorem ok__law_spoilt (T : Top K mg) : FnY P w K mg base 2 (gA K "_law_spoilt") (fdOf K ("_law_spoilt", none)) ["_law_text_here", "_law_rows", "_law_cell"] sp_spoilt := by
  have sc := sc__law_spoilt
  refine okY (t_d__law_spoilt T) sc (fun vs H Q E h => by repeat (first | (obtain ⟨rfl, _⟩ := h; rfl) | obtain ⟨_, h⟩ := h)) (fun cdv A outer s H vs Q E B h => ⟨_, (pss_cons (ps_set (i := 3) sc.nd rfl (.inl rfl) (pe_callY (ok__law_text T) (B.room.mono (by decide)) rfl (t_g__law_text T) (t_d__law_text T).kp (t_b__law_text T) .nil B.tk (pa_cons (pv 1) (pa_cons pe_non pa_nil))))
      (pss_setU (i := 4) sc.nd rfl (.inl rfl) (peU_lst (peU_add (pv 0)) (pat_cons (pet_of (pe_op op_addX pe_str (pv 0))) (pat_cons (pet_replace1 (pv 0) (by decide +kernel) (by decide +kernel) (by decide +kernel)) (pat_cons (pet_replace1 (pv 0) (by decide +kernel) (by decide +kernel) (by decide +kernel)) pat_nil))))
      (psst_cons (pst_expr (pet_bm PySem.F.plainAttrs_list PySem.F.slot_list_append PySem.F.type_list_append mt_append (pv 4) (pat_cons (pet_replace1 (pv 0) (by decide +kernel) (by decide +kernel) (by decide +kernel)) pat_nil)))
      (psst_cons (pst_set (i := 4) sc.nd rfl (.inl rfl) (pet_op op_cat (pv 4) (pet_lst (pat_cons (pet_replace1 (pv 0) (by decide +kernel) (by decide +kernel) (by decide +kernel)) (pat_cons (pet_of (pe_op op_addX pe_str (pv 0))) (pat_cons (pet_of (pe_op op_addX pe_str (pv 0))) (pat_cons (pet_of (pe_op op_addX (pv 3) pe_str)) (pat_cons (pet_of (pe_op op_addX (pv 3) pe_str)) pat_nil))))))))
      (PSsT.of (pss_cons (ps_expr (pe_bm PySem.F.plainAttrs_list PySem.F.slot_list_append PySem.F.type_list_append mt_append (pv 4) (pa_cons (pe_op op_addX (pv 3) pe_str) pa_nil)))
      (pss_cons (ps_set (i := 4) sc.nd rfl (.inl rfl) (pe_op op_cat (pv 4) (pe_lst (pa_cons (pe_op op_addX (pe_op op_addX (pv 3) pe_str) (pe_callTy call_strI (by rfl) (t_b_str T) (by decide +kernel) (pa_cons (pe_ix ix_tup (pe_ix ix_list (pv 1) (pe_un un_neg pe_int) (fun _ _ => rfl)) pe_int (fun _ _ => rfl)) pa_nil))) (pa_cons (pe_op op_addX (pv 3) pe_str) (pa_cons (pe_op op_addX (pv 3) pe_str) (pa_cons (pe_op op_addX (pv 3) pe_str) pa_nil)))))))
      (pss_cons (ps_set (i := 4) sc.nd rfl (.inl rfl) (pe_op op_cat (pv 4) (pe_lst (pa_cons pe_str (pa_cons pe_str (pa_cons pe_str (pa_cons (pe_op op_addX (pv 0) pe_str) (pa_cons (pe_op op_addX (pv 0) pe_str) (pa_cons pe_non (pa_cons pe_int (pa_cons (pe_callTy call_lstOf (by rfl) (t_b_list T) (by decide +kernel) (pa_cons (pv 1) pa_nil)) (pa_cons pe_str (pa_cons (pe_op op_addX (pv 3) pe_str) pa_nil)))))))))))))
      (pss_one (ps_ret (pe_ix ix_list (pv 4) (pe_op op_mod (pv 2) pe_int) (fun _ _ => rfl)))))))))))), ?_⟩)
  obtain ⟨p, q, v, rows, cell, rfl, hn, hl, hrows, hfit, hne, hQ⟩ := h
  have hA : (p ++ 58 :: q).length ≤ 1000000 := Nat.le_trans hl (by decide)
  obtain ⟨ra, rx, rfl, hra, hrx⟩ := hrows
  repeat walk_at "s"
  refine ⟨_, _, (rows, none), rfl, rp_list hra hrx, rfl, hfit, fun H1 e1 => ?_⟩
  have hP : (textL (rows, none)).length ≤ 500000 := textL_len hfit
  have hP1 : (textL (rows, none)).length ≤ 1000000 := Nat.le_trans hP (by decide)
  repeat (first | walk_at "s" | refine r_addRL hA (by decide) ?_ | refine r_addLR hA (by decide) ?_ | refine w_repV rfl hn hA ?_)
  refine nL le5 fun p1 H2 e2 np1 _ hp1 => ?_
  repeat walk_at "s"
  refine ⟨.inl ⟨rfl, _, sqL hp1⟩, ?_⟩
  repeat (first | walk_at "s" | refine r_addRL hA (by decide) ?_ | refine r_addLR hA (by decide) ?_ | refine w_repV rfl hn hA ?_)
  refine r_appA hp1 ltS fun H3 g3 m3 t3 _ => ?_
  have e3 := m3 H (e1.trans e2) (ex_none e1 np1)
  repeat (first | walk_at "s" | refine r_addRL hA (by decide) ?_ | refine r_addLR hA (by decide) ?_ | refine r_addRL hP1 (by decide) ?_ | refine w_repV rfl hn hA ?_)
  refine nL le5 fun p2 H4 e4 np2 _ hp2 => ?_
  repeat walk_at "s"
  refine r_catA (e4 _ _ g3) hp2 leS fun p3 H5 e5 np3 g5 => ?_
  repeat walk_at "s"
  refine ⟨.inl ⟨rfl, _, sqL g5⟩, ?_⟩
  repeat (first | walk_at "s" | refine r_addRL hA (by decide) ?_ | refine r_addLR hA (by decide) ?_ | refine r_addRL hP1 (by decide) ?_ | refine w_repV rfl hn hA ?_)
  refine r_appA g5 ltS fun H6 g6 m6 t6 _ => ?_
  have e6 := m6 H ((e3.trans e4).trans e5) (ex_none (e3.trans e4) np3)
  repeat (first | walk_at "s" | refine r_addRL hA (by decide) ?_ | refine r_addLR hA (by decide) ?_ | refine r_addRL hP1 (by decide) ?_ | refine w_repV rfl hn hA ?_)
  have hlx : rx.length = rows.length := hrx.length
  obtain ⟨x, hx, rx0⟩ := hrx.get (lastOf_get hne)
  refine r_ixL (v := x) (sqL (e6 _ _ hra)) ?_ ?_
  · refine (atI_neg (k := 1) (by decide) ?_).trans (by rw [hlx]; exact hx)
    rw [hlx]
    exact Nat.pos_of_ne_zero fun z => hne (List.length_eq_zero_iff.mp z)
  repeat walk_at "s"
  obtain ⟨t, u, v, rfl, ht, hu, hv⟩ := rx0
  have fz := (hfit.2.1 (lastOf rows) (List.mem_of_getElem? (lastOf_get hne))).1
  refine r_ixT (v := .int (lastOf rows).1) (sqT (e6 _ _ ht)) (by rw [hu]; rfl) ?_
  repeat walk_at "s"
  refine r_strI fz.lg ?_
  rw [int_str]
  have hP2 : (textL (rows, none) ++ lit " gone 0").length ≤ 1000000 := by
    rw [List.length_append]
    exact Nat.le_trans (Nat.add_le_add hP (show (lit " gone 0").length ≤ 500000 by decide)) (by decide)
  refine r_addR hP2 (Nat.le_trans fz.len (by decide)) ?_
  repeat (first | walk_at "s" | refine r_addRL hA (by decide) ?_ | refine r_addLR hA (by decide) ?_ | refine r_addRL hP1 (by decide) ?_ | refine w_repV rfl hn hA ?_)
  refine nL le5 fun p4 H7 e7 np4 _ hp4 => ?_
  repeat walk_at "s"
  refine r_catA (e7 _ _ g6) hp4 leS fun p5 H8 e8 np5 g8 => ?_
  repeat (first | walk_at "s" | refine r_addRL hA (by decide) ?_ | refine r_addLR hA (by decide) ?_ | refine r_addRL hP1 (by decide) ?_ | refine w_repV rfl hn hA ?_)
  have e68 := (e6.trans e7).trans e8
  refine r_lstA (sqL (e68 _ _ hra)) fun p6 H9 e9 np6 g9 => ?_
  repeat (first | walk_at "s" | refine r_addRL hA (by decide) ?_ | refine r_addLR hA (by decide) ?_ | refine r_addRL hP1 (by decide) ?_ | refine w_repV rfl hn hA ?_)
  refine nL le5 fun p7 HA eA np7 _ hp7 => ?_
  repeat walk_at "s"
  refine r_catA (eA _ _ (e9 _ _ g8)) hp7 leS fun p8 HB eB np8 g10 => ?_
  repeat walk_at "s"
  have hc : 0 ≤ cell % 25 ∧ cell % 25 < 25 := by omega
  have hlst : NotStr HB (.ref p6) := .inr (.inr ⟨p6, rx, rfl, eB _ _ (eA _ _ g9)⟩)
  refine r_fin (l := spoiltL (p ++ 58 :: q) p q rows) g10 ?_ hc.1 hc.2 fun v hv => hQ v HB (((e68.trans e9).trans eA).trans eB) hv
  exact .cons rfl (.cons rfl (.cons rfl (.cons rfl (.cons rfl (.cons rfl (.cons rfl (.cons rfl (.cons rfl (.cons rfl (.cons rfl (.cons rfl (.cons rfl (.cons rfl (.cons rfl (.cons (litS _) (.cons (litS _) (.cons (litS _) (.cons rfl (.cons rfl (.cons (.inl rfl) (.cons (.inr (.inl ⟨7, rfl⟩)) (.cons hlst (.cons (litS _) (.cons rfl .nil))))))))))))))))))))))))
end
end T
namespace T
open PySem PySem.Spec PyProof.Rows L2 Y SX
section
variable {P : Program} {w : World} {K : PySem.W.Frag} {mg : Str → Option Value} {base : Heap}
def fit1 (i : Int) : Prop := i.natAbs < 10 ^ 62
theorem fit1.fits {i : Int} (h : fit1 i) : fits i := Nat.lt_trans h (by decide +kernel)
def FR (l : List (Int × Int)) : Prop := ∀ s ∈ l, fit1 s.1 ∧ fit1 s.2
theorem FR.append {l m : List (Int × Int)} (h : FR l) (k : FR m) : FR (l ++ m) := fun s hs => (List.mem_append.mp hs).elim (h s) (k s)
theorem FR.cons {l : List (Int × Int)} {s : Int × Int} (h1 : fit1 s.1) (h2 : fit1 s.2) (k : FR l) : FR (s :: l) := fun z hz => (List.mem_cons.mp hz).elim (fun e => by rw [e]; exact ⟨h1, h2⟩) (k z)
theorem FR.nil : FR [] := fun _ h => by cases h
theorem FR.take {l : List (Int × Int)} (h : FR l) (k : Nat) : FR (l.take k) := fun s hs => h s (List.mem_of_mem_take hs)
theorem FR.set {l : List (Int × Int)} {s : Int × Int} {k : Nat} (h : FR l) (h1 : fit1 s.1) (h2 : fit1 s.2) : FR (l.set k s) := fun z hz => (List.mem_or_eq_of_mem_set hz).elim (h z) (fun e => by rw [e]; exact ⟨h1, h2⟩)
theorem FR.rep {s : Int × Int} {k : Nat} (h1 : fit1 s.1) (h2 : fit1 s.2) : FR (List.replicate k s) := fun z hz => by rw [List.eq_of_mem_replicate hz]; exact ⟨h1, h2⟩
theorem FR.fits {l : List (Int × Int)} {g : Option Int} (h : FR l) (hl : l.length ≤ 100) (hg : ∀ z, g = some z → fit1 z) : fitsR (l, g) := ⟨hl, fun s hs => ⟨(h s hs).1.fits, (h s hs).2.fits⟩, fun z e => (hg z e).fits⟩
def fit0 (i : Int) : Prop := i.natAbs < 10 ^ 60
theorem fit0.one {i : Int} (h : fit0 i) : fit1 i := Nat.lt_trans h (by decide +kernel)
/-- a rule of the law: its numbers are small -/
structure RB (r : RuleV) : Prop where
  l1 : 1 ≤ r.1.length
  l5 : r.1.length ≤ 5
  row : ∀ s ∈ r.1, fit0 s.1 ∧ fit0 s.2
  end_ : ∀ g, r.2 = some g → fit0 g
theorem RB.fr {r : RuleV} (h : RB r) : FR r.1 := fun s hs => ⟨(h.row s hs).1.one, (h.row s hs).2.one⟩
def atOf (r : RuleV) (c : Int) : Nat := (c / 7 % (r.1.length : Int)).toNat
def noRuleS (r : RuleV) (c : Int) (i : Nat) (s : Int × Int) : RuleV :=
  if c % 7 = 0 then (r.1.take i ++ [(s.1, s.2), (s.1 + 1, s.2), (s.1, s.2)], none)
  else if c % 7 = 1 then (r.1.take i ++ [(s.1, s.2 * 2), (s.1, s.2 * 3)], none)
  else if c % 7 = 2 then (r.1.set i (s.1, 0 - c / 35 % 9), r.2)
  else if c % 7 = 3 then (r.1, some ((lastOf r.1).1 - 1 - c / 35 % 10 ^ 30))
  else if c % 7 = 4 then (r.1 ++ List.replicate (6 - r.1.length) (lastOf r.1), none)
  else if c % 7 = 5 then (r.1.set 0 (-1 - c / 35 % 10 ^ 30, (r.1.getD 0 (0, 0)).2), r.2)
  else ((s.1 + 1, s.2) :: r.1.take (i + 1), r.2)
def noRule (r : RuleV) (c : Int) : RuleV := noRuleS r c (atOf r c) (r.1.getD (atOf r c) (0, 0))
theorem cut_nat {xs : List V} {k : Nat} (h : k ≤ xs.length) : cutV xs none (some (k : Int)) = xs.take k := by
  have e1 : HT.sIx xs.length 0 none = 0 := rfl
  unfold cutV
  rw [e1, HT.sIx_nat, Nat.min_eq_left h, List.drop_zero, Nat.sub_zero]
theorem tupR {H : Hp} {t : Addr} {a b : Int} (h : H t = some (.tup [.int a, .int b])) : rp H (.ref t) (a, b) := ⟨t, _, _, rfl, h, rfl, rfl⟩
theorem ixN_pos {n : Nat} {k : Nat} (h : k < n) : ixN n (k : Int) = some k := by
  unfold ixN
  rw [if_pos (by omega), if_pos (by omega), Int.toNat_natCast]
def sp_no_rule : Sp := fun vs H Q _ => ∃ (v g : V) (r : RuleV) (c : Int), vs = [v, g, .int c] ∧ rp H v r.1 ∧ rp H g r.2 ∧ RB r ∧ ∀ H', Ex H H' → Q (.str (S (textL (noRule r c)))) H'
abbrev N__law_no_rule : List Str := ["_law_rows", "_law_end", "_law_cell", "_law_found", "_law_at", "_law_age", "_law_width"]
theorem sc__law_no_rule : FnScope N__law_no_rule ["_law_rows", "_law_end", "_law_cell"] (defScope s__law_no_rule) := ⟨rfl, rfl, rfl, by decide +kernel, rfl, by decide +kernel, by decide +kernel⟩
theorem ok__law_no_rule (T : Top K mg) : FnY P w K mg base 2 (gA K "_law_no_rule") (fdOf K ("_law_no_rule", none)) ["_law_rows", "_law_end", "_law_cell"] sp_no_rule := by
  have sc := sc__law_no_rule
  refine okY (t_d__law_no_rule T) sc (fun vs H Q E h => by repeat (first | (obtain ⟨rfl, _⟩ := h; rfl) | obtain ⟨_, h⟩ := h)) (fun cdv A outer s H vs Q E B h => ⟨_, (pss_cons (ps_set (i := 3) sc.nd rfl (.inl rfl) (pe_callTy call_lstOf (by rfl) (t_b_list T) (by decide +kernel) (pa_cons (pv 0) pa_nil)))
      (pss_cons (ps_set (i := 4) sc.nd rfl (.inl rfl) (pe_op op_mod (pe_op op_fdiv (pv 2) pe_int) (pe_callB call_lenQ (by rfl) (t_b_len T) (by decide +kernel) (pa_cons (pv 3) pa_nil))))
      (pss_cons (ps_asg (pe_ix ix_list (pv 3) (pv 4) (fun _ _ => rfl)) (pg_tup (n := 2) rfl (pgs_cons (pg_name (i := 5) sc.nd rfl (.inl rfl)) (pgs_cons (pg_name (i := 6) sc.nd rfl (.inl rfl)) pgs_nil))))
      (pss_cons (ps_if (pt_cmpR op_eq (pe_op op_mod (pv 2) pe_int) pe_int (nomark _))
        (pss_one (ps_ret (pe_callY (ok__law_text T) (B.room.mono (by decide)) rfl (t_g__law_text T) (t_d__law_text T).kp (t_b__law_text T) .nil B.tk (pa_cons (pe_op op_cat (pe_slice sl_list (pv 3) po_none (po_some (pv 4))) (pe_lst (pa_cons (pe_tup (pa_cons (pv 5) (pa_cons (pv 6) pa_nil))) (pa_cons (pe_tup (pa_cons (pe_op op_add (pv 5) pe_int) (pa_cons (pv 6) pa_nil))) (pa_cons (pe_tup (pa_cons (pv 5) (pa_cons (pv 6) pa_nil))) pa_nil))))) (pa_cons pe_non pa_nil)))))
        pss_nil)
      (pss_cons (ps_if (pt_cmpR op_eq (pe_op op_mod (pv 2) pe_int) pe_int (nomark _))
        (pss_one (ps_ret (pe_callY (ok__law_text T) (B.room.mono (by decide)) rfl (t_g__law_text T) (t_d__law_text T).kp (t_b__law_text T) .nil B.tk (pa_cons (pe_op op_cat (pe_slice sl_list (pv 3) po_none (po_some (pv 4))) (pe_lst (pa_cons (pe_tup (pa_cons (pv 5) (pa_cons (pe_op op_mul (pv 6) pe_int) pa_nil))) (pa_cons (pe_tup (pa_cons (pv 5) (pa_cons (pe_op op_mul (pv 6) pe_int) pa_nil))) pa_nil)))) (pa_cons pe_non pa_nil)))))
        pss_nil)
      (pss_cons (ps_if (pt_cmpR op_eq (pe_op op_mod (pv 2) pe_int) pe_int (nomark _))
        (pss_cons (ps_asg (pe_tup (pa_cons (pv 5) (pa_cons (pe_op op_sub pe_int (pe_op op_mod (pe_op op_fdiv (pv 2) pe_int) pe_int)) pa_nil))) (pg_sub (pv 3) (pv 4) set_list))
        (pss_one (ps_ret (pe_callY (ok__law_text T) (B.room.mono (by decide)) rfl (t_g__law_text T) (t_d__law_text T).kp (t_b__law_text T) .nil B.tk (pa_cons (pv 3) (pa_cons (pv 1) pa_nil))))))
        pss_nil)
      (pss_cons (ps_if (pt_cmpR op_eq (pe_op op_mod (pv 2) pe_int) pe_int (nomark _))
        (pss_one (ps_ret (pe_callY (ok__law_text T) (B.room.mono (by decide)) rfl (t_g__law_text T) (t_d__law_text T).kp (t_b__law_text T) .nil B.tk (pa_cons (pv 3) (pa_cons (pe_op op_sub (pe_op op_sub (pe_ix ix_tup (pe_ix ix_list (pv 3) (pe_un un_neg pe_int) (fun _ _ => rfl)) pe_int (fun _ _ => rfl)) pe_int) (pe_op op_mod (pe_op op_fdiv (pv 2) pe_int) (pe_op op_pow pe_int pe_int))) pa_nil)))))
        pss_nil)
      (pss_cons (ps_if (pt_cmpR op_eq (pe_op op_mod (pv 2) pe_int) pe_int (nomark _))
        (pss_one (ps_ret (pe_callY (ok__law_text T) (B.room.mono (by decide)) rfl (t_g__law_text T) (t_d__law_text T).kp (t_b__law_text T) .nil B.tk (pa_cons (pe_op op_cat (pv 3) (pe_op op_rep (pe_lst (pa_cons (pe_ix ix_list (pv 3) (pe_un un_neg pe_int) (fun _ _ => rfl)) pa_nil)) (pe_op op_sub pe_int (pe_callB call_lenQ (by rfl) (t_b_len T) (by decide +kernel) (pa_cons (pv 3) pa_nil))))) (pa_cons pe_non pa_nil)))))
        pss_nil)
      (pss_cons (ps_if (pt_cmpR op_eq (pe_op op_mod (pv 2) pe_int) pe_int (nomark _))
        (pss_cons (ps_asg (pe_tup (pa_cons (pe_op op_sub (pe_un un_neg pe_int) (pe_op op_mod (pe_op op_fdiv (pv 2) pe_int) (pe_op op_pow pe_int pe_int))) (pa_cons (pe_ix ix_tup (pe_ix ix_list (pv 3) pe_int (fun _ _ => rfl)) pe_int (fun _ _ => rfl)) pa_nil))) (pg_sub (pv 3) pe_int set_list))
        (pss_one (ps_ret (pe_callY (ok__law_text T) (B.room.mono (by decide)) rfl (t_g__law_text T) (t_d__law_text T).kp (t_b__law_text T) .nil B.tk (pa_cons (pv 3) (pa_cons (pv 1) pa_nil))))))
        pss_nil)
      (pss_one (ps_ret (pe_callY (ok__law_text T) (B.room.mono (by decide)) rfl (t_g__law_text T) (t_d__law_text T).kp (t_b__law_text T) .nil B.tk (pa_cons (pe_op op_cat (pe_lst (pa_cons (pe_tup (pa_cons (pe_op op_add (pv 5) pe_int) (pa_cons (pv 6) pa_nil))) pa_nil)) (pe_slice sl_list (pv 3) po_none (po_some (pe_op op_add (pv 4) pe_int)))) (pa_cons (pv 1) pa_nil)))))))))))))), ?_⟩)
  obtain ⟨v, g, r, c, rfl, hv, hg, hb, hQ⟩ := h
  obtain ⟨p, xs, rfl, hp, hxs⟩ := hv
  have hfr := hb.fr
  repeat walk_at "s"
  refine r_lstA (sqL hp) fun q H1 e1 nq hq => ?_
  have hys := hxs.ex e1
  have hlx : xs.length = r.1.length := hxs.length
  have l1 := hb.l1
  have l5 := hb.l5
  repeat walk_at "s"
  refine r_lenL (sqL hq) ?_
  rw [hlx]
  repeat walk_at "s"
  have hat : c / 7 % (r.1.length : Int) = (atOf r c : Int) := by
    unfold atOf
    have := Int.emod_nonneg (c / 7) (show (r.1.length : Int) ≠ 0 by omega)
    omega
  have hat2 : atOf r c < r.1.length := by
    have := Int.emod_lt_of_pos (c / 7) (show (0 : Int) < (r.1.length : Int) by omega)
    omega
  rw [hat]
  obtain ⟨s, hs⟩ : ∃ s, r.1[atOf r c]? = some s := ⟨_, List.getElem?_eq_getElem hat2⟩
  have hsD : r.1.getD (atOf r c) (0, 0) = s := by rw [List.getD_eq_getElem?_getD, hs]; rfl
  obtain ⟨x, hx, rx⟩ := hys.get hs
  refine r_ixL (v := x) (sqL hq) ((atI_pos (by omega) (by omega)).trans (by rw [Int.toNat_natCast]; exact hx)) ?_
  obtain ⟨t, u, v, rfl, ht, hu, hv⟩ := rx
  obtain ⟨s1, s2⟩ := s
  obtain rfl : u = .int s1 := hu
  obtain rfl : v = .int s2 := hv
  have hms : (s1, s2) ∈ r.1 := List.mem_of_getElem? hs
  obtain ⟨f1, f2⟩ : fit0 s1 ∧ fit0 s2 := hb.row _ hms
  obtain ⟨m1, m2⟩ : fit0 (lastOf r.1).1 ∧ fit0 (lastOf r.1).2 := hb.row _ (List.mem_of_getElem? (lastOf_get (rows := r.1) fun z => by rw [z] at l1; exact absurd l1 (by decide)))
  unfold fit0 at f1 f2 m1 m2
  refine w_gtup (sqT ht) rfl ?_
  repeat walk_at "s"
  have hr : noRule r c = noRuleS r c (atOf r c) (s1, s2) := by unfold noRule; rw [hsD]
  unfold noRuleS at hr
  have g1 : ∀ z, r.2 = some z → fit1 z := fun z e => (hb.end_ z e).one
  have tk : ((xs.take (atOf r c)).length ≤ 5) := by rw [List.length_take]; omega
  have w1 : fit1 s1 := by unfold fit1; omega
  have w2 : fit1 s2 := by unfold fit1; omega
  have w3 : fit1 (s1 + 1) := by unfold fit1; omega
  have w4 : fit1 (s2 * 2) := by unfold fit1; omega
  have w5 : fit1 (s2 * 3) := by unfold fit1; omega
  have w6 : fit1 (lastOf r.1).1 := by unfold fit1; omega
  have w7 : fit1 (lastOf r.1).2 := by unfold fit1; omega
  have tkl : ∀ (k : Nat) (m : List (Int × Int)), m.length ≤ 50 → (r.1.take k ++ m).length ≤ 100 := fun k m hm => by
    rw [List.length_append, List.length_take]
    omega
  have eL : ∀ {i : Nat} {s : Int × Int}, r.1[i]? = some s → ∃ t, xs[i]? = some (.ref t) ∧ H1 t = some (.tup [.int s.1, .int s.2]) := fun h => by
    obtain ⟨y, hy, t, u, v, rfl, ht, hu, hv⟩ := hys.get h
    obtain rfl : u = _ := hu
    obtain rfl : v = _ := hv
    exact ⟨t, hy, ht⟩
  obtain ⟨tl, hl1, hl2⟩ := eL (lastOf_get (rows := r.1) fun z => by rw [z] at l1; exact absurd l1 (by decide))
  have hlast : atI xs (-1) = some (.ref tl) := (atI_neg (xs := xs) (k := 1) (by decide) (by omega)).trans (by rw [hlx]; exact hl1)
  refine ite2 (fun c0 => ?_) (fun c0 => ?_)
  · rw [if_pos (of_decide_eq_true c0)] at hr
    repeat walk_at "s"
    refine r_slA (sqL hq) fun q2 H2 e2 nq2 hq2 => ?_
    rw [cut_nat (by omega)] at hq2
    repeat walk_at "s"
    refine nT le5 fun t1 H3 e3 nt1 _ ht1 => ?_
    repeat walk_at "s"
    refine nT le5 fun t2 H4 e4 nt2 _ ht2 => ?_
    repeat walk_at "s"
    refine nT le5 fun t3 H5 e5 nt3 _ ht3 => ?_
    repeat walk_at "s"
    refine nL le5 fun q3 H6 e6 nq3 _ hq3 => ?_
    repeat walk_at "s"
    refine r_catA (e6 _ _ (e5 _ _ (e4 _ _ (e3 _ _ hq2)))) hq3 (Nat.le_trans (Nat.add_le_add tk (Nat.le_refl 3)) (by decide)) fun q4 H7 e7 nq4 hq4 => ?_
    repeat walk_at "s"
    have e27 := ((((e2.trans e3).trans e4).trans e5).trans e6).trans e7
    refine ⟨_, _, noRule r c, rfl, by rw [hr]; exact rp_list hq4 (((hys.ex e27).take (atOf r c)).append (.cons (tupR (e7 _ _ (e6 _ _ (e5 _ _ (e4 _ _ ht1))))) (.cons (tupR (e7 _ _ (e6 _ _ (e5 _ _ ht2)))) (.cons (tupR (e7 _ _ (e6 _ _ ht3))) .nil)))), by rw [hr]; rfl, by rw [hr]; exact FR.fits ((hfr.take _).append (.cons w1 w2 (.cons w3 w2 (.cons w1 w2 .nil)))) (tkl _ _ (Nat.le_of_ble_eq_true rfl)) (fun z e => by cases e), fun H8 e8 => hQ H8 ((e1.trans e27).trans e8)⟩
  rw [if_neg (fun z => c0 (decide_eq_true z))] at hr
  repeat walk_at "s"
  refine ite2 (fun c0 => ?_) (fun c0 => ?_)
  · rw [if_pos (of_decide_eq_true c0)] at hr
    repeat walk_at "s"
    refine r_slA (sqL hq) fun q2 H2 e2 nq2 hq2 => ?_
    rw [cut_nat (by omega)] at hq2
    repeat walk_at "s"
    refine nT le5 fun t1 H3 e3 nt1 _ ht1 => ?_
    repeat walk_at "s"
    refine nT le5 fun t2 H4 e4 nt2 _ ht2 => ?_
    repeat walk_at "s"
    refine nL le5 fun q3 H6 e6 nq3 _ hq3 => ?_
    repeat walk_at "s"
    refine r_catA (e6 _ _ (e4 _ _ (e3 _ _ hq2))) hq3 (Nat.le_trans (Nat.add_le_add tk (Nat.le_refl 2)) (by decide)) fun q4 H7 e7 nq4 hq4 => ?_
    repeat walk_at "s"
    have e27 := (((e2.trans e3).trans e4).trans e6).trans e7
    refine ⟨_, _, noRule r c, rfl, by rw [hr]; exact rp_list hq4 (((hys.ex e27).take (atOf r c)).append (.cons (tupR (e7 _ _ (e6 _ _ (e4 _ _ ht1)))) (.cons (tupR (e7 _ _ (e6 _ _ ht2))) .nil))), by rw [hr]; rfl, by rw [hr]; exact FR.fits ((hfr.take _).append (.cons w1 w4 (.cons w1 w5 .nil))) (tkl _ _ (Nat.le_of_ble_eq_true rfl)) (fun z e => by cases e), fun H8 e8 => hQ H8 ((e1.trans e27).trans e8)⟩
  rw [if_neg (fun z => c0 (decide_eq_true z))] at hr
  repeat walk_at "s"
  refine ite2 (fun c0 => ?_) (fun c0 => ?_)
  · rw [if_pos (of_decide_eq_true c0)] at hr
    repeat walk_at "s"
    refine nT le5 fun t1 H3 e3 nt1 _ ht1 => ?_
    repeat walk_at "s"
    refine r_setL (e3 _ _ hq) (by rw [hlx]; exact ixN_pos hat2) ?_
    repeat walk_at "s"
    have ex1 : ExT H3 (upd H3 q (.lst (xs.set (atOf r c) (.ref t1)))) := ExT.lst (e3 _ _ hq)
    have ex2 : Ex H (upd H3 q (.lst (xs.set (atOf r c) (.ref t1)))) := Ex.mut (e1.trans e3) nq
    refine ⟨_, _, noRule r c, rfl, by rw [hr]; exact rp_list upd_same (((hys.ex e3).fz ex1).set (tupR (ex1 _ _ ht1))), by rw [hr]; exact Fz.fz (ex2.t) hg, by rw [hr]; exact FR.fits (hfr.set w1 (by unfold fit1; omega)) (by rw [List.length_set]; omega) g1, fun H8 e8 => hQ H8 (ex2.trans e8)⟩
  rw [if_neg (fun z => c0 (decide_eq_true z))] at hr
  repeat walk_at "s"
  refine ite2 (fun c0 => ?_) (fun c0 => ?_)
  · rw [if_pos (of_decide_eq_true c0)] at hr
    repeat walk_at "s"
    refine r_ixL (v := .ref tl) (sqL hq) hlast ?_
    repeat walk_at "s"
    refine r_ixT (v := .int (lastOf r.1).1) (sqT hl2) rfl ?_
    repeat walk_at "s"
    refine ⟨_, _, noRule r c, rfl, by rw [hr]; exact rp_list hq hys, by rw [hr]; rfl, by rw [hr]; exact FR.fits hfr (by omega) (fun z e => by cases e; unfold fit1; omega), fun H8 e8 => hQ H8 (e1.trans e8)⟩
  rw [if_neg (fun z => c0 (decide_eq_true z))] at hr
  repeat walk_at "s"
  refine ite2 (fun c0 => ?_) (fun c0 => ?_)
  · rw [if_pos (of_decide_eq_true c0)] at hr
    repeat walk_at "s"
    refine r_ixL (v := .ref tl) (sqL hq) hlast ?_
    repeat walk_at "s"
    refine nL le5 fun q2 H2 e2 nq2 _ hq2 => ?_
    repeat walk_at "s"
    refine r_lenL (sqL (e2 _ _ hq)) ?_
    rw [hlx]
    repeat walk_at "s"
    have hk : ((6 : Int) - (r.1.length : Int)).toNat = 6 - r.1.length := by omega
    refine ⟨q2, _, _, rfl, rfl, hq2, by omega, by omega, by rw [hk]; exact Nat.le_trans (show 1 * (6 - r.1.length) ≤ 6 by omega) (by decide), fun q3 nq3 => ?_⟩
    rw [hk]
    have efl : (List.replicate (6 - r.1.length) [V.ref tl]).flatten = List.replicate (6 - r.1.length) (V.ref tl) := by
      generalize 6 - r.1.length = k
      induction k with
      | zero => rfl
      | succ k ih => rw [List.replicate_succ, List.replicate_succ, List.flatten_cons, ih]; rfl
    rw [efl]
    have e3 : Ex H2 (upd H2 q3 (.lst (List.replicate (6 - r.1.length) (V.ref tl)))) := Ex.new nq3
    have hq3 : upd H2 q3 (.lst (List.replicate (6 - r.1.length) (V.ref tl))) q3 = some (.lst (List.replicate (6 - r.1.length) (V.ref tl))) := upd_same
    generalize upd H2 q3 (.lst (List.replicate (6 - r.1.length) (V.ref tl))) = H3 at e3 hq3 ⊢
    refine r_catA (e3 _ _ (e2 _ _ hq)) hq3 (by rw [hlx, List.length_replicate]; exact Nat.le_trans (show _ ≤ 10 by omega) (by decide)) fun q4 H4 e4 nq4 hq4 => ?_
    repeat walk_at "s"
    have e24 := (e2.trans e3).trans e4
    have hrep : ∀ k : Nat, A2 (rp H4) (List.replicate k (V.ref tl)) (List.replicate k (lastOf r.1)) := fun k => by
      induction k with
      | zero => exact .nil
      | succ k ih => exact .cons (tupR (e24 _ _ hl2)) ih
    refine ⟨_, _, noRule r c, rfl, by rw [hr]; exact rp_list hq4 ((hys.ex e24).append (hrep _)), by rw [hr]; rfl, by rw [hr]; exact FR.fits (hfr.append (FR.rep w6 w7)) (by rw [List.length_append, List.length_replicate]; omega) (fun z e => by cases e), fun H8 e8 => hQ H8 ((e1.trans e24).trans e8)⟩
  rw [if_neg (fun z => c0 (decide_eq_true z))] at hr
  repeat walk_at "s"
  refine ite2 (fun c0 => ?_) (fun c0 => ?_)
  · rw [if_pos (of_decide_eq_true c0)] at hr
    repeat walk_at "s"
    obtain ⟨s0, hs0⟩ : ∃ s, r.1[0]? = some s := ⟨_, List.getElem?_eq_getElem (by omega)⟩
    obtain ⟨t0, ht0, ht0'⟩ := eL hs0
    have hs0D : r.1.getD 0 (0, 0) = s0 := by rw [List.getD_eq_getElem?_getD, hs0]; rfl
    obtain ⟨_, f0⟩ := hfr s0 (List.mem_of_getElem? hs0)
    refine r_ixL (v := .ref t0) (sqL hq) ((atI_pos (by decide) (by omega)).trans ht0) ?_
    repeat walk_at "s"
    refine r_ixT (v := .int s0.2) (sqT ht0') rfl ?_
    repeat walk_at "s"
    refine nT le5 fun t1 H3 e3 nt1 _ ht1 => ?_
    repeat walk_at "s"
    refine r_setL (e3 _ _ hq) (by rw [hlx]; exact ixN_pos (k := 0) (by omega)) ?_
    repeat walk_at "s"
    have ex1 : ExT H3 (upd H3 q (.lst (xs.set 0 (.ref t1)))) := ExT.lst (e3 _ _ hq)
    have ex2 : Ex H (upd H3 q (.lst (xs.set 0 (.ref t1)))) := Ex.mut (e1.trans e3) nq
    rw [hs0D] at hr
    refine ⟨_, _, noRule r c, rfl, by rw [hr]; exact rp_list upd_same (((hys.ex e3).fz ex1).set (tupR (ex1 _ _ ht1))), by rw [hr]; exact Fz.fz (ex2.t) hg, by rw [hr]; exact FR.fits (hfr.set (by unfold fit1; omega) f0) (by rw [List.length_set]; omega) g1, fun H8 e8 => hQ H8 (ex2.trans e8)⟩
  rw [if_neg (fun z => c0 (decide_eq_true z))] at hr
  repeat walk_at "s"
  refine nT le5 fun t1 H3 e3 nt1 _ ht1 => ?_
  repeat walk_at "s"
  refine nL le5 fun q2 H4 e4 nq2 _ hq2 => ?_
  repeat walk_at "s"
  refine r_slA (sqL (e4 _ _ (e3 _ _ hq))) fun q3 H5 e5 nq3 hq3 => ?_
  rw [show ((atOf r c : Int) + 1) = ((atOf r c + 1 : Nat) : Int) by omega, cut_nat (by omega)] at hq3
  repeat walk_at "s"
  refine r_catA (e5 _ _ hq2) hq3 (Nat.le_trans (show _ ≤ 10 by rw [List.length_take]; show 1 + _ ≤ 10; omega) (by decide)) fun q4 H6 e6 nq4 hq4 => ?_
  repeat walk_at "s"
  have e36 := ((e3.trans e4).trans e5).trans e6
  refine ⟨_, _, noRule r c, rfl, by rw [hr]; exact rp_list hq4 (.cons (tupR (e6 _ _ (e5 _ _ (e4 _ _ ht1)))) ((hys.ex e36).take _)), by rw [hr]; exact Rp.mono (e1.trans e36) hg, by rw [hr]; exact FR.fits (.cons w3 w2 (hfr.take _)) (by rw [List.length_cons, List.length_take]; omega) g1, fun H8 e8 => hQ H8 ((e1.trans e36).trans e8)⟩
end
end T
namespace T
open PySem PySem.Spec PyProof.Rows L2 Y SX
section
variable {P : Program} {w : World} {K : PySem.W.Frag} {mg : Str → Option Value} {base : Heap}
/-- a thing that read_rule refuses -/
def Bad (H : Hp) (v : V) : Prop := NotStr H v ∨ ∃ t : List Nat, v = .str (S t) ∧ t.length ≤ 90000 ∧ (TL.spl [32] 0 [] t).length ≤ 90000 ∧ (∀ w ∈ TL.spl [32] 0 [] t, w.length ≤ 640) ∧ readT t = none
theorem sp_rr_mono {vs : List V} {H : Hp} {Q Q' : VK} {E : XK} (h : sp_read_rule K vs H Q E) (q : ∀ v H', Q v H' → Q' v H') : sp_read_rule K vs H Q' E := by
  obtain ⟨v, e, h⟩ := h
  refine ⟨v, e, ?_⟩
  rcases h with ⟨t, a, b, c, d, f, g⟩ | h
  · exact .inl ⟨t, a, b, c, d, fun v' H' r x y z => q _ _ (f v' H' r x y z), g⟩
  · exact .inr h
def sp_refused : Sp := fun vs H Q _ => ∃ v, vs = [v] ∧ Bad H v ∧ ∀ H', Ex H H' → Q (.bl true) H'
abbrev N__law_refused : List Str := ["_law_text_here", "_law_word", "e"]
theorem sc__law_refused : FnScope N__law_refused ["_law_text_here"] (defScope s__law_refused) := ⟨rfl, rfl, rfl, by decide +kernel, rfl, by decide +kernel, by decide +kernel⟩
theorem ok__law_refused (T : Top K mg) : FnY P w K mg base 7 (gA K "_law_refused") (fdOf K ("_law_refused", none)) ["_law_text_here"] sp_refused := by
  have sc := sc__law_refused
  refine okY (t_d__law_refused T) sc (fun vs H Q E h => by repeat (first | (obtain ⟨rfl, _⟩ := h; rfl) | obtain ⟨_, h⟩ := h)) (fun cdv A outer s H vs Q E B h => ⟨_, (pss_cons (ps_set (i := 1) sc.nd rfl (.inl rfl) pe_str)
      (C8.pss_cut (ps_tryY B.stk B.frm B.passAt B.tk (fun W pn xe tkB paB =>
        (pss_one (ps_expr (pe_callY (ok_read_rule T) (B.room.mono (by decide)) rfl (t_g_read_rule T) (t_d_read_rule T).kp (t_b_read_rule T) .nil tkB (pa_cons (pv 0) pa_nil)))))
        (HdY.named (i := 2) ⟨rfl, by decide, .inl (t_g_BookError T)⟩ sc.nd rfl rfl (fun a oe cls d ch pn hz hf hp hot =>
          (pss_cons (ps_set (i := 1) sc.nd rfl (.inl rfl) pe_str)
          (pss_one (ps_if (PW.pt (pw_and (pt_val (pe_callB (call_isYK K rfl hz hf hp) (by rfl) (t_b_isinstance T) (by decide +kernel) (pa_cons (pv 2) (pa_cons (pe_glob (v := .ref (gA K "NoText")) rfl (t_g_NoText T) rfl) pa_nil)))) (pw_and (pt_not (pt_val (pe_callB (call_isYK K rfl hz hf hp) (by rfl) (t_b_isinstance T) (by decide +kernel) (pa_cons (pv 2) (pa_cons (pe_glob (v := .ref (gA K "NoRule")) rfl (t_g_NoRule T) rfl) pa_nil))))) (pw_and1 (pt_not (pt_val (pe_callB (call_isYK K rfl hz hf hp) (by rfl) (t_b_isinstance T) (by decide +kernel) (pa_cons (pv 2) (pa_cons (pe_glob (v := .ref (gA K "NoNumber")) rfl (t_g_NoNumber T) rfl) pa_nil)))))))))
            (pss_one (ps_set (i := 1) sc.nd rfl (.inl rfl) (pe_ix (ix_listK K rfl) (pe_lst (pa_cons pe_str (pa_cons pe_str pa_nil))) (pe_callTy call_int1' (by rfl) (t_b_int T) (by decide +kernel) (pa_cons (pe_or (pe_callB (call_isiK K rfl) (by rfl) (t_b_isinstance T) (by decide +kernel) (pa_cons (pe_xfY (t_ec_NoText T).2 (t_n_NoText_line T) hz hf hp (pv 2)) (pa_cons (pe_bltn (v := .ty "bool") rfl (t_b_bool T) (by decide +kernel) rfl) pa_nil))) (pe_one (pe_cmpR op_ne (pe_xfY (t_ec_NoText T).2 (t_n_NoText_line T) hz hf hp (pv 2)) pe_int (nomark _)))) pa_nil)) (fun _ _ => rfl))))
            pss_nil)))) HdY.nil)
        pss_nil)
      (pss_one (ps_ret (pe_cmpR op_eq (pv 1) pe_str (nomark _)))))), ?_⟩)
  obtain ⟨v, rfl, hb, hQ⟩ := h
  repeat walk_at "s"
  dsimp only
  refine w_cut (fun σ' H' => Ex H H' ∧ σ'[1]? = some (some (.str "none"))) ?_ ?_
  · repeat walk_at "s"
    have err : ∀ (XK1 : XK), (∀ d H', Ex H H' → H' d = some (.xd [("line", .int 0)]) → XK1 (.ref (gA K "NoText")) (some d) H') → sp_read_rule K [v] H (fun _ _ => False) XK1 := fun X1 hX => by
      rcases hb with hb | ⟨t, rfl, h1, h2, h3, h4⟩
      · exact ⟨v, rfl, .inr ⟨hb, hX⟩⟩
      · exact ⟨_, rfl, .inl ⟨t, rfl, h1, h2, h3, (fun _ _ r _ _ h => by rw [h4] at h; cases h), fun _ => hX⟩⟩
    refine sp_rr_mono (err _ fun d H' e hd => ?_) fun _ _ h => h.elim
    refine ⟨true, t_e_NoText_BookError T, fun _ a ha => ?_, fun z => nomatch z⟩
    dsimp only [onS, offD]
    have dic : Dic H' (some d) := .inr ⟨d, _, rfl, hd⟩
    have ec := (t_ec_NoText T).1
    repeat walk_at "s"
    refine w_isY rfl (fun u h => h) ec dic (t_k_NoText_NoText T) ?_
    repeat walk_at "s"
    refine w_isY rfl (fun u h => h) ec dic (t_k_NoText_NoRule T) ?_
    repeat walk_at "s"
    refine ite2 (fun _ => ?_) (fun c => absurd rfl c)
    repeat walk_at "s"
    refine w_isY rfl (fun u h => h) ec dic (t_k_NoText_NoNumber T) ?_
    repeat walk_at "s"
    refine ite2 (fun _ => ?_) (fun c => absurd rfl c)
    repeat walk_at "s"
    refine nL le5 fun p H1 e1 np _ hp => ?_
    repeat walk_at "s"
    refine ⟨rfl, rfl, d, _, _, rfl, e1 _ _ hd, rfl, ?_⟩
    repeat walk_at "s"
    refine w_isi (.ty "bool") (.base (.int 0)) (b := false) (by rfl) ?_
    repeat walk_at "s"
    refine ⟨rfl, rfl, d, _, _, rfl, e1 _ _ hd, rfl, ?_⟩
    repeat walk_at "s"
    refine r_ixL (v := .str "none") (sqL hp) (by rfl) ?_
    repeat walk_at "s"
    exact ⟨e.trans e1, rfl⟩
  · rintro σ' H' ⟨e, hs⟩
    repeat walk_at "s"
    exact hQ _ e
end
end T
/-! the plain law -/
namespace T
open PySem PySem.Spec PyProof.Rows L2 Y SX
/-! ### a rule's words -/
theorem numL_le {i : Int} (h : fits i) : (TL.numL i.natAbs).length ≤ 1000 := Nat.le_trans (TL.numL_len (k := 500) (by decide) h) (by decide)
theorem not58 (i : Int) : 58 ∉ intL i := fun h => by
  rcases intL_mem h with z | z <;> omega
theorem not32 (i : Int) : 32 ∉ intL i := fun h => by
  rcases intL_mem h with z | z <;> omega
theorem parL_word (a b : Int) : parL (wordL (a, b)) = some (intL a, intL b) := par_head (c := 58) (sep := []) (intL b) (not58 a)
theorem stepL_word {s : Int × Int} (h1 : fits s.1) (h2 : fits s.2) : stepL (wordL s) = some s := by
  unfold stepL
  rw [parL_word]
  dsimp only
  rw [readL_int (numL_le h1), readL_int (numL_le h2)]
theorem parL_free {t : List Nat} (h : 58 ∉ t) : parL t = none := par_head_none h
theorem stepL_free {t : List Nat} (h : 58 ∉ t) : stepL t = none := by
  unfold stepL
  rw [parL_free h]
theorem stepL_at {p q : List Nat} (h : 58 ∉ p) (k : readL p = none ∨ readL q = none) : stepL (p ++ 58 :: q) = none := by
  unfold stepL
  have e : parL (p ++ 58 :: q) = some (p, q) := par_head (c := 58) (sep := []) q h
  rw [e]
  dsimp only
  rcases k with k | k
  · rw [k]
  · rw [k]
    cases readL p <;> rfl
theorem word32 (s : Int × Int) : 32 ∉ wordL s := fun h => by
  rcases List.mem_append.mp h with z | z
  · exact not32 _ z
  · rcases List.mem_cons.mp z with z | z
    · exact absurd z (by decide)
    · exact not32 _ z
theorem words32 (r : RuleV) : ∀ p ∈ wordsL r, 32 ∉ p := by
  intro p hp
  rcases List.mem_append.mp hp with h | h
  · obtain ⟨s, _, rfl⟩ := List.mem_map.mp h
    exact word32 s
  · cases e : r.2 with
    | none => rw [e] at h; cases h
    | some g =>
      rw [e] at h
      rcases List.mem_cons.mp h with h | h
      · rw [h]; decide
      · rw [List.mem_singleton.mp h]; exact not32 g
theorem spl_words {ws : List (List Nat)} (hne : ws ≠ []) (h : ∀ p ∈ ws, 32 ∉ p) : TL.spl [32] 0 [] (TL.joinL [32] ws) = ws := SX.spl_join hne h
theorem readT_join {ws : List (List Nat)} (hne : ws ≠ []) (h : ∀ p ∈ ws, 32 ∉ p) : readT (TL.joinL [32] ws) = readW ws := by
  unfold readT
  rw [spl_words hne h]
theorem steps_words {l : List (Int × Int)} (h : ∀ s ∈ l, fits s.1 ∧ fits s.2) : ∀ (acc : List (Int × Int)), (l.map wordL).foldl (fun (o : Option (List (Int × Int))) w => o.bind fun bs => (stepL w).map fun s => bs ++ [s]) (some acc) = some (acc ++ l) := by
  induction l with
  | nil => intro acc; rw [List.append_nil]; rfl
  | cons s l ih =>
    intro acc
    rw [List.map_cons, List.foldl_cons]
    have e : ((some acc).bind fun bs => (stepL (wordL s)).map fun s => bs ++ [s]) = some (acc ++ [s]) := by
      rw [stepL_word (h s List.mem_cons_self).1 (h s List.mem_cons_self).2]
      rfl
    rw [e, ih (fun z hz => h z (List.mem_cons_of_mem _ hz)), List.append_assoc]
    rfl
theorem stepsL_words {l : List (Int × Int)} (h : ∀ s ∈ l, fits s.1 ∧ fits s.2) : stepsL (l.map wordL) = some l := steps_words h []
theorem fin_words {r : RuleV} (h : fitsR r) : fin (r.1.map wordL) r.2 = if okRule r = true then some r else none := by
  unfold fin
  rw [stepsL_words h.2.1]
theorem word_ne_gone (s : Int × Int) : wordL s ≠ GONE := fun e => by
  have h : 58 ∈ wordL s := List.mem_append_right _ List.mem_cons_self
  rw [e] at h
  exact absurd h (by decide)
theorem readW_words {r : RuleV} (h : fitsR r) (hne : r.1 ≠ []) : readW (wordsL r) = if okRule r = true then some r else none := by
  obtain ⟨rows, gone⟩ := r
  have hpos : 0 < rows.length := Nat.pos_of_ne_zero fun z => hne (List.length_eq_zero_iff.mp z)
  cases gone with
  | none =>
    have e : wordsL (rows, none) = rows.map wordL := List.append_nil _
    rw [e]
    have hc : cutG (rows.map wordL) = false := by
      unfold cutG
      cases hx : (rows.map wordL)[(rows.map wordL).length - 2]? with
      | none =>
        have e2 : decide ((none : Option (List Nat)) = some GONE) = false := rfl
        rw [e2, Bool.and_false]
      | some x =>
        obtain ⟨s, _, rfl⟩ := List.mem_map.mp (List.mem_of_getElem? hx)
        rw [decide_eq_false (fun z => word_ne_gone s (Option.some.inj z)), Bool.and_false]
    unfold readW
    rw [hc]
    exact fin_words h
  | some g =>
    have e : wordsL (rows, some g) = rows.map wordL ++ [GONE, intL g] := rfl
    have hl : (rows.map wordL ++ [GONE, intL g]).length = rows.length + 2 := by rw [List.length_append, List.length_map]; rfl
    have hm : (rows.map wordL).length = rows.length := List.length_map _
    have hc : cutG (rows.map wordL ++ [GONE, intL g]) = true := by
      unfold cutG
      rw [hl, decide_eq_true (by omega), Bool.true_and, show rows.length + 2 - 2 = rows.length by omega, List.getElem?_append_right (by omega), hm, Nat.sub_self]
      rfl
    have hgd : (rows.map wordL ++ [GONE, intL g]).getD (rows.length + 2 - 1) [] = intL g := by
      rw [List.getD_eq_getElem?_getD, List.getElem?_append_right (by omega), hm, show rows.length + 2 - 1 - rows.length = 1 by omega]
      rfl
    unfold readW
    rw [e, hc, hl, hgd, readL_int (numL_le (h.2.2 g rfl)), show rows.length + 2 - 2 = rows.length by omega, List.take_left' hm]
    exact fin_words h
theorem wordsL_ne {r : RuleV} (hne : r.1 ≠ []) : wordsL r ≠ [] := fun e => by
  have q := (List.append_eq_nil_iff.mp e).1
  exact hne (List.map_eq_nil_iff.mp q)
theorem readT_text {r : RuleV} (h : fitsR r) (hne : r.1 ≠ []) : readT (textL r) = if okRule r = true then some r else none := by
  unfold textL
  rw [readT_join (wordsL_ne hne) (words32 r), readW_words h hne]
/-! ### words that are refused -/
theorem fin_bad {ws pre post : List (List Nat)} {w : List Nat} {g : Option Int} (e : ws = pre ++ w :: post) (h : stepL w = none) : fin ws g = none := by
  unfold fin
  rw [e, stepsL_bad h]
theorem bad_first {x : List Nat} {r : List (List Nat)} (h : stepL x = none) : readW (x :: r) = none := by
  unfold readW
  split
  · rename_i hc
    have hlen : 2 < (x :: r).length := by
      unfold cutG at hc
      exact of_decide_eq_true (Bool.and_eq_true_iff.mp hc).1
    split
    · rfl
    · have e : (x :: r).take ((x :: r).length - 2) = [] ++ x :: r.take ((x :: r).length - 3) := by
        rw [show (x :: r).length - 2 = ((x :: r).length - 3) + 1 by omega]
        rfl
      exact fin_bad e h
  · exact fin_bad (pre := []) rfl h
theorem len_snoc (r : List (List Nat)) (y : List Nat) : (r ++ [y]).length = r.length + 1 := by rw [List.length_append]; rfl
theorem bad_last {r : List (List Nat)} {y : List Nat} (h1 : stepL y = none) (h2 : readL y = none) : readW (r ++ [y]) = none := by
  unfold readW
  split
  · have e : (r ++ [y]).getD ((r ++ [y]).length - 1) [] = y := by
      rw [len_snoc, Nat.add_sub_cancel, List.getD_eq_getElem?_getD, List.getElem?_append_right (Nat.le_refl _), Nat.sub_self]
      rfl
    rw [e, h2]
  · exact fin_bad rfl h1
theorem bad_last2 {r : List (List Nat)} {x y : List Nat} (hx : x ≠ GONE) (h1 : stepL y = none) : readW (r ++ [x, y]) = none := by
  have hl : (r ++ [x, y]).length = r.length + 2 := by rw [List.length_append]; rfl
  have hc : cutG (r ++ [x, y]) = false := by
    unfold cutG
    rw [hl, show r.length + 2 - 2 = r.length by omega, List.getElem?_append_right (Nat.le_refl _), Nat.sub_self]
    rw [decide_eq_false (fun z => hx (Option.some.inj z) : ¬ ([x, y][0]? = some GONE)), Bool.and_false]
  unfold readW
  rw [hc]
  have e : r ++ [x, y] = (r ++ [x]) ++ y :: [] := by rw [List.append_assoc]; rfl
  exact fin_bad e h1
theorem bad_mid {r : List (List Nat)} {m y : List Nat} (h : stepL m = none) : readW (r ++ [m, GONE, y]) = none := by
  have hl : (r ++ [m, GONE, y]).length = r.length + 3 := by rw [List.length_append]; rfl
  unfold readW
  split
  · split
    · rfl
    · have e : (r ++ [m, GONE, y]).take ((r ++ [m, GONE, y]).length - 2) = r ++ m :: [] := by
        rw [hl, show r.length + 3 - 2 = r.length + 1 by omega, List.take_append, List.take_of_length_le (by omega), show r.length + 1 - r.length = 1 by omega]
        rfl
      exact fin_bad e h
  · have e : r ++ [m, GONE, y] = r ++ m :: [GONE, y] := rfl
    exact fin_bad e h
end T
namespace T
open PySem PySem.Spec PyProof.Rows L2 Y SX
/-! ### the law's rules -/
theorem stepB_iff {o b : Int} {s : Int × Int} : stepB o b s = true ↔ o ≤ s.1 ∧ 1 ≤ s.2 ∧ s.2 % b = 0 := by
  unfold stepB
  simp only [Bool.not_eq_true', Bool.or_eq_false_iff, decide_eq_false_iff_not, Bool.not_eq_false', decide_eq_true_iff]
  omega
theorem rowsOf_len (n : Int) : ∀ k : Nat, (rowsOf n k).2.length = k
  | 0 => rfl
  | k + 1 => by
    show ((rowsOf n k).2 ++ [_]).length = _
    rw [List.length_append, rowsOf_len n k]
    rfl
theorem rowsOf_ok (n : Int) : ∀ k : Nat, k ≤ 5 → okSteps 0 1 (rowsOf n k).2 = true ∧ (lastOf (rowsOf n k).2).1 ≤ (rowsOf n k).1.1 ∧ (lastOf (rowsOf n k).2).2 = (rowsOf n k).1.2
  | 0, _ => ⟨rfl, (rowsOf_bd n 0 (by decide)).1, rfl⟩
  | k + 1, hk => by
    obtain ⟨h1, h2, h3⟩ := rowsOf_ok n k (by omega)
    have b0 := rowsOf_bd n k (by omega)
    have b1 := rowsOf_bd n (k + 1) hk
    have m1 := mixed_lt n (2 * (k : Int) + 2)
    have a1 := amount_lt m1.1 m1.2
    have e : (rowsOf n (k + 1)).2 = (rowsOf n k).2 ++ [(rowsOf n (k + 1)).1] := rfl
    have e2 : (rowsOf n (k + 1)).1.1 = (rowsOf n k).1.1 + amount (mixed n (2 * (k : Int) + 2)) := rfl
    have e3 : (rowsOf n (k + 1)).1.2 = (rowsOf n k).1.2 * (1 + pick (mixed n (2 * (k : Int) + 1))) := rfl
    rw [e, lastOf_snoc]
    refine ⟨?_, Int.le_refl _, rfl⟩
    rw [okSteps_app, h1, Bool.true_and]
    show (stepB (lastOf (rowsOf n k).2).1 (lastOf (rowsOf n k).2).2 (rowsOf n (k + 1)).1 && true) = true
    rw [Bool.and_true, stepB_iff]
    refine ⟨by omega, b1.2.2.1, ?_⟩
    rw [h3, e3]
    exact Int.mul_emod_right _ _
theorem rowsOf_fit (n : Int) : ∀ k : Nat, k ≤ 5 → ∀ s ∈ (rowsOf n k).2, fit0 s.1 ∧ fit0 s.2
  | 0, _, s, h => by cases h
  | k + 1, hk, s, h => by
    have e : (rowsOf n (k + 1)).2 = (rowsOf n k).2 ++ [(rowsOf n (k + 1)).1] := rfl
    rw [e] at h
    rcases List.mem_append.mp h with h | h
    · exact rowsOf_fit n k (by omega) s h
    · rw [List.mem_singleton.mp h]
      have b1 := rowsOf_bd n (k + 1) hk
      have b2 := rowsOf_le n (k + 1) hk
      unfold fit0
      constructor <;> omega
theorem cnt_le (n : Int) : 1 ≤ cntOf n ∧ cntOf n ≤ 5 := by unfold cntOf; omega
theorem ruleOf_RB (n : Int) : RB (ruleOf n) := by
  have c := cnt_le n
  have e : (ruleOf n).1 = (rowsOf n (cntOf n)).2 := rfl
  refine ⟨by rw [e, rowsOf_len]; exact c.1, by rw [e, rowsOf_len]; exact c.2, by rw [e]; exact rowsOf_fit n _ c.2, fun g hg => ?_⟩
  have b1 := rowsOf_bd n (cntOf n) c.2
  have b2 := rowsOf_le n (cntOf n) c.2
  have m1 := mixed_lt n 20
  have a1 := amount_lt m1.1 m1.2
  have e2 : (ruleOf n).2 = if n / 5 % 3 > 0 then some ((rowsOf n (cntOf n)).1.1 + amount (mixed n 20)) else none := rfl
  rw [e2] at hg
  split at hg
  · have z := Option.some.inj hg
    unfold fit0
    omega
  · cases hg
theorem ruleOf_ok (n : Int) : okRule (ruleOf n) = true := by
  have c := cnt_le n
  have e : (ruleOf n).1 = (rowsOf n (cntOf n)).2 := rfl
  have e2 : (ruleOf n).2 = if n / 5 % 3 > 0 then some ((rowsOf n (cntOf n)).1.1 + amount (mixed n 20)) else none := rfl
  obtain ⟨h1, h2, h3⟩ := rowsOf_ok n (cntOf n) c.2
  have m1 := mixed_lt n 20
  have a1 := amount_lt m1.1 m1.2
  unfold okRule
  rw [e, rowsOf_len, decide_eq_true c, h1, e2]
  split
  · show (true && (true && !decide _)) = true
    rw [decide_eq_false (by omega)]
    rfl
  · rfl
theorem RB.ne {r : RuleV} (h : RB r) : r.1 ≠ [] := fun e => by
  have := h.l1
  rw [e] at this
  exact absurd this (by decide)
theorem RB.fits {r : RuleV} (h : RB r) : fitsR r := FR.fits (g := r.2) h.fr (Nat.le_trans h.l5 (by decide)) fun z e => (h.end_ z e).one
/-! ### texts that are refused -/
def GW (w : List Nat) : Prop := 32 ∉ w ∧ w.length ≤ 640
def BadT (t : List Nat) : Prop := t.length ≤ 90000 ∧ (TL.spl [32] 0 [] t).length ≤ 90000 ∧ (∀ w ∈ TL.spl [32] 0 [] t, w.length ≤ 640) ∧ readT t = none
theorem badJ {ws : List (List Nat)} (hne : ws ≠ []) (h : ∀ p ∈ ws, GW p) (hl : ws.length ≤ 120) (hb : readW ws = none) : BadT (TL.joinL [32] ws) := by
  have h32 : ∀ p ∈ ws, 32 ∉ p := fun p hp => (h p hp).1
  have hj := joinL_len ws fun p hp => (h p hp).2
  have h2 : ws.length * (640 + 1) ≤ 120 * 641 := Nat.mul_le_mul_right _ hl
  unfold BadT
  rw [spl_words hne h32, readT_join hne h32]
  exact ⟨by omega, by omega, fun w hw => (h w hw).2, hb⟩
theorem fit1.len {i : Int} (h : fit1 i) : (intL i).length ≤ 63 := intL_len (by decide) h
theorem gw_int {i : Int} (h : fit1 i) : GW (intL i) := ⟨not32 i, Nat.le_trans h.len (by decide)⟩
theorem gw_word {s : Int × Int} (h1 : fit1 s.1) (h2 : fit1 s.2) : GW (wordL s) := by
  refine ⟨word32 s, ?_⟩
  unfold wordL
  rw [List.length_append, List.length_cons]
  have := h1.len
  have := h2.len
  omega
theorem gw_rows {l : List (Int × Int)} (h : FR l) : ∀ p ∈ l.map wordL, GW p := fun p hp => by
  obtain ⟨s, hs, rfl⟩ := List.mem_map.mp hp
  exact gw_word (h s hs).1 (h s hs).2
theorem gw_app {l m : List (List Nat)} (h1 : ∀ p ∈ l, GW p) (h2 : ∀ p ∈ m, GW p) : ∀ p ∈ l ++ m, GW p := fun p hp => (List.mem_append.mp hp).elim (h1 p) (h2 p)
theorem gw_cons {w : List Nat} {l : List (List Nat)} (h1 : GW w) (h2 : ∀ p ∈ l, GW p) : ∀ p ∈ w :: l, GW p := fun p hp => (List.mem_cons.mp hp).elim (fun e => by rw [e]; exact h1) (h2 p)
theorem gw_nil : ∀ p ∈ ([] : List (List Nat)), GW p := fun p hp => by cases hp
theorem gw_gone {g : Option Int} (h : ∀ z, g = some z → fit1 z) : ∀ p ∈ goneW g, GW p := by
  cases g with
  | none => exact gw_nil
  | some g => exact gw_cons ⟨by decide, by decide⟩ (gw_cons (gw_int (h g rfl)) gw_nil)
theorem gw_words {r : RuleV} (h : FR r.1) (hg : ∀ z, r.2 = some z → fit1 z) : ∀ p ∈ wordsL r, GW p := gw_app (gw_rows h) (gw_gone hg)
theorem bad_rule {r : RuleV} (h : FR r.1) (hg : ∀ z, r.2 = some z → fit1 z) (hl : r.1.length ≤ 100) (hne : r.1 ≠ []) (hb : okRule r = false) : BadT (textL r) := by
  have hf : fitsR r := FR.fits (g := r.2) h hl hg
  refine badJ (wordsL_ne hne) (gw_words h hg) ?_ ?_
  · unfold wordsL
    rw [List.length_append, List.length_map]
    have h4 : (goneW r.2).length ≤ 2 := by
      cases r.2 with
      | none => exact Nat.zero_le _
      | some _ => exact Nat.le_refl 2
    omega
  · rw [readW_words hf hne, hb]
    rfl
theorem join_head (S : List Nat) (a b : List Nat) (ws : List (List Nat)) : TL.joinL S ((a ++ b) :: ws) = a ++ TL.joinL S (b :: ws) := by
  cases ws with
  | nil => rfl
  | cons c r =>
    show (a ++ b) ++ (S ++ TL.joinL S (c :: r)) = a ++ (b ++ (S ++ TL.joinL S (c :: r)))
    rw [List.append_assoc]
theorem join_app (S : List Nat) : ∀ {l m : List (List Nat)}, l ≠ [] → m ≠ [] → TL.joinL S (l ++ m) = TL.joinL S l ++ (S ++ TL.joinL S m)
  | [x], m, _, hm => by
    cases m with
    | nil => exact absurd rfl hm
    | cons c r => rfl
  | x :: y :: r, m, _, hm => by
    have ih := join_app S (l := y :: r) (List.cons_ne_nil _ _) hm
    show x ++ (S ++ TL.joinL S ((y :: r) ++ m)) = (x ++ (S ++ TL.joinL S (y :: r))) ++ _
    rw [ih, List.append_assoc, List.append_assoc]
theorem join_last (S : List Nat) {l : List (List Nat)} (y z : List Nat) : TL.joinL S (l ++ [y]) ++ z = TL.joinL S (l ++ [y ++ z]) := by
  cases l with
  | nil => rfl
  | cons a r =>
    rw [join_app S (List.cons_ne_nil a r) (List.cons_ne_nil y []), join_app S (List.cons_ne_nil a r) (List.cons_ne_nil _ [])]
    show _ ++ (S ++ y) ++ z = _ ++ (S ++ (y ++ z))
    rw [List.append_assoc, List.append_assoc]
theorem par_eq : ∀ (t acc p q : List Nat), TL.par [58] acc t = some (p, q) → acc ++ t = p ++ 58 :: q
  | [], acc, p, q, h => by cases h
  | c :: r, acc, p, q, h => by
    unfold TL.par at h
    split at h
    · rename_i hc
      injection h with h
      injection h with h1 h2
      subst h1
      subst h2
      have ec : c = 58 := by
        have z : ([c] == [58]) = true := hc
        have z2 := eq_of_beq z
        injection z2
      rw [ec]
      rfl
    · have ih := par_eq r (acc ++ [c]) p q h
      rw [List.append_assoc] at ih
      exact ih
theorem stepL_bad {t : List Nat} {c : Nat} (h : c ∈ t) (hc : ¬ (c = 45 ∨ (48 ≤ c ∧ c ≤ 57)) ∧ c ≠ 58) : stepL t = none := by
  cases e : parL t with
  | none => unfold stepL; rw [e]
  | some pq =>
    obtain ⟨p, q⟩ := pq
    have et := par_eq t [] p q e
    unfold stepL
    rw [e]
    dsimp only
    have et2 : t = p ++ 58 :: q := et
    rw [et2] at h
    rcases List.mem_append.mp h with z | z
    · rw [readL_bad z hc.1]
    · rcases List.mem_cons.mp z with z | z
      · exact absurd z hc.2
      · rw [readL_bad z hc.1]
        cases readL p <;> rfl
end T
namespace T
open PySem PySem.Spec PyProof.Rows L2 Y SX
/-! ### rules that are none -/
theorem okSteps_low : ∀ (l : List (Int × Int)) (o b : Int), okSteps o b l = true → ∀ s ∈ l, o ≤ s.1
  | [], _, _, _, s, h => by cases h
  | a :: l, o, b, h, s, hs => by
    have z : (stepB o b a && okSteps a.1 a.2 l) = true := h
    rw [Bool.and_eq_true, stepB_iff] at z
    rcases List.mem_cons.mp hs with e | e
    · rw [e]; exact z.1.1
    · have := okSteps_low l a.1 a.2 z.2 s e
      omega
theorem okSteps_pos : ∀ (l : List (Int × Int)) (o b : Int), okSteps o b l = true → ∀ s ∈ l, 1 ≤ s.2
  | [], _, _, _, s, h => by cases h
  | a :: l, o, b, h, s, hs => by
    have z : (stepB o b a && okSteps a.1 a.2 l) = true := h
    rw [Bool.and_eq_true, stepB_iff] at z
    rcases List.mem_cons.mp hs with e | e
    · rw [e]; exact z.1.2.1
    · exact okSteps_pos l a.1 a.2 z.2 s e
theorem ok_steps {r : RuleV} (h : okSteps 0 1 r.1 = false) : okRule r = false := by
  unfold okRule
  rw [h, Bool.false_and, Bool.and_false]
theorem steps_ok {r : RuleV} (h : okRule r = true) : okSteps 0 1 r.1 = true := by
  unfold okRule at h
  simp only [Bool.and_eq_true] at h
  exact h.2.1
theorem app_bad {l m : List (Int × Int)} (h : ∀ o b, okSteps o b m = false) : okSteps 0 1 (l ++ m) = false := by
  rw [okSteps_app, h, Bool.and_false]
theorem set_eq {l : List (Int × Int)} {i : Nat} {s : Int × Int} (h : i < l.length) : l.set i s = l.take i ++ s :: l.drop (i + 1) := List.set_eq_take_append_cons_drop.trans (if_pos h)
theorem noRule_bad {r : RuleV} (hb : RB r) (ok : okRule r = true) (c : Int) : BadT (textL (noRule r c)) := by
  have l1 := hb.l1
  have l5 := hb.l5
  have hat2 : atOf r c < r.1.length := by
    unfold atOf
    have := Int.emod_lt_of_pos (c / 7) (show (0 : Int) < (r.1.length : Int) by omega)
    have := Int.emod_nonneg (c / 7) (show (r.1.length : Int) ≠ 0 by omega)
    omega
  obtain ⟨s, hs⟩ : ∃ s, r.1[atOf r c]? = some s := ⟨_, List.getElem?_eq_getElem hat2⟩
  have hsD : r.1.getD (atOf r c) (0, 0) = s := by rw [List.getD_eq_getElem?_getD, hs]; rfl
  have hms : s ∈ r.1 := List.mem_of_getElem? hs
  obtain ⟨f1, f2⟩ := hb.row _ hms
  have hlm : lastOf r.1 ∈ r.1 := List.mem_of_getElem? (lastOf_get hb.ne)
  obtain ⟨m1, m2⟩ := hb.row _ hlm
  have hfr := hb.fr
  have hok := steps_ok ok
  have hw := okSteps_pos _ _ _ hok s hms
  have g1 : ∀ z, r.2 = some z → fit1 z := fun z e => (hb.end_ z e).one
  have gN : ∀ z, (none : Option Int) = some z → fit1 z := fun z e => by cases e
  unfold fit0 at f1 f2 m1 m2
  have w1 : fit1 s.1 := by unfold fit1; omega
  have w2 : fit1 s.2 := by unfold fit1; omega
  have w3 : fit1 (s.1 + 1) := by unfold fit1; omega
  have w4 : fit1 (s.2 * 2) := by unfold fit1; omega
  have w5 : fit1 (s.2 * 3) := by unfold fit1; omega
  unfold noRule noRuleS
  rw [hsD]
  split
  · refine bad_rule (r := (_, none)) ((hfr.take _).append (.cons w1 w2 (.cons w3 w2 (.cons w1 w2 .nil)))) gN ?_ (by simp) (ok_steps (app_bad fun o b => ?_))
    · show (_ ++ _ : List _).length ≤ 100
      rw [List.length_append, List.length_take]
      exact Nat.le_trans (Nat.add_le_add (Nat.min_le_right _ _) (Nat.le_refl 3)) (by omega)
    · show (stepB o b (s.1, s.2) && (stepB s.1 s.2 (s.1 + 1, s.2) && (stepB (s.1 + 1) s.2 (s.1, s.2) && true))) = false
      have e : stepB (s.1 + 1) s.2 (s.1, s.2) = false := bF fun z => by
        have q := (stepB_iff.mp z).1
        dsimp only at q
        omega
      rw [e, Bool.false_and, Bool.and_false, Bool.and_false]
  split
  · refine bad_rule (r := (_, none)) ((hfr.take _).append (.cons w1 w4 (.cons w1 w5 .nil))) gN ?_ (by simp) (ok_steps (app_bad fun o b => ?_))
    · show (_ ++ _ : List _).length ≤ 100
      rw [List.length_append, List.length_take]
      exact Nat.le_trans (Nat.add_le_add (Nat.min_le_right _ _) (Nat.le_refl 2)) (by omega)
    · show (stepB o b (s.1, s.2 * 2) && (stepB s.1 (s.2 * 2) (s.1, s.2 * 3) && true)) = false
      have e : stepB s.1 (s.2 * 2) (s.1, s.2 * 3) = false := bF fun z => by
        have q : (s.2 * 3) % (s.2 * 2) = 0 := (stepB_iff.mp z).2.2
        have q2 : (s.2 * 3) % (s.2 * 2) = s.2 := by
          have e3 : s.2 * 3 = s.2 + s.2 * 2 := by omega
          rw [e3, Int.add_emod_right]
          exact Int.emod_eq_of_lt (by omega) (by omega)
        omega
      rw [e, Bool.false_and, Bool.and_false]
  split
  · refine bad_rule (r := (_, r.2)) (hfr.set w1 (by unfold fit1; omega)) g1 ?_ ?_ (ok_steps ?_)
    · show (List.set _ _ _).length ≤ 100
      rw [List.length_set]
      omega
    · intro e
      have q : (List.set r.1 (atOf r c) (s.1, 0 - c / 35 % 9)).length = 0 := by
        have z : List.set r.1 (atOf r c) (s.1, 0 - c / 35 % 9) = [] := e
        rw [z]
        rfl
      rw [List.length_set] at q
      omega
    · show okSteps 0 1 (List.set _ _ _) = false
      rw [set_eq hat2]
      refine app_bad fun o b => ?_
      show (stepB o b _ && _) = false
      have e : stepB o b (s.1, 0 - c / 35 % 9) = false := bF fun z => by
        have q := (stepB_iff.mp z).2.1
        dsimp only at q
        omega
      rw [e, Bool.false_and]
  split
  · refine bad_rule (r := (r.1, some _)) hfr (fun z e => by cases e; unfold fit1; omega) (by show r.1.length ≤ 100; omega) hb.ne ?_
    unfold okRule
    have e : decide ((lastOf r.1).1 - 1 - c / 35 % 10 ^ 30 < (lastOf r.1).1) = true := decide_eq_true (by omega)
    show (_ && (_ && !decide ((lastOf r.1).1 - 1 - c / 35 % 10 ^ 30 < (lastOf r.1).1))) = false
    rw [e]
    simp
  split
  · refine bad_rule (r := (_, none)) (hfr.append (FR.rep (by unfold fit1; omega) (by unfold fit1; omega))) gN ?_ (by simp [hb.ne]) ?_
    · show (_ ++ _ : List _).length ≤ 100
      rw [List.length_append, List.length_replicate]
      omega
    · unfold okRule
      have e : decide (1 ≤ (r.1 ++ List.replicate (6 - r.1.length) (lastOf r.1)).length ∧ (r.1 ++ List.replicate (6 - r.1.length) (lastOf r.1)).length ≤ 5) = false := by
        refine decide_eq_false ?_
        rw [List.length_append, List.length_replicate]
        omega
      show (decide (1 ≤ (r.1 ++ List.replicate (6 - r.1.length) (lastOf r.1)).length ∧ (r.1 ++ List.replicate (6 - r.1.length) (lastOf r.1)).length ≤ 5) && _) = false
      rw [e, Bool.false_and]
  split
  · obtain ⟨s0, hs0⟩ : ∃ s, r.1[0]? = some s := ⟨_, List.getElem?_eq_getElem (by omega)⟩
    have hs0D : r.1.getD 0 (0, 0) = s0 := by rw [List.getD_eq_getElem?_getD, hs0]; rfl
    have f0 := hb.row _ (List.mem_of_getElem? hs0)
    unfold fit0 at f0
    rw [hs0D]
    refine bad_rule (r := (_, r.2)) (hfr.set (by unfold fit1; omega) (by unfold fit1; omega)) g1 ?_ ?_ (ok_steps ?_)
    · show (List.set _ _ _).length ≤ 100
      rw [List.length_set]
      omega
    · intro e
      have q : (List.set r.1 0 (-1 - c / 35 % 10 ^ 30, s0.2)).length = 0 := by
        have z : List.set r.1 0 (-1 - c / 35 % 10 ^ 30, s0.2) = [] := e
        rw [z]
        rfl
      rw [List.length_set] at q
      omega
    · show okSteps 0 1 (List.set _ _ _) = false
      rw [set_eq (by omega)]
      show (stepB 0 1 _ && _) = false
      have e : stepB 0 1 (-1 - c / 35 % 10 ^ 30, s0.2) = false := bF fun z => by
        have q := (stepB_iff.mp z).1
        dsimp only at q
        omega
      rw [e, Bool.false_and]
  · refine bad_rule (r := (_, r.2)) (.cons w3 w2 (hfr.take _)) g1 ?_ (by simp) (ok_steps ?_)
    · show (_ :: _ : List _).length ≤ 100
      rw [List.length_cons, List.length_take]
      omega
    · show (stepB 0 1 _ && okSteps (s.1 + 1) s.2 (r.1.take (atOf r c + 1))) = false
      have e : okSteps (s.1 + 1) s.2 (r.1.take (atOf r c + 1)) = false := bF fun z => by
        have hm : s ∈ r.1.take (atOf r c + 1) := by
          rw [List.take_add_one, hs]
          exact List.mem_append_right _ (by simp)
        have := okSteps_low _ _ _ z s hm
        omega
      rw [e, Bool.and_false]
/-! ### texts spoilt -/
theorem join_cons2 (x y : List Nat) (r : List (List Nat)) : TL.joinL [32] (x :: y :: r) = x ++ 32 :: TL.joinL [32] (y :: r) := rfl
theorem join_one (x : List Nat) : TL.joinL [32] [x] = x := rfl
theorem bad_of {t : List Nat} {ws : List (List Nat)} (e : t = TL.joinL [32] ws) (hne : ws ≠ []) (h : ∀ p ∈ ws, GW p) (hl : ws.length ≤ 120) (hb : readW ws = none) : BadT t := e ▸ badJ hne h hl hb
theorem join_words {r : RuleV} {s : Int × Int} {ss : List (Int × Int)} (e : r.1 = s :: ss) : textL r = intL s.1 ++ 58 :: TL.joinL [32] (intL s.2 :: (ss.map wordL ++ goneW r.2)) := by
  unfold textL wordsL
  rw [e]
  show TL.joinL [32] ((intL s.1 ++ 58 :: intL s.2) :: (ss.map wordL ++ goneW r.2)) = _
  rw [join_head]
  congr 1
  exact join_head [32] [58] (intL s.2) _
theorem tail_join {w : List Nat} (a : List Nat) (ws : List (List Nat)) : a ++ TL.joinL [32] (w :: ws) = TL.joinL [32] ((a ++ w) :: ws) := (join_head [32] a w ws).symm
theorem plain_join {r : List (Int × Int)} (hne : r ≠ []) {l : List Nat} {m : List (List Nat)} (hm : m ≠ []) (e : l = 32 :: TL.joinL [32] m) : textL (r, none) ++ l = TL.joinL [32] (r.map wordL ++ m) := by
  have e2 : textL (r, none) = TL.joinL [32] (r.map wordL) := by
    unfold textL wordsL
    show TL.joinL [32] (r.map wordL ++ []) = _
    rw [List.append_nil]
  rw [e2, join_app [32] (fun z => hne (List.map_eq_nil_iff.mp z)) hm, e]
  rfl
theorem readL_none1 {t : List Nat} {c : Nat} (h : c ∈ t) (hc : ¬ (c = 45 ∨ (48 ≤ c ∧ c ≤ 57))) : readL t = none := readL_bad h hc
theorem last_char {t : List Nat} {c : Nat} (hc : ¬ (c = 45 ∨ (48 ≤ c ∧ c ≤ 57)) ∧ c ≠ 58) : stepL (t ++ [c]) = none ∧ readL (t ++ [c]) = none :=
  ⟨stepL_bad (List.mem_append_right _ List.mem_cons_self) hc, readL_bad (List.mem_append_right _ List.mem_cons_self) hc.1⟩
theorem words_split {r : RuleV} (hne : r.1 ≠ []) : ∃ l y, wordsL r = l ++ [y] := by
  have h := wordsL_ne hne
  exact ⟨_, _, (List.dropLast_concat_getLast h).symm⟩
theorem gw_add {y : List Nat} {c : Nat} (h : 32 ∉ y) (hl : y.length ≤ 200) (hc : c ≠ 32) : GW (y ++ [c]) := by
  refine ⟨fun z => ?_, by rw [List.length_append, List.length_singleton]; omega⟩
  rcases List.mem_append.mp z with z | z
  · exact h z
  · exact hc (List.mem_singleton.mp z).symm
theorem word_len {r : RuleV} (h : FR r.1) (hg : ∀ z, r.2 = some z → fit1 z) : ∀ p ∈ wordsL r, p.length ≤ 130 := by
  intro p hp
  rcases List.mem_append.mp hp with hp | hp
  · obtain ⟨s, hs, rfl⟩ := List.mem_map.mp hp
    unfold wordL
    rw [List.length_append, List.length_cons]
    have := (h s hs).1.len
    have := (h s hs).2.len
    omega
  · cases e : r.2 with
    | none => rw [e] at hp; cases hp
    | some g =>
      rw [e] at hp
      rcases List.mem_cons.mp hp with hp | hp
      · rw [hp]; decide
      · rw [List.mem_singleton.mp hp]
        have := (hg g e).len
        omega
theorem spoilt_bad {r : RuleV} (hb : RB r) {s : Int × Int} {ss : List (Int × Int)} (er : r.1 = s :: ss) (i : Nat) (hi : i < 25) (t : List Nat)
    (ht : (spoiltL (textL r) (intL s.1) (TL.joinL [32] (intL s.2 :: (ss.map wordL ++ goneW r.2))) r.1)[i]? = some (some t)) : BadT t := by
  have hfr := hb.fr
  have hne := hb.ne
  have l5 := hb.l5
  have g1 : ∀ z, r.2 = some z → fit1 z := fun z e => (hb.end_ z e).one
  have hs : fit1 s.1 ∧ fit1 s.2 := hfr s (by rw [er]; exact List.mem_cons_self)
  have hfs : FR ss := fun z hz => hfr z (by rw [er]; exact List.mem_cons_of_mem _ hz)
  have hgw := gw_words hfr g1
  have htl : ∀ p ∈ ss.map wordL ++ goneW r.2, GW p := gw_app (gw_rows hfs) (gw_gone g1)
  have hgl : (goneW r.2).length ≤ 2 := by
    cases r.2 with
    | none => exact Nat.zero_le _
    | some _ => exact Nat.le_refl 2
  have hssl : ss.length ≤ 4 := by
    have : r.1.length = ss.length + 1 := by rw [er]; rfl
    omega
  have htll : (ss.map wordL ++ goneW r.2).length ≤ 6 := by rw [List.length_append, List.length_map]; omega
  have hwl : (wordsL r).length ≤ 7 := by
    unfold wordsL
    rw [List.length_append, List.length_map]
    omega
  have hrl : (r.1.map wordL).length ≤ 5 := by rw [List.length_map]; exact l5
  have hgr := gw_rows hfr
  have hlast : fit1 (lastOf r.1).1 := (hfr _ (List.mem_of_getElem? (lastOf_get hne))).1
  have c58 := not58
  have p1 : ∀ {m : List (List Nat)} {l : List Nat}, m ≠ [] → l = 32 :: TL.joinL [32] m → (∀ p ∈ m, GW p) → m.length ≤ 20 → readW (r.1.map wordL ++ m) = none → BadT (textL (r.1, none) ++ l) := fun hm e hg hl hr =>
    bad_of (plain_join hne hm e) (by simp [hm]) (gw_app hgr hg) (by rw [List.length_append]; omega) hr
  have lg : ∀ w : List Nat, (decide (32 ∉ w) && decide (w.length ≤ 640)) = true → GW w := fun w h => by
    rw [Bool.and_eq_true, decide_eq_true_iff, decide_eq_true_iff] at h
    exact h
  have first : ∀ {x : List Nat} {ws : List (List Nat)}, (∀ p ∈ ws, GW p) → ws.length ≤ 50 → GW x → stepL x = none → BadT (TL.joinL [32] (x :: ws)) := fun h1 h2 h3 h4 =>
    badJ (List.cons_ne_nil _ _) (gw_cons h3 h1) (by rw [List.length_cons]; omega) (bad_first h4)
  have gwx : ∀ (a b : List Nat), 32 ∉ a → 32 ∉ b → a.length + b.length ≤ 640 → GW (a ++ b) := fun a b h1 h2 h3 => ⟨fun z => (List.mem_append.mp z).elim h1 h2, by rw [List.length_append]; exact h3⟩
  have n32 := not32
  have la := hs.1.len
  have lb := hs.2.len
  have ew : wordsL r = wordL s :: (ss.map wordL ++ goneW r.2) := by
    unfold wordsL
    rw [er]
    rfl
  have et0 : textL r = TL.joinL [32] ((intL s.1 ++ 58 :: intL s.2) :: (ss.map wordL ++ goneW r.2)) := by
    unfold textL
    rw [ew]
    rfl
  have n58b : ∀ {a b : List Nat}, 58 ∉ a → 58 ∉ b → 58 ∉ a ++ b := fun h1 h2 z => (List.mem_append.mp z).elim h1 h2
  have fin2 : ∀ c : Nat, ¬ (c = 45 ∨ (48 ≤ c ∧ c ≤ 57)) ∧ c ≠ 58 → c ≠ 32 → BadT (textL r ++ [c]) := fun c hc h3 => by
    obtain ⟨l, y, e⟩ := words_split hne
    have ey : y ∈ wordsL r := by rw [e]; exact List.mem_append_right _ List.mem_cons_self
    have q := last_char (t := y) hc
    refine bad_of (ws := l ++ [y ++ [c]]) ?_ (by simp) (gw_app (fun p hp => hgw p (by rw [e]; exact List.mem_append_left _ hp)) (gw_cons (gw_add (hgw y ey).1 (Nat.le_trans (word_len hfr g1 y ey) (by decide)) h3) gw_nil)) ?_ (bad_last q.1 q.2)
    · show TL.joinL [32] (wordsL r) ++ [c] = _
      rw [e, join_last]
    · have : (wordsL r).length = l.length + 1 := by rw [e, List.length_append]; rfl
      rw [List.length_append, List.length_singleton]
      omega
  have inj : ∀ {x : List Nat}, some (some x) = some (some t) → x = t := fun h => Option.some.inj (Option.some.inj h)
  have n32i := fun i => not32 i
  match i, hi, ht with
  | 0, _, ht =>
    rw [← inj ht]
    exact bad_of (ws := wordsL r ++ [[]]) (join_app [32] (m := [[]]) (wordsL_ne hne) (List.cons_ne_nil _ _)).symm (by simp) (gw_app hgw (gw_cons (lg _ rfl) gw_nil)) (by rw [List.length_append]; show _ + 1 ≤ _; omega) (bad_last (stepL_free (by decide)) readL_nil)
  | 1, _, ht =>
    rw [← inj ht]
    exact bad_of (ws := [[]] ++ wordsL r) (join_app [32] (l := [[]]) (List.cons_ne_nil _ _) (wordsL_ne hne)).symm (by simp) (gw_cons (lg _ rfl) hgw) (by rw [List.length_append]; show 1 + _ ≤ _; omega) (bad_first (stepL_free (by decide)))
  | 2, _, ht =>
    rw [← inj ht]
    show BadT (intL s.1 ++ TL.joinL [32] (intL s.2 :: (ss.map wordL ++ goneW r.2)))
    rw [tail_join]
    exact first htl (by omega) (gwx _ _ (n32 _) (n32 _) (by omega)) (stepL_free (n58b (c58 _) (c58 _)))
  | 3, _, ht =>
    rw [← inj ht]
    show BadT (intL s.1 ++ ([58, 58] ++ TL.joinL [32] (intL s.2 :: (ss.map wordL ++ goneW r.2))))
    rw [tail_join, tail_join]
    exact first htl (by omega) (gwx _ _ (n32 _) (fun z => by rcases List.mem_append.mp z with z | z; exact absurd z (by decide); exact n32 _ z) (by rw [List.length_append]; show _ + (2 + _) ≤ _; omega)) (stepL_at (q := 58 :: intL s.2) (c58 _) (.inr (readL_bad List.mem_cons_self (by decide))))
  | 4, _, ht =>
    rw [← inj ht]
    show BadT (intL s.1 ++ ([58] ++ 32 :: TL.joinL [32] (intL s.2 :: (ss.map wordL ++ goneW r.2))))
    rw [← List.append_assoc, ← join_cons2]
    exact first (gw_cons (gw_int hs.2) htl) (by rw [List.length_cons]; omega) (gwx _ _ (n32 _) (by decide) (by show _ + 1 ≤ _; omega)) (stepL_at (q := []) (c58 _) (.inr readL_nil))
  | 5, _, ht =>
    rw [← inj ht]
    show BadT (intL s.1 ++ ([45] ++ TL.joinL [32] (intL s.2 :: (ss.map wordL ++ goneW r.2))))
    rw [tail_join, tail_join]
    exact first htl (by omega) (gwx _ _ (n32 _) (fun z => by rcases List.mem_append.mp z with z | z; exact absurd z (by decide); exact n32 _ z) (by rw [List.length_append]; show _ + (1 + _) ≤ _; omega)) (stepL_free (n58b (c58 _) (n58b (by decide) (c58 _))))
  | 6, _, ht =>
    rw [← inj ht, et0]
    show BadT ([48] ++ _)
    rw [tail_join]
    refine first htl (by omega) ⟨fun z => ?_, ?_⟩ (stepL_at (p := 48 :: intL s.1) (q := intL s.2) (fun z => ?_) (.inl (readL_nought (intL_ne _))))
    · rcases List.mem_append.mp z with z | z
      · exact absurd z (by decide)
      · exact word32 s z
    · have := word_len hfr g1 (wordL s) (by rw [ew]; exact List.mem_cons_self)
      show ([48] ++ wordL s).length ≤ 640
      rw [List.length_append]
      show 1 + _ ≤ _
      omega
    · rcases List.mem_cons.mp z with z | z
      · exact absurd z (by decide)
      · exact c58 _ z
  | 7, _, ht =>
    rw [← inj ht, et0]
    show BadT ([43] ++ _)
    rw [tail_join]
    refine first htl (by omega) ⟨fun z => ?_, ?_⟩ (stepL_at (p := 43 :: intL s.1) (q := intL s.2) (fun z => ?_) (.inl (readL_bad List.mem_cons_self (by decide))))
    · rcases List.mem_append.mp z with z | z
      · exact absurd z (by decide)
      · exact word32 s z
    · have := word_len hfr g1 (wordL s) (by rw [ew]; exact List.mem_cons_self)
      show ([43] ++ wordL s).length ≤ 640
      rw [List.length_append]
      show 1 + _ ≤ _
      omega
    · rcases List.mem_cons.mp z with z | z
      · exact absurd z (by decide)
      · exact c58 _ z
  | 8, _, ht =>
    rw [← inj ht]
    exact p1 (m := [GONE]) (by simp) rfl (gw_cons (lg _ rfl) gw_nil) (by decide) (bad_last (stepL_free (by decide)) rfl)
  | 9, _, ht =>
    rw [← inj ht]
    exact p1 (m := [GONE, []]) (by simp) rfl (gw_cons (lg _ rfl) (gw_cons (lg _ rfl) gw_nil)) (by decide) (by
      have q := bad_last (r := r.1.map wordL ++ [GONE]) (y := []) (stepL_free (by decide)) readL_nil
      rw [List.append_assoc] at q
      exact q)
  | 10, _, ht =>
    rw [← inj ht]
    exact p1 (m := [GONE, lit "0x9"]) (by simp) rfl (gw_cons (lg _ rfl) (gw_cons (lg _ rfl) gw_nil)) (by decide) (by
      have q := bad_last (r := r.1.map wordL ++ [GONE]) (y := lit "0x9") (stepL_free (by decide)) rfl
      rw [List.append_assoc] at q
      exact q)
  | 11, _, ht =>
    rw [← inj ht, List.append_assoc]
    refine p1 (m := [GONE, 48 :: intL (lastOf r.1).1]) (by simp) rfl (gw_cons (lg _ rfl) (gw_cons ⟨fun z => ?_, ?_⟩ gw_nil)) (Nat.le_of_ble_eq_true rfl) ?_
    · rcases List.mem_cons.mp z with z | z
      · exact absurd z (by decide)
      · exact n32 _ z
    · rw [List.length_cons]
      have := hlast.len
      omega
    · have q := bad_last (r := r.1.map wordL ++ [GONE]) (y := 48 :: intL (lastOf r.1).1) (stepL_free (fun z => by
        rcases List.mem_cons.mp z with z | z
        · exact absurd z (by decide)
        · exact c58 _ z)) (readL_nought (intL_ne _))
      rw [List.append_assoc] at q
      exact q
  | 12, _, ht =>
    rw [← inj ht]
    exact p1 (m := [lit "Gone", lit "99"]) (by simp) rfl (gw_cons (lg _ rfl) (gw_cons (lg _ rfl) gw_nil)) (by decide) (bad_last2 (by decide) (stepL_free (by decide)))
  | 13, _, ht =>
    rw [← inj ht]
    exact p1 (m := [GONE, lit "none"]) (by simp) rfl (gw_cons (lg _ rfl) (gw_cons (lg _ rfl) gw_nil)) (by decide) (by
      have q := bad_last (r := r.1.map wordL ++ [GONE]) (y := lit "none") (stepL_free (by decide)) rfl
      rw [List.append_assoc] at q
      exact q)
  | 14, _, ht =>
    rw [← inj ht]
    exact p1 (m := [[], GONE, lit "99"]) (by simp) rfl (gw_cons (lg _ rfl) (gw_cons (lg _ rfl) (gw_cons (lg _ rfl) gw_nil))) (by decide) (bad_mid (stepL_free (by decide)))
  | 15, _, ht =>
    rw [← inj ht]
    exact first (x := []) (ws := []) gw_nil (by decide) (lg _ rfl) (stepL_free (by decide))
  | 16, _, ht =>
    rw [← inj ht]
    exact first (x := GONE) (ws := [lit "5"]) (gw_cons (lg _ rfl) gw_nil) (by decide) (lg _ rfl) (stepL_free (by decide))
  | 17, _, ht =>
    rw [← inj ht]
    exact first (x := GONE) (ws := []) gw_nil (by decide) (lg _ rfl) (stepL_free (by decide))
  | 18, _, ht =>
    rw [← inj ht]
    exact fin2 59 (by decide) (by decide)
  | 19, _, ht =>
    rw [← inj ht]
    exact fin2 10 (by decide) (by decide)
  | 20, _, ht => cases Option.some.inj ht
  | 21, _, ht => cases Option.some.inj ht
  | 22, _, ht => cases Option.some.inj ht
  | 23, _, ht =>
    rw [← inj ht]
    exact first (x := lit "none") (ws := []) gw_nil (by decide) (lg _ rfl) (stepL_free (by decide))
  | 24, _, ht =>
    rw [← inj ht]
    exact p1 (m := [GONE, lit "9", lit "9"]) (by simp) rfl (gw_cons (lg _ rfl) (gw_cons (lg _ rfl) (gw_cons (lg _ rfl) gw_nil))) (by decide) (by
      have q := bad_last2 (r := r.1.map wordL ++ [GONE]) (x := lit "9") (y := lit "9") (by decide) (stepL_free (by decide))
      rw [List.append_assoc] at q
      exact q)
  | n + 25, h, _ => exact absurd h (by omega)
end T
namespace T
open PySem PySem.Spec PyProof.Rows L2 Y SX
section
variable {P : Program} {w : World} {K : PySem.W.Frag} {mg : Str → Option Value} {base : Heap}
theorem read_good {r : RuleV} (hb : RB r) (ok : okRule r = true) : (textL r).length ≤ 90000 ∧ (TL.spl [32] 0 [] (textL r)).length ≤ 90000 ∧ (∀ w ∈ TL.spl [32] 0 [] (textL r), w.length ≤ 640) ∧ readT (textL r) = some r := by
  have hf := hb.fits
  have h32 := words32 r
  have hwl : (wordsL r).length ≤ 7 := by
    unfold wordsL
    rw [List.length_append, List.length_map]
    have := hb.l5
    have hgl : (goneW r.2).length ≤ 2 := by
      cases r.2 with
      | none => exact Nat.zero_le _
      | some _ => exact Nat.le_refl 2
    omega
  have hl := word_len hb.fr fun z e => (hb.end_ z e).one
  have hj := joinL_len (wordsL r) hl
  have e : TL.spl [32] 0 [] (textL r) = wordsL r := spl_words (wordsL_ne hb.ne) h32
  have h2 : (wordsL r).length * (130 + 1) ≤ 7 * 131 := Nat.mul_le_mul_right _ hwl
  rw [e]
  refine ⟨?_, by omega, fun w hw => Nat.le_trans (hl w hw) (by decide), ?_⟩
  · unfold textL
    omega
  · rw [readT_text hf hb.ne, if_pos ok]
theorem atI_prev {xs : List V} {k : Nat} (h : k < xs.length) : ∃ v, v ∈ xs ∧ atI xs ((k : Int) - 1) = some v := by
  by_cases h0 : k = 0
  · subst h0
    have e := atI_neg (xs := xs) (k := 1) (by decide) (by omega)
    obtain ⟨v, hv⟩ : ∃ v, xs[xs.length - 1]? = some v := ⟨_, List.getElem?_eq_getElem (by omega)⟩
    exact ⟨v, List.mem_of_getElem? hv, e.trans hv⟩
  · obtain ⟨v, hv⟩ : ∃ v, xs[k - 1]? = some v := ⟨_, List.getElem?_eq_getElem (by omega)⟩
    refine ⟨v, List.mem_of_getElem? hv, (atI_pos (by omega) (by omega)).trans ?_⟩
    rw [show ((k : Int) - 1).toNat = k - 1 by omega]
    exact hv
theorem bad_refused {H : Hp} {v : V} {t : List Nat} (e : v = .str (S t)) (h : BadT t) : Bad H v := .inr ⟨t, e, h.1, h.2.1, h.2.2.1, h.2.2.2⟩
def sp_law (K : PySem.W.Frag) : Sp := fun vs H Q _ => ∃ (a : Addr) (ns : List Int), vs = [.ref a] ∧ SqL K H a (ns.map V.int) ∧ ∀ H', Q (.bl true) H'
abbrev N_law : List Str := ["_law_script", "_law_cells", "_law_k", "_law_rows", "_law_end", "_law_text_here", "_law_made", "_law_found"]
theorem sc_law : FnScope N_law ["_law_script"] (defScope s_law) := ⟨rfl, rfl, rfl, by decide +kernel, rfl, by decide +kernel, by decide +kernel⟩
theorem ok_law (T : Top K mg) : FnY P w K mg base 8 (gA K "law") (fdOf K ("law", none)) ["_law_script"] (sp_law K) := by
  obtain ⟨ds_Rule___init___3, dv_Rule___init___3, db_Rule___init___3⟩ := t_b_Rule___init___3 T
  have sc := sc_law
  refine okY (t_d_law T) sc (fun vs H Q E h => by repeat (first | (obtain ⟨rfl, _⟩ := h; rfl) | obtain ⟨_, h⟩ := h)) (fun cdv A outer s H vs Q E B h => ⟨_, (pss_cons (ps_set (i := 1) sc.nd rfl (.inl rfl) (pe_slice sl_list (pv 0) po_none (po_some pe_int)))
      (pss_cons (ps_for B.pass rfl (pi_range1 rfl (t_b_range T) (pa_cons (pe_callB call_lenQ (by rfl) (t_b_len T) (by decide +kernel) (pa_cons (pv 1) pa_nil)) pa_nil)) (pg_name (i := 2) sc.nd rfl (.inl rfl))
        (pss_cons (ps_asg (pe_callY (ok__law_rule T) (B.room.mono (by decide)) rfl (t_g__law_rule T) (t_d__law_rule T).kp (t_b__law_rule T) .nil B.tk (pa_cons (pe_ix ix_list (pv 1) (pv 2) (fun _ _ => rfl)) pa_nil)) (pg_tup (n := 2) rfl (pgs_cons (pg_name (i := 3) sc.nd rfl (.inl rfl)) (pgs_cons (pg_name (i := 4) sc.nd rfl (.inl rfl)) pgs_nil))))
        (pss_cons (ps_set (i := 5) sc.nd rfl (.inl rfl) (pe_callY (ok__law_text T) (B.room.mono (by decide)) rfl (t_g__law_text T) (t_d__law_text T).kp (t_b__law_text T) .nil B.tk (pa_cons (pv 3) (pa_cons (pv 4) pa_nil))))
        (pss_cons (ps_set (i := 6) sc.nd rfl (.inl rfl) (pe_callY (ok_show_rule T) (B.room.mono (by decide)) rfl (t_g_show_rule T) (t_d_show_rule T).kp (t_b_show_rule T) .nil B.tk (pa_cons (pe_makeY (t_mk_Rule T) (ok_Rule___init__ T) (B.room.mono (by decide)) rfl (t_g_Rule T) db_Rule___init___3 dv_Rule___init___3 B.tk (pa_cons (pe_callTy call_lstOf (by rfl) (t_b_list T) (by decide +kernel) (pa_cons (pv 3) pa_nil)) (pa_cons (pv 4) pa_nil))) pa_nil)))
        (pss_cons (ps_if (PW.pt (pw_or (pt_not (pt_val (pe_callB call_isi (by rfl) (t_b_isinstance T) (by decide +kernel) (pa_cons (pv 6) (pa_cons (pe_bltn (v := .ty "str") rfl (t_b_str T) (by decide +kernel) rfl) pa_nil))))) (pw_or1 (pt_cmpR op_ne (pv 6) (pv 5) (nomark _)))))
          (pss_one (ps_ret pe_bl))
          pss_nil)
        (pss_cons (ps_set (i := 7) sc.nd rfl (.inl rfl) (pe_callY (ok_read_rule T) (B.room.mono (by decide)) rfl (t_g_read_rule T) (t_d_read_rule T).kp (t_b_read_rule T) .nil B.tk (pa_cons (pv 5) pa_nil)))
        (pss_cons (ps_if (PW.pt (pw_or (pt_not (pt_val (pe_callB (call_isCn (t_isi_Rule T)) (by rfl) (t_b_isinstance T) (by decide +kernel) (pa_cons (pv 7) (pa_cons (pe_glob (v := .ref (gA K "Rule")) rfl (t_g_Rule T) rfl) pa_nil))))) (pw_or (pt_cmpR (op_neD B.room.units) (pe_methY0 (pv 7) (t_c_Rule T) (t_m_Rule_steps T) (ok_Rule_steps T) (B.room.mono (by decide)) (t_b_Rule_steps T) .nil B.tk) (pv 3) (nomark _)) (pw_or1 (pt_cmpR op_ne (pe_methY0 (pv 7) (t_c_Rule T) (t_m_Rule_gone T) (ok_Rule_gone T) (B.room.mono (by decide)) (t_b_Rule_gone T) .nil B.tk) (pv 4) (nomark _))))))
          (pss_one (ps_ret pe_bl))
          pss_nil)
        (pss_cons (ps_if (pt_not (pt_val (pe_callY (ok__law_refused T) (B.room.mono (by decide)) rfl (t_g__law_refused T) (t_d__law_refused T).kp (t_b__law_refused T) .nil B.tk (pa_cons (pe_callY (ok__law_spoilt T) (B.room.mono (by decide)) rfl (t_g__law_spoilt T) (t_d__law_spoilt T).kp (t_b__law_spoilt T) .nil B.tk (pa_cons (pv 5) (pa_cons (pv 3) (pa_cons (pe_op op_fdiv (pe_ix ix_list (pv 1) (pe_op op_sub (pv 2) pe_int) (fun _ _ => rfl)) pe_int) pa_nil)))) pa_nil))))
          (pss_one (ps_ret pe_bl))
          pss_nil)
        (pss_one (ps_if (pt_not (pt_val (pe_callY (ok__law_refused T) (B.room.mono (by decide)) rfl (t_g__law_refused T) (t_d__law_refused T).kp (t_b__law_refused T) .nil B.tk (pa_cons (pe_callY (ok__law_no_rule T) (B.room.mono (by decide)) rfl (t_g__law_no_rule T) (t_d__law_no_rule T).kp (t_b__law_no_rule T) .nil B.tk (pa_cons (pv 3) (pa_cons (pv 4) (pa_cons (pe_op op_fdiv (pe_ix ix_list (pv 1) (pe_op op_sub (pv 2) pe_int) (fun _ _ => rfl)) pe_int) pa_nil)))) pa_nil))))
          (pss_one (ps_ret pe_bl))
          pss_nil))))))))))
      (pss_one (ps_ret (pe_cmpR op_isN1 (pe_methY0 (pe_callY (ok_read_rule T) (B.room.mono (by decide)) rfl (t_g_read_rule T) (t_d_read_rule T).kp (t_b_read_rule T) .nil B.tk (pa_cons pe_str pa_nil)) (t_c_Rule T) (t_m_Rule_gone T) (ok_Rule_gone T) (B.room.mono (by decide)) (t_b_Rule_gone T) .nil B.tk) pe_non (nomark _)))))), ?_⟩)
  obtain ⟨a, ns, rfl, ha, hQ⟩ := h
  repeat walk_at "s"
  refine r_slA ha fun p H1 e1 np hp => ?_
  have ecut : cutV (ns.map V.int) none (some 20) = (ns.take 20).map V.int := by
    have e2 := HT.sIx_nat (ns.map V.int).length (ns.map V.int).length 20
    have e3 : HT.sIx (ns.map V.int).length 0 none = 0 := rfl
    unfold cutV
    rw [e3, show (some 20 : Option Int) = some ((20 : Nat) : Int) from rfl, e2, List.drop_zero, Nat.sub_zero, List.length_map, List.map_take]
    rcases Nat.le_total 20 ns.length with h | h
    · rw [Nat.min_eq_left h]
    · rw [Nat.min_eq_right h, List.take_of_length_le (by rw [List.length_map]; exact Nat.le_refl _), List.take_of_length_le (by rw [List.length_map]; exact h)]
  rw [ecut] at hp
  generalize hcs : ns.take 20 = cs at hp
  have hcl : cs.length ≤ 20 := by rw [← hcs, List.length_take]; omega
  repeat walk_at "s"
  refine r_lenL (sqL hp) ?_
  repeat walk_at "s"
  refine for_rng (n := cs.length) (Nat.lt_of_le_of_lt hcl (by decide)) (fun i σ' H' => ∃ o1 o2 o3 o4 o5 o6, σ' = [some (.ref a), some (.ref p), o1, o2, o3, o4, o5, o6] ∧ Ex H1 H') ⟨_, _, _, _, _, _, rfl, Ex.refl _⟩ ?_ ?_ (by rw [List.length_map])
  · rintro i σ' H2 hi ⟨o1, o2, o3, o4, o5, o6, rfl, e2⟩
    obtain ⟨n, hn⟩ : ∃ n, cs[i]? = some n := ⟨_, List.getElem?_eq_getElem hi⟩
    have hni : (cs.map V.int)[i]? = some (.int n) := by rw [List.getElem?_map, hn]; rfl
    have hlm : (cs.map V.int).length = cs.length := List.length_map _
    have hi2 : i < (cs.map V.int).length := by rw [hlm]; exact hi
    repeat walk_at "s"
    refine r_ixL (v := .int n) (sqL (e2 _ _ hp)) ((atI_pos (by omega) (by omega)).trans (by rw [Int.toNat_natCast]; exact hni)) ?_
    repeat walk_at "s"
    refine ⟨n, rfl, fun v H3 e3 hv => ?_⟩
    have hb := ruleOf_RB n
    have ok := ruleOf_ok n
    generalize ruleOf n = r at hv hb ok
    obtain ⟨t, x, y, rfl, ht, hx, hy⟩ := hv
    refine w_gtup (sqT ht) rfl ?_
    repeat walk_at "s"
    refine ⟨x, y, r, rfl, hx, hy, hb.fits, fun H4 e4 => ?_⟩
    obtain ⟨p1, xs, rfl, hp1, hxs⟩ := hx
    repeat walk_at "s"
    refine r_lstA (sqL (e4 _ _ hp1)) fun p2 H5 e5 np2 hp2 => ?_
    have e35 := e4.trans e5
    repeat walk_at "s"
    intro xA dxA hx0 hd0 hne
    have eA : Ex H5 (upd (upd H5 dxA (.own xA)) xA (.ins (gA K "Rule") dxA [])) := (Ex.new hd0).trans (Ex.new (by rw [upd_ne hne.symm]; exact hx0))
    refine ⟨xA, dxA, H5, .ref p2, y, r, rfl, eA, hx0, upd_same, rp_list hp2 (hxs.ex e35), Rp.mono e35 hy, Nat.le_trans hb.l5 (by decide), fun _ H6 e6 hr6 => ⟨rfl, ?_⟩, fun z => by rw [ok] at z; cases z⟩
    repeat walk_at "s"
    refine ⟨_, r, rfl, hr6, hb.fits, fun H7 e7 => ?_⟩
    repeat walk_at "s"
    refine w_isi (.ty "str") (.base (.str _)) (b := true) (by rfl) ?_
    repeat walk_at "s"
    refine ite2 (fun c => absurd c (by decide)) (fun _ => ?_)
    repeat walk_at "s"
    refine ite2 (fun c => ?_) (fun _ => ?_)
    · rw [decide_eq_true rfl] at c
      exact absurd c (by decide)
    repeat walk_at "s"
    obtain ⟨g1, g2, g3, g4⟩ := read_good hb ok
    refine ⟨_, rfl, .inl ⟨textL r, rfl, g1, g2, g3, fun v H8 r' e8 hr8 er => ?_, fun z => by rw [g4] at z; cases z⟩⟩
    have er2 : r = r' := by rw [g4] at er; exact Option.some.inj er
    subst er2
    have hr8' := hr8
    obtain ⟨aR, dR, rowR, gR, rfl, haR, hrowR, hgR⟩ := hr8
    repeat walk_at "s"
    refine r_isC haR ?_
    repeat walk_at "s"
    refine ite2 (fun c => absurd c (by decide)) (fun _ => ?_)
    repeat walk_at "s"
    refine ⟨aR, dR, _, rfl, haR, rfl, ?_⟩
    repeat walk_at "s"
    refine ⟨_, r, rfl, hr8', fun v9 H9 e9 hv9 => ?_⟩
    have e39 := ((((e35.trans e6).trans e7).trans e8).trans e9)
    repeat walk_at "s"
    refine r_neDt (a := r.1) (b := r.1) (by decide) hv9 (rp_list (e39 _ _ hp1) (hxs.ex e39)) ?_
    repeat walk_at "s"
    refine ite2 (fun c => ?_) (fun _ => ?_)
    · rw [decide_eq_true rfl] at c
      exact absurd c (by decide)
    repeat walk_at "s"
    refine ⟨aR, dR, _, rfl, e9 _ _ haR, rfl, ?_⟩
    repeat walk_at "s"
    refine ⟨_, r, rfl, hr8'.mono e9, fun v10 hv10 => ?_⟩
    repeat walk_at "s"
    refine r_neO (H' := H9) (a := r.2) (b := r.2) hv10 (Rp.mono e39 hy) ?_
    repeat walk_at "s"
    refine ite2 (fun c => ?_) (fun _ => ?_)
    · rw [decide_eq_true rfl] at c
      exact absurd c (by decide)
    repeat walk_at "s"
    obtain ⟨vp, hvp, hvp2⟩ := atI_prev hi2
    obtain ⟨m, _, rfl⟩ := List.mem_map.mp hvp
    have e29 : Ex H1 H9 := (e2.trans e3).trans e39
    refine r_ixL (v := .int m) (sqL (e29 _ _ hp)) hvp2 ?_
    repeat walk_at "s"
    obtain ⟨s0, ss, er⟩ : ∃ s ss, r.1 = s :: ss := by
      cases hq : r.1 with
      | nil => exact absurd hq hb.ne
      | cons s ss => exact ⟨s, ss, rfl⟩
    have ej := join_words (r := r) er
    refine ⟨intL s0.1, TL.joinL [32] (intL s0.2 :: (ss.map wordL ++ goneW r.2)), _, r.1, m / 3, by rw [ej]; rfl, not58 _, by rw [← ej]; exact Nat.le_trans g1 (by decide), rp_list (e39 _ _ hp1) (hxs.ex e39), FR.fits hb.fr (Nat.le_trans hb.l5 (by decide)) (fun z e => by cases e), hb.ne, fun v11 HA eA2 hv11 => ?_⟩
    rw [← ej] at hv11
    repeat walk_at "s"
    refine ⟨v11, rfl, ?_, fun HB eB => ?_⟩
    · have hlt : (m / 3 % 25).toNat < 25 := by omega
      obtain ⟨o, ho⟩ : ∃ o, (spoiltL (textL r) (intL s0.1) (TL.joinL [32] (intL s0.2 :: (ss.map wordL ++ goneW r.2))) r.1)[(m / 3 % 25).toNat]? = some o := ⟨_, List.getElem?_eq_getElem hlt⟩
      rw [List.getD_eq_getElem?_getD, ho] at hv11
      cases o with
      | none => exact .inl hv11
      | some t => exact bad_refused hv11 (spoilt_bad hb er _ hlt t ho)
    repeat walk_at "s"
    refine ite2 (fun c => absurd c (by decide)) (fun _ => ?_)
    repeat walk_at "s"
    have e2B : Ex H1 HB := (e29.trans eA2).trans eB
    have e3B : Ex H3 HB := (e39.trans eA2).trans eB
    refine r_ixL (v := .int m) (sqL (e2B _ _ hp)) hvp2 ?_
    repeat walk_at "s"
    refine ⟨_, _, r, m / 5, rfl, rp_list (e3B _ _ hp1) (hxs.ex e3B), Rp.mono e3B hy, hb, fun HC eC => ?_⟩
    repeat walk_at "s"
    refine ⟨_, rfl, bad_refused rfl (noRule_bad hb ok _), fun HD eD => ?_⟩
    repeat walk_at "s"
    refine ite2 (fun c => absurd c (by decide)) (fun _ => ?_)
    repeat walk_at "s"
    exact ⟨_, _, _, _, _, _, rfl, ((e2B.trans eC).trans eD)⟩
  · rintro σ' H2 ⟨o1, o2, o3, o4, o5, o6, rfl, e2⟩
    repeat walk_at "s"
    have hf : fitsR ([((0 : Int), (1 : Int))], none) := ⟨by decide, fun s hs => by rw [List.mem_singleton.mp hs]; exact ⟨by show (0 : Nat) < _; decide +kernel, by show (1 : Nat) < _; decide +kernel⟩, fun g e => by cases e⟩
    have et : textL ([((0 : Int), (1 : Int))], none) = lit "0:1" := by decide +kernel
    have es : TL.spl [32] 0 [] (lit "0:1") = [lit "0:1"] := by decide +kernel
    have er := readT_text hf (by simp)
    rw [et, if_pos (by decide)] at er
    refine ⟨_, rfl, .inl ⟨lit "0:1", litS "0:1", by decide, by rw [es]; decide, by rw [es]; intro w hw; rw [List.mem_singleton.mp hw]; decide, fun v H8 r' e8 hr8 er' => ?_, fun z => by rw [er] at z; cases z⟩⟩
    have er2 : ([((0 : Int), (1 : Int))], none) = r' := by rw [er] at er'; exact Option.some.inj er'
    subst er2
    have hr8' := hr8
    obtain ⟨aR, dR, rowR, gR, rfl, haR, hrowR, hgR⟩ := hr8
    repeat walk_at "s"
    refine ⟨aR, dR, _, rfl, haR, rfl, ?_⟩
    repeat walk_at "s"
    refine ⟨_, _, rfl, hr8', fun v10 hv10 => ?_⟩
    repeat walk_at "s"
    refine r_isN (b := true) (isN_opt (a := none) hv10) ?_
    exact hQ _
end
end T
namespace T
open PySem PySem.Spec PyProof.Rows L2 Y
theorem law_is {K : PySem.W.Frag} (H : Hp) (a : Addr) (ns : List Int) (_ : ns.length ≤ 63) (hS : SqL K H a (ns.map V.int)) : sp_law K [.ref a] H (fun v _ => v = .bl true) fun _ _ _ => False := ⟨a, ns, rfl, hS, fun _ => rfl⟩
end T
namespace T
open PySem PySem.Spec PyProof.Rows L2 Y
theorem told (P : Program) (w : World) {K : PySem.W.Frag} {mg : Str → Option Value} (t : Top K mg) : (∀ (s : Shared) (u : Value), BindsTo s (fdOf K ("law", none)) ⟨[u], []⟩ [("_law_script", u)]) ∧ ∀ base : Heap, K.In base → base.Ns mainGlobals mg → FnY P w K mg base 8 (gA K "law") (fdOf K ("law", none)) ["_law_script"] (sp_law K) := by
  have b := FunD.bindsA (ps := ["_law_script"]) (t_d_law t) fun _ _ _ _ _ _ us hl => match us, hl with | [_], _ => rfl
  exact ⟨fun s u => b s [u] rfl, fun base _ _ => ok_law t⟩
end T
open PySem PySem.W PySem.Calls PyProof.Rows
theorem PySem.Challenge.cw_thinbook_k82_rules_written_holds : PySem.Challenge.rw_thinbook_k82_rules_written.Holds := by
  w_on; o_law
  have top := HandSHeadRun.head_any (r := OpenLaw.row PySem.Challenge.rw_thinbook_k82_rules_written) (q := view (OpenLaw.row PySem.Challenge.rw_thinbook_k82_rules_written).prog [26]) (H := T.hk) (ob := T.ob) (M := 2000) (loose := T.loose) (d := HandSHeadRun.topDef (OpenLaw.row PySem.Challenge.rw_thinbook_k82_rules_written).prog 26) (kwd := []) T.ob_eq
  refine top (by kernel_rfl) (fun s => by kernel_rfl) T.run (by kernel_rfl) (by kernel_rfl) (by kernel_rfl) (by rfl) (by first | assumption | decide +kernel) (by decide +kernel) ⟨rfl, rfl, rfl, rfl, rfl, by decide +kernel⟩ ?wit ?go
  case wit => w_witness2
  case go =>
    refine Y.walkY (l := PySem.Challenge.rw_thinbook_k82_rules_written) (n := 63) (k := 8) (x := "_law_script") rfl (by decide) (by kernel_rfl) ⟨rfl, by decide, by decide⟩ fun w mg fa h yp G m0 => ?_
    obtain ⟨K, KX, c⟩ := yp
    have en : (HandSHeadRun.topDef (OpenLaw.row PySem.Challenge.rw_thinbook_k82_rules_written).prog 26).name = ("law" : PySem.Str) := by kernel_rfl
    have tp : T.Top K mg := ⟨c, h, KX, G⟩
    have ea : some (Value.ref fa) = some (Value.ref (Y.gA K "law")) := by
      rw [← T.t_g_law tp, ← m0, en]
    have ef : fa = Y.gA K "law" := by
      injection ea with z
      injection z
    subst ef
    obtain ⟨hb, hF⟩ := T.told PySem.Challenge.rw_thinbook_k82_rules_written.prog w tp
    exact ⟨K, _, T.sp_law K, KX, hb, fun H a ns hl hS => T.law_is H a ns hl hS, hF⟩
