import PyProof.Rows.All
import Wide.All
import OpenK.AllK
import Wide.FinOn
import HandS.ForMost
import HandS.GenCall
import HandS.GenList
import PyProof.ReprLen
import HandS.Star
import HandS.Small
import HandS.Style
import HandS.Defaults
import HandS.Deep
import HandS.Wide
import KE.KUnpackStar
import HandS.Conv
import HandS.NoneIn
import PySem.Challenge.RW_orderless_k51_whole_schedules
section
set_option Elab.async false
set_option linter.all false
set_option maxRecDepth 100000
namespace Ork
open PySem

/-- a yield of «yield from» over a generator: the machine marks nothing for it while no object is registered -/
def soft (s : Shared) (t : Thread) : Bool :=
  match t.cur, t.code with
  | .yield _ _ _ _, .builtin "proto.yield_from" ⟨.ref a :: _, _⟩ =>
    (match s.heap.get? a with
      | some o => o.genNumber?.isSome
      | none => false) &&
    (match splitAtGen t.stack with
      | some (fs, _, _) => !fs.any Frame.guarded
      | none => false)
  | _, _ => false

theorem soft_shape {s : Shared} {t : Thread} (h : soft s t = true) : ∃ v g l k a r kw p st o n fs b rest,
    t = ⟨.yield v g l k, .builtin "proto.yield_from" ⟨.ref a :: r, kw⟩, p, st⟩ ∧ s.heap.get? a = some o ∧ o.genNumber? = some n ∧
    splitAtGen st = some (fs, b, rest) ∧ fs.any Frame.guarded = false := by
  obtain ⟨cur, code, pos, st⟩ := t
  unfold soft at h
  split at h
  · rename_i x v g l k a r kw hc hd
    dsimp only at hc hd
    subst hc hd
    dsimp only at h
    obtain ⟨h1, h2⟩ := Bool.and_eq_true_iff.mp h
    cases ho : s.heap.get? a with
    | none => rw [ho] at h1; cases h1
    | some o =>
      rw [ho] at h1
      cases hs : splitAtGen st with
      | none => rw [hs] at h2; cases h2
      | some y =>
        obtain ⟨fs, b, rest⟩ := y
        rw [hs] at h2
        obtain ⟨n, hn⟩ := Option.isSome_iff_exists.mp h1
        exact ⟨v, g, l, k, a, r, kw, pos, st, o, n, fs, b, rest, rfl, ho, hn, hs, by simpa using h2⟩
  · cases h

section
variable (den : Code → Sem Fin) (prog : PySem.Program) (w : PySem.World)

theorem life_soft (others : List Value) (s : Shared) (t : Thread) (h : soft s t = true) (hz : s.asleep) :
    lifeStep den prog w others s t = step den prog w s t := by
  obtain ⟨v, g, l, k, a, r, kw, p, st, o, n, fs, b, rest, rfl, ho, hn, hs, hg⟩ := soft_shape h
  obtain ⟨hr, hc⟩ := hz
  have hshow : closingShows s fs (.builtin "proto.yield_from" ⟨.ref a :: r, kw⟩) g = false := by
    have hd : delegateShows s (.ref a) = false := by
      unfold delegateShows
      simp only [ho, hn, hr]
      rfl
    show (fs.any Frame.guarded || (g && delegateShows s (.ref a))) = false
    rw [hg, hd]
    cases g <;> rfl
  have hcount : ∀ x : Thread, stepCounting den prog w s x = step den prog w s x := fun x => by
    unfold stepCounting
    rw [hc]
    rfl
  unfold lifeStep
  by_cases hsp : Thread.special ⟨.yield v g l k, .builtin "proto.yield_from" ⟨.ref a :: r, kw⟩, p, st⟩ = true
  · rw [if_pos hsp]
    have hct : collectorTurn? w.params others s ⟨.yield v g l k, .builtin "proto.yield_from" ⟨.ref a :: r, kw⟩, p, st⟩ = none := rfl
    simp only [hct, hs, hshow, Thread.atItsEnd]
    simp [hcount]
  · rw [if_neg hsp]
    exact hcount _

theorem pick_soft (s : Shared) (t : Thread) (h : soft s t = true) (hr : s.heap.life.registered = []) :
    (Config.single s t).pick w = .ok (.run 0, Config.single s t) := by
  obtain ⟨v, g, l, k, a, r, kw, p, st, o, n, fs, b, rest, rfl, ho, hn, hs, hg⟩ := soft_shape h
  have h1 : (Config.single s ⟨.yield v g l k, .builtin "proto.yield_from" ⟨.ref a :: r, kw⟩, p, st⟩).collect? w.params = none := by
    simp [Config.collect?, Config.single, (nothing_to_collect _ _ _ s _ hr).1]
  have h2 : (Config.single s ⟨.yield v g l k, .builtin "proto.yield_from" ⟨.ref a :: r, kw⟩, p, st⟩).collectable = [] := by
    simp [Config.collectable, Config.single, (nothing_to_collect w.params _ _ s _ hr).2]
  have h3 : (Config.single s ⟨.yield v g l k, .builtin "proto.yield_from" ⟨.ref a :: r, kw⟩, p, st⟩).moves w.params.profile = [.run 0] := by
    simp [Config.moves, Config.single, movesFrom, Thread.moves]
  simp only [Config.pick, h1, h2, Config.pickThread, h3]
  rcases w.params.lifetimes <;> simp

theorem run_soft (s : Shared) (t : Thread) (h : soft s t = true) (hz : s.asleep) :
    (Config.single s t).run den prog w 0 = Step.lift (step den prog w s t) := by
  have hl := fun others => life_soft den prog w others s t h hz
  obtain ⟨v, g, l, k, a, r, kw, p, st, o, n, fs, b, rest, rfl, ho, hn, hs, hg⟩ := soft_shape h
  generalize hT : (⟨.yield v g l k, .builtin "proto.yield_from" ⟨.ref a :: r, kw⟩, p, st⟩ : Thread) = T at hl
  have hcur : T.cur = .yield v g l k := by rw [← hT]
  have hfin : T.finalizes = false := by rw [← hT]; rfl
  unfold Config.run Config.single
  dsimp only
  have e0 : (#[ThreadState.live T] : Array ThreadState)[0]? = some (.live T) := rfl
  rw [e0, entering_same]
  dsimp only
  rw [hcur]
  dsimp only
  rw [if_pos rfl]
  dsimp only
  have e1 : (if T.special = true then Config.others ⟨s, #[.live T], 0⟩ 0 else some []) = some [] := by
    rw [others_single s T 0]; exact ite_self _
  rw [e1]
  dsimp only
  rw [hfin, hl]
  cases step den prog w s T with
  | go s' t' => simp [Step.lift, Config.single]
  | halt o s' => simp [Step.lift]

theorem sstep_soft (s : Shared) (t : Thread) (h : soft s t = true) (hz : s.asleep) :
    sstep den prog w (.single s t) = (step den prog w s t).lift := by
  unfold sstep
  rw [pick_soft w s t h hz.1]
  exact run_soft den prog w s t h hz
end
end Ork
end
section
set_option Elab.async false
set_option linter.all false
set_option maxRecDepth 100000
namespace Ork
open PySem

/-- the machine comes, over calm and soft states, to one of which Φ holds -/
inductive Go (M : Model) (Φ : Shared → Thread → Prop) : Shared → Thread → Prop
  | here {s t} : Φ s t → Go M Φ s t
  | step {s t s' t'} : (t.loud = false ∨ soft s t = true) → stepK M.den M.prog M.w s t = .go s' t' → Go M Φ s' t' → Go M Φ s t

variable {M : Model} {Φ : Shared → Thread → Prop}

theorem Go.ofStep {s t s' t'} (h : M.step s t = .go s' t') (g : Go M Φ s' t') : Go M Φ s t := by
  have h' : stepI M.den M.prog M.w s t = .go s' t' := h
  unfold stepI at h'
  cases hl : t.loud with
  | true => rw [hl] at h'; cases h'
  | false =>
    rw [hl] at h'
    exact .step (.inl hl) h' g

theorem Go.mono {Ψ : Shared → Thread → Prop} {s t} (h : Go M Φ s t) (f : ∀ s t, Φ s t → Ψ s t) : Go M Ψ s t := by
  induction h with
  | here h => exact .here (f _ _ h)
  | step a b _ ih => exact .step a b ih

theorem Go.trans {s t} (h : Go M (fun s t => Go M Φ s t) s t) : Go M Φ s t := by
  induction h with
  | here h => exact h
  | step a b _ ih => exact .step a b ih

theorem soft_forget (s : Shared) (t : Thread) : soft s.forget t.forget = soft s t := by
  obtain ⟨cur, code, pos, st⟩ := t
  unfold soft
  simp only [Thread.forget, Shared.forget, splitAtGen_forgetAll]
  cases splitAtGen st with
  | none => rfl
  | some x =>
    obtain ⟨fs, b, rest⟩ := x
    simp only [Option.map_some, any_guarded_forgetAll]

theorem soft_same {s₁ s₂ : Shared} {t₁ t₂ : Thread} (hs : s₁.forget = s₂.forget) (ht : t₁.forget = t₂.forget) : soft s₁ t₁ = soft s₂ t₂ := by
  rw [← soft_forget s₁ t₁, ← soft_forget s₂ t₂, hs, ht]

theorem calm_same {t₁ t₂ : Thread} (ht : t₁.forget = t₂.forget) : t₁.calm = t₂.calm := by
  rw [← Thread.calm_forget t₁, ← Thread.calm_forget t₂, ht]

theorem go_sched {s : Shared} {t : Thread} (h : Go M Φ s t) : ∀ (sr : Shared) (tr : Thread), sr.forget = s.forget → tr.forget = t.forget → sr.asleep →
    ∃ n s' t' sr' tr', schedN M.den M.prog M.w n (.single sr tr) = .running (.single sr' tr') ∧ sr'.forget = s'.forget ∧ tr'.forget = t'.forget ∧
      sr'.heap.life = sr.heap.life ∧ Φ s' t' := by
  induction h with
  | here h => exact fun sr tr hs ht hz => ⟨0, _, _, sr, tr, rfl, hs, ht, rfl, h⟩
  | @step s t s' t' hm hk _ ih =>
    intro sr tr hs ht hz
    have e : (step M.den M.prog M.w sr tr).forget = (Step.go s' t').forget := by
      rw [step_same M.den M.prog M.w hs ht, ← stepK_forget, hk]
    cases hr : step M.den M.prog M.w sr tr with
    | halt o x => rw [hr] at e; cases e
    | go sr' tr' =>
      rw [hr] at e
      injection e with e1 e2
      have hl := step_life M.den M.prog M.w sr sr' tr tr' hr
      have es : sstep M.den M.prog M.w (.single sr tr) = .go (.single sr' tr') := by
        rcases hm with hq | hq
        · have hc : t.calm = true := by
            rw [Thread.calm_eq, hq]
            cases hf : t.refused with
            | false => rfl
            | true =>
              obtain ⟨what, z⟩ := stepK_refused M.den M.prog M.w (s := s) hf
              rw [z] at hk; cases hk
          have hc' : tr.calm = true := by rw [calm_same ht]; exact hc
          rcases sstep_single M.den M.prog M.w sr tr hc' hz with z | z
          · rw [z, hr]; rfl
          · rw [hr] at z; cases z
        · rw [sstep_soft M.den M.prog M.w sr tr (by rw [soft_same hs ht]; exact hq) hz, hr]; rfl
      obtain ⟨n, s2, t2, sr2, tr2, h1, h2, h3, h4, h5⟩ := ih sr' tr' e1 e2 (Shared.asleep_of_life hl hz)
      exact ⟨n + 1, s2, t2, sr2, tr2, by simp only [schedN, es]; exact h1, h2, h3, h4.trans hl, h5⟩

/-- the end of a run: a leaf over no frame, nothing left to be closed -/
def AtEnd (R : Result → Shared → Prop) (s : Shared) (t : Thread) : Prop :=
  ∃ r, t.cur = leafOf r ∧ t.stack = [] ∧ leftWithCleanup s.gens = false ∧ R r s

theorem go_halts {R : Result → Shared → Prop} {s : Shared} {t : Thread} (h : Go M (AtEnd R) s t) (hz : s.asleep) :
    ∃ n r s' s'', schedN M.den M.prog M.w n (.single s t) = .halted (outcomeOf r) s'' ∧ s''.forget = s'.forget ∧ s''.heap.life = s.heap.life ∧ R r s' := by
  obtain ⟨n, s', t', sr, tr, h1, h2, h3, h4, r, hc, hst, hl, hR⟩ := go_sched h s t rfl rfl hz
  obtain ⟨cur', code', pos', st'⟩ := t'
  obtain ⟨cur, code, pos, st⟩ := tr
  simp only [Thread.forget, Thread.mk.injEq] at h3
  obtain ⟨rfl, _, _, e4⟩ := h3
  dsimp only at hc hst
  subst hst
  have est : st = [] := by
    cases st with
    | nil => rfl
    | cons F r => cases e4
  subst est
  subst hc
  have hlr : leftWithCleanup sr.gens = false := by rw [leftWithCleanup_of_forget_eq h2]; exact hl
  refine ⟨n + 1, r, s', sr, ?_, h2, h4, hR⟩
  have hz' : sr.asleep := Shared.asleep_of_life h4 hz
  have hcalm : Thread.calm ⟨leafOf r, code, pos, []⟩ = true := by cases r <;> rfl
  have hstep : step M.den M.prog M.w sr ⟨leafOf r, code, pos, []⟩ = .halt (outcomeOf r) sr := by
    cases r <;> simp [leafOf, step, finish, hlr, outcomeOf]
  have es : sstep M.den M.prog M.w (.single sr ⟨leafOf r, code, pos, []⟩) = .halt (outcomeOf r) sr := by
    rcases sstep_single M.den M.prog M.w sr _ hcalm hz' with z | z
    · rw [z, hstep]; rfl
    · rw [hstep] at z; cases r <;> cases z
  have snoc : ∀ (n : Nat) (c c' : Config), schedN M.den M.prog M.w n c = .running c' → schedN M.den M.prog M.w (n + 1) c = match sstep M.den M.prog M.w c' with | .go c2 => .running c2 | .halt o s => .halted o s := by
    intro n
    induction n with
    | zero =>
      intro c c' hc
      have hc' : SRun.running c = .running c' := hc
      injection hc' with hc'
      subst hc'
      simp only [schedN]
      cases sstep M.den M.prog M.w c <;> rfl
    | succ n ih =>
      intro c c' hc
      simp only [schedN] at hc
      rw [show schedN M.den M.prog M.w (n + 1 + 1) c = (match sstep M.den M.prog M.w c with | .go c2 => schedN M.den M.prog M.w (n + 1) c2 | .halt o s => .halted o s) from rfl]
      cases hs : sstep M.den M.prog M.w c with
      | halt o s => rw [hs] at hc; cases hc
      | go c2 => rw [hs] at hc; exact ih c2 c' hc
  rw [snoc n _ _ h1, es]
end Ork
end
section
set_option Elab.async false
set_option linter.all false
set_option maxRecDepth 100000
namespace Ork
open PySem
open Sem (wp)
variable {M : Model} {Φ : Shared → Thread → Prop}

theorem Go.ofReach {base : List Frame} {s t c p pre s' e} (h : Reach M base s t c p pre s' e)
    (k : ∀ t' c' p' pre', Exits e t' c' p' pre' → Go M Φ s' ⟨t', c', p', pre' ++ base⟩) : Go M Φ s ⟨t, c, p, pre ++ base⟩ := by
  induction h with
  | exit hx => exact k _ _ _ _ hx
  | step hs _ ih => exact Go.ofStep hs (ih k)

/-- a big step that returns, over any stack that fits -/
theorem Go.ofRuns {Γ : Ctx} {p : Pos} {t : Sem PySem.Fin} {s s' : Shared} {r : Result} {st : List Frame} (h : Runs M Γ p t [] s (.ret r) s') (hf : Γ.Fits st)
    (k : ∀ c' p', Go M Φ s' ⟨leafOf r, c', p', st⟩) : Go M Φ s ⟨t, Γ.code, p, st⟩ := by
  have z := runs_reach h st hf
  refine Go.ofReach (pre := []) z ?_
  rintro _ c' p' _ ⟨rfl, rfl⟩
  exact k c' p'

/-- a generator's frame on top: what it comes to -/
theorem Go.ofWake {Γ : Ctx} {p p₀ : Pos} {c₀ : Code} {t : Sem PySem.Fin} {fs st : List Frame} {s s₁ : Shared} {e₁ : End} {g : Nat} {k : GenResult → Sem PySem.Fin} {l : List Value}
    (h : Runs M (Γ.wake c₀ p) p₀ t fs s e₁ s₁) (hq : e₁.quiet = true) (hf : Γ.Fits st) (kk : Go M Φ (s₁.setGen g e₁.genState) ⟨k e₁.result, Γ.code, p, st⟩) :
    Go M Φ s ⟨t, c₀, p₀, fs ++ .gen g k l Γ.code p :: st⟩ := by
  have z := runs_reach h (.gen g k l Γ.code p :: st) (hf.wake c₀ g k l p)
  refine Go.ofReach z ?_
  intro t' c' p' pre' hx
  exact Go.ofStep (step_exit_gen s₁ g k l Γ.code p st hx hq) kk

theorem go_wrap {α : Type} {Γ : Ctx} {st : List Frame} (hf : Γ.Fits st) (K : α → Sem PySem.Fin) (H : Value → Sem PySem.Fin) (gd lv) (m : Sem α) :
    ∀ {Q : α → Pos → Shared → Prop} {E : Value → Pos → Shared → Prop} {p : Pos} {s : Shared}, wp M Γ m Q E p s →
      (∀ a p' s', Q a p' s' → Go M Φ s' ⟨K a, Γ.code, p', st⟩) →
      (∀ x p' s', E x p' s' → Go M Φ s' ⟨H x, Γ.code, p', st⟩) → Go M Φ s ⟨m.wrap K H gd lv, Γ.code, p, st⟩ := by
  induction m with
  | pure a => intro Q E p s h onQ _; exact onQ _ _ _ h
  | raise x => intro Q E p s h _ onE; exact onE _ _ _ h
  | unsupported _ => intro Q E p s no; exact no.elim
  | finish _ => intro Q E p s no; exact no.elim
  | register _ _ => intro Q E p s h; exact h.elim
  | yield _ _ _ _ => intro Q E p s h; exact h.elim
  | fork _ _ => intro Q E p s h; exact h.elim
  | await _ _ _ _ _ => intro Q E p s h; exact h.elim
  | rule tag k ih => intro Q E p s h hQ hE; exact Go.ofStep (step_rule ..) (ih () h hQ hE)
  | «at» p' k ih => intro Q E p s h hQ hE; exact Go.ofStep (step_at ..) (ih () h hQ hE)
  | load a part k ih =>
    intro Q E p s h hQ hE
    obtain ⟨o, ho, h⟩ := h
    exact Go.ofStep (step_load M s _ _ _ part _ ho) (ih o h hQ hE)
  | update a part f k ih =>
    intro Q E p s h hQ hE
    obtain ⟨ha, h⟩ := h
    exact Go.ofStep (step_update M s _ _ _ part f _ ha) (ih () h hQ hE)
  | alloc o k ih => intro Q E p s h hQ hE; exact Go.ofStep (step_alloc ..) (ih _ h hQ hE)
  | loadIfAlive a k ih => intro Q E p s h hQ hE; exact Go.ofStep (step_loadIfAlive ..) (ih _ h hQ hE)
  | point l k ih => intro Q E p s h hQ hE; exact Go.ofStep (step_point ..) (ih () h hQ hE)
  | fresh k ih => intro Q E p s h hQ hE; exact Go.ofStep (step_fresh ..) (ih _ h hQ hE)
  | ask k ih => intro Q E p s h hQ hE; exact Go.ofStep (step_ask ..) (ih _ h hQ hE)
  | choose src n k ih =>
    intro Q E p s h hQ hE
    obtain ⟨hn, h⟩ := h
    exact Go.ofStep (step_choose M s _ _ _ src _ hn) (ih _ h hQ hE)
  | os q l k ih => intro Q E p s h hQ hE; exact Go.ofStep (step_os ..) (ih _ h hQ hE)
  | call c h g l k ih =>
    intro Q E p s hw hQ hE
    obtain ⟨r, s₁, hret, hw⟩ := hw
    refine Go.ofStep (step_call ..) ?_
    refine Go.ofRuns (st := .ret (fun x => (k x).wrap K H gd lv) h (gd g) (lv l) Γ.code p [] :: st) hret (hf.enter c _ h (gd g) (lv l) p []) fun c' p' => ?_
    exact Go.ofStep (step_leaf_ret ..) (ih r hw hQ hE)
  | handled own k ih =>
    intro Q E p s h hQ hE
    refine Go.ofStep (step_handled ..) ?_
    have e : topHandled (if own = true then ownFrames st else st) = if own = true then Γ.own else Γ.handled := by
      cases own
      · exact hf.handled.symm
      · exact hf.own.symm
    rw [e]
    exact ih _ h hQ hE
  | newGen c k ih => intro Q E p s h hQ hE; exact Go.ofStep (step_newGen ..) (ih _ h hQ hE)
  | genState g k ih =>
    intro Q E p s h hQ hE
    obtain ⟨x, hg, h⟩ := h
    exact Go.ofStep (step_genState M s _ _ _ _ hg) (ih _ h hQ hE)
  | stack k ih =>
    intro Q E p s h hQ hE
    refine Go.ofStep (step_stack ..) ?_
    rw [← hf.below]
    exact ih _ h hQ hE
  | thread k ih => intro Q E p s h hQ hE; exact Go.ofStep (step_thread ..) (ih _ h hQ hE)
  | resume g r l k ih =>
    intro Q E p s h hQ hE
    obtain ⟨res, s₁, hwk, h⟩ := h
    have fin := ih res h hQ hE
    unfold Wakes at hwk
    split at hwk
    · exact hwk.elim
    · rename_i c hg
      split at hwk
      · obtain ⟨e₁, s₂, hr, hq, rfl, rfl⟩ := hwk
        refine Go.ofStep (step_resume_fresh M s _ _ _ _ _ hg) ?_
        exact Go.ofWake (fs := []) hr hq hf fin
      · rename_i v hv
        obtain ⟨rfl, rfl⟩ := hwk
        exact Go.ofStep (step_resume_justStarted M _ _ _ _ _ _ hg hv) fin
      · obtain ⟨rfl, rfl⟩ := hwk
        exact Go.ofStep (step_resume_throwFresh M s _ _ _ _ _ _ hg) fin
    · rename_i k₀ l₀ c₀ p₀ fs cl hg
      obtain ⟨e₁, s₂, hr, hq, rfl, rfl⟩ := hwk
      refine Go.ofStep (step_resume_suspended M s _ _ _ _ _ _ hg) ?_
      exact Go.ofWake hr hq hf fin
    · rename_i hg
      obtain ⟨rfl, rfl⟩ := hwk
      exact Go.ofStep (step_resume_running M _ _ _ _ _ _ _ hg) fin
    · rename_i hg
      obtain ⟨rfl, rfl⟩ := hwk
      exact Go.ofStep (step_resume_finished M _ _ _ _ _ _ _ hg) fin

/-! ### the logic over any stack -/
def GoA {α : Type} (M : Model) (A : Around) (m : Sem α) (Q : α → Shared → Prop) (E : Value → Shared → Prop) (s : Shared) : Prop :=
  ∀ (Φ : Shared → Thread → Prop) (Γ : Ctx) (st : List Frame) (p : Pos) (K : α → Sem PySem.Fin) (H : Value → Sem PySem.Fin) (gd : Bool → Bool) (lv : List Value → List Value), Γ.Fits st → Γ.In A →
    (∀ a p' s', Q a s' → Go M Φ s' ⟨K a, Γ.code, p', st⟩) → (∀ x p' s', E x s' → Go M Φ s' ⟨H x, Γ.code, p', st⟩) →
    Go M Φ s ⟨m.wrap K H gd lv, Γ.code, p, st⟩

section
variable {α β : Type} {A : Around} {E : Value → Shared → Prop} {s : Shared}
theorem GoA.of {m : Sem α} {Q : α → Shared → Prop} (h : wpAny M A m Q E s) : GoA M A m Q E s := fun Φ Γ st p K H gd lv hf hA hQ hE =>
  go_wrap hf K H gd lv m (h Γ p hA) (fun a p' s' q => hQ a p' s' q) fun x p' s' q => hE x p' s' q
theorem GoA.mono {m : Sem α} {Q Q' : α → Shared → Prop} {E' : Value → Shared → Prop} (h : GoA M A m Q E s) (hQ : ∀ a s, Q a s → Q' a s) (hE : ∀ x s, E x s → E' x s) : GoA M A m Q' E' s :=
  fun Φ Γ st p K H gd lv hf hA kQ kE => h Φ Γ st p K H gd lv hf hA (fun a p' s' q => kQ a p' s' (hQ a s' q)) fun x p' s' q => kE x p' s' (hE x s' q)
theorem GoA.pure {a : α} {Q : α → Shared → Prop} (h : Q a s) : GoA M A (Pure.pure a) Q E s := fun Φ Γ st p K H gd lv hf hA kQ kE => kQ a p s h
theorem GoA.bind {m : Sem α} {f : α → Sem β} {Q : β → Shared → Prop} (h : GoA M A m (fun a s' => GoA M A (f a) Q E s') E s) : GoA M A (m >>= f) Q E s := by
  intro Φ Γ st p K H gd lv hf hA kQ kE
  rw [Sem.bind_eq_wrap', Sem.wrap_wrap]
  exact h Φ Γ st p _ _ _ _ hf hA (fun a p' s' q => q Φ Γ st p' K H gd lv hf hA kQ kE) kE
/-- a lib statement first, then a Go -/
theorem GoA.bindW {m : Sem α} {f : α → Sem β} {Q : β → Shared → Prop} (h : wpAny M A m (fun a s' => GoA M A (f a) Q E s') E s) : GoA M A (m >>= f) Q E s := (GoA.of h).bind
theorem GoA.at {p' : Pos} {k : Unit → Sem α} {Q : α → Shared → Prop} (h : GoA M A (k ()) Q E s) : GoA M A (.at p' k) Q E s := fun Φ Γ st p K H gd lv hf hA kQ kE =>
  Go.ofStep (step_at ..) (h Φ Γ st p' K H gd lv hf hA kQ kE)
theorem GoA.attempt {m : Sem α} {Q : Except Value α → Shared → Prop} (h : GoA M A m (fun a => Q (.ok a)) (fun e => Q (.error e)) s) : GoA M A m.attempt Q E s := by
  intro Φ Γ st p K H gd lv hf hA kQ kE
  show Go M Φ s ⟨(((m.bind fun a => Sem.pure (Except.ok a)).tryCatch fun e => Sem.pure (Except.error e)) : Sem (Except Value α)).wrap K H gd lv, Γ.code, p, st⟩
  rw [Sem.tryCatch_eq_wrap, Sem.bind_eq_wrap, Sem.wrap_wrap, Sem.wrap_wrap]
  exact h Φ Γ st p _ _ _ _ hf hA (fun a p' s' q => kQ _ p' s' q) fun x p' s' q => kQ _ p' s' q
theorem GoA.onRaise {m : Sem α} {k : Value → Sem Unit} {Q : α → Shared → Prop} (h : GoA M A m Q (fun e s' => GoA M A (k e) (fun _ s'' => E e s'') E s') s) : GoA M A (m.onRaise k) Q E s := by
  intro Φ Γ st p K H gd lv hf hA kQ kE
  rw [Sem.onRaise_eq_wrap, Sem.wrap_wrap]
  refine h Φ Γ st p _ _ _ _ hf hA kQ fun x p' s' q => ?_
  rw [Sem.bind_eq_wrap, Sem.wrap_wrap]; exact q Φ Γ st p' _ _ _ _ hf hA (fun _ p'' s'' z => kE x p'' s'' z) kE
theorem GoA.keep {vs : List Value} {m : Sem α} {Q : α → Shared → Prop} (h : GoA M A m Q E s) : GoA M A (m.keep vs) Q E s := by
  intro Φ Γ st p K H gd lv hf hA kQ kE
  rw [Sem.keep_eq_wrap, Sem.wrap_wrap]
  exact h Φ Γ st p _ _ _ _ hf hA kQ kE
theorem GoA.holding {vs : List Value} {m : Sem α} {Q : α → Shared → Prop} (h : GoA M A m Q E s) : GoA M A (PySem.holding vs m) Q E s := by
  unfold PySem.holding
  split
  · exact h
  · exact h.keep
end
end Ork
end
section
set_option Elab.async false
set_option linter.all false
set_option maxRecDepth 100000
namespace Ork
open PySem
open Sem (wp)

theorem wrap_id {α : Type} (m : Sem α) : m.wrap .pure .raise id id = m := by
  induction m <;> simp only [Sem.wrap, id, *]

section
variable {M : Model} {A : Around} {s : Shared}
/-- a code, over any stack: what its result is to be -/
def codeJ (M : Model) (A : Around) (c : Code) (R : Result → Shared → Prop) (s : Shared) : Prop :=
  ∀ (Φ : Shared → Thread → Prop) (Γ : Ctx) (st : List Frame) (p : Pos), Γ.code = c → Γ.Fits st → Γ.Below A →
    (∀ r c' p' s', R r s' → Go M Φ s' ⟨leafOf r, c', p', st⟩) → Go M Φ s ⟨M.den c, c, p, st⟩

theorem codeJ.ofAny {c : Code} {R : Result → Shared → Prop} (h : codeAny M A c R s) : codeJ M A c R s := by
  intro Φ Γ st p hc hf hB k
  obtain ⟨r, s', hr, hR⟩ := h Γ p hc hB
  subst hc
  exact Go.ofRuns hr hf fun c' p' => k r c' p' s' hR
theorem codeJ.mono {c : Code} {R R' : Result → Shared → Prop} (h : codeJ M A c R s) (f : ∀ r s, R r s → R' r s) : codeJ M A c R' s :=
  fun Φ Γ st p hc hf hB k => h Φ Γ st p hc hf hB fun r c' p' s' q => k r c' p' s' (f r s' q)
theorem codeJ.ofTree {c : Code} {R : Result → Shared → Prop}
    (h : GoA M (A.under c) (M.den c) (fun fin s' => match fin with
      | .done f => R (.ok f) s'
      | .again c' => c'.quiet = true ∧ codeJ M A c' R s') (fun e s' => R (.error e) s') s) : codeJ M A c R s := by
  intro Φ Γ st p hc hf hB k
  subst hc
  have z := h Φ Γ st p .pure .raise id id hf hB.in (fun fin p' s' q => ?_) fun x p' s' q => k (.error x) Γ.code p' s' q
  · rw [wrap_id] at z
    exact z
  · cases fin with
    | done f => exact k (.ok f) Γ.code p' s' q
    | again c' =>
      obtain ⟨hq, hc⟩ := q
      exact Go.ofStep (step_again M s' Γ.code p' st c' hq) (hc Φ (Γ.goto c') st p' rfl (hf.goto c') (hB.goto c') k)
theorem GoA.run {E : Value → Shared → Prop} {c : Code} {h : Option Value} {Q : Flow → Shared → Prop}
    (hc : codeJ M (A.mark h) c (fun r s' => match r with
      | .ok f => Q f s'
      | .error e => E e s') s) (hnb : h ≠ some byPass := by intro x; cases x) : GoA M A (PySem.run c h) Q E s := by
  intro Φ Γ st p K H gd lv hf hA kQ kE
  refine Go.ofStep (step_call ..) ?_
  refine hc Φ (Γ.enter c h p) (.ret _ h (gd false) (lv []) Γ.code p [] :: st) p rfl (hf.enter c _ h (gd false) (lv []) p []) (hA.enter c h p hnb) fun r c' p' s' q => ?_
  refine Go.ofStep (step_leaf_ret ..) ?_
  cases r with
  | ok f => exact kQ f p s' q
  | error e => exact kE e p s' q
theorem GoA.runValue {E : Value → Shared → Prop} {c : Code} {Q : Value → Shared → Prop}
    (hc : codeJ M A c (fun r s' => match r with
      | .ok (.ret v) => Q v s'
      | .ok _ => False
      | .error e => E e s') s) : GoA M A (PySem.runValue c) Q E s := by
  unfold PySem.runValue
  refine GoA.bind (GoA.run (h := none) (hc.mono fun r s' q => ?_))
  cases r with
  | error e => exact q
  | ok f =>
    cases f with
    | ret v => exact GoA.pure q
    | next => exact q.elim
    | brk => exact q.elim
    | cont => exact q.elim
theorem GoA.call {E : Value → Shared → Prop} {f : Value} {pos : List Value} {kw : List (Str × Value)} {Q : Value → Shared → Prop}
    (hc : codeJ M A (.call f ⟨pos, kw⟩) (fun r s' => match r with
      | .ok (.ret v) => Q v s'
      | .ok _ => False
      | .error e => E e s') s) : GoA M A (PySem.call f pos kw) Q E s := GoA.runValue hc
theorem codeJ.loop {c : Code} {R : Result → Shared → Prop} (hq : c.quiet = true) (I : Nat → Shared → Prop)
    (turn : ∀ n s, I n s → GoA M (A.under c) (M.den c) (fun fin s' => match fin with
      | .done f => R (.ok f) s'
      | .again c' => (c' = c ∧ ∃ m, m < n ∧ I m s') ∨ (c'.quiet = true ∧ codeJ M A c' R s')) (fun e s' => R (.error e) s') s)
    (left : Nat) (h : I left s) : codeJ M A c R s := by
  induction left using Nat.strongRecOn generalizing s with
  | ind n ih =>
    refine codeJ.ofTree ((turn n s h).mono (fun fin s' q => ?_) fun _ _ q => q)
    cases fin with
    | done f => exact q
    | again c' =>
      rcases q with ⟨rfl, m, hm, hI⟩ | q
      · exact ⟨hq, ih m hm hI⟩
      · exact q

/-! ### no exception -/
abbrev GoN {α : Type} (M : Model) (A : Around) (m : Sem α) (Q : α → Shared → Prop) (s : Shared) : Prop := GoA M A m Q (fun _ _ => False) s
theorem GoN.wide {α : Type} {E : Value → Shared → Prop} {m : Sem α} {Q : α → Shared → Prop} (h : GoN M A m Q s) : GoA M A m Q E s := h.mono (fun _ _ q => q) fun _ _ q => q.elim
theorem GoN.onRaise {α : Type} {m : Sem α} {k : Value → Sem Unit} {Q : α → Shared → Prop} (h : GoN M A m Q s) : GoN M A (m.onRaise k) Q s :=
  GoA.onRaise (h.mono (fun _ _ q => q) fun _ _ q => q.elim)
end

/-! ### statements -/
section
variable {M : Model} {A : Around} {s : Shared} {env : Env}
theorem gn_execs_nil {Q : Flow → Shared → Prop} (h : Q .next s) : GoN M A (execs [] env) Q s := GoA.of (wpAny_execs_nil h)
theorem gn_execs_cons {st : Stmt} {rest : List Stmt} {Q : Flow → Shared → Prop}
    (h : GoN M A (exec st env) (fun f s' => match f with
      | .next => GoN M A (execs rest env) Q s'
      | f => Q f s') s) : GoN M A (execs (st :: rest) env) Q s := by
  rw [execs_cons]
  refine GoA.bind (h.mono (fun f s' q => ?_) fun _ _ q => q)
  cases f with
  | next => exact q
  | brk => exact GoA.pure q
  | cont => exact GoA.pure q
  | ret v => exact GoA.pure q
theorem gn_If {test : Expr} {body orelse : List Stmt} {pos : Pos} {Q : Flow → Shared → Prop}
    (h : GoN M A (isTrue test env (eval test env)) (fun b s₂ => if b = true then GoN M A (execs body env) Q s₂ else GoN M A (execs orelse env) Q s₂) s) :
    GoN M A (exec (.If test body orelse pos) env) Q s := by
  rw [exec_If]
  refine GoA.bindW (wpAny_standAt (GoA.bind (h.mono (fun b s' q => ?_) fun _ _ q => q)))
  cases b with
  | true => exact q
  | false => exact q
theorem gn_Assign_Name {x : Str} {pos' : Pos} {value : Expr} {pos : Pos} {Q : Flow → Shared → Prop}
    (h : GoN M A (eval value env) (fun v s₁ => wpAny M A (storeName env x v) (fun _ => Q .next) (fun _ _ => False) s₁) s)
    (hs : swapsWith value (some (.Name x pos')) pos.line env = pure false := by rfl) : GoN M A (exec (.Assign [.Name x pos'] value pos) env) Q s := by
  rw [exec_Assign_Name env x pos' value pos hs]
  refine GoA.bindW (wpAny_standAt (GoA.bind (h.mono (fun v s' q => ?_) fun _ _ q => q)))
  refine GoA.bindW (wpAny_standAt (GoA.bindW (wpAny_bindName (wpAny_mono q (fun _ s' z => GoA.pure z) fun _ _ z => z))))
theorem gn_Return {e : Expr} {pos : Pos} {Q : Flow → Shared → Prop} (h : GoN M A (eval e env) (fun v => Q (.ret v)) s) : GoN M A (exec (.Return (some e) pos) env) Q s := by
  rw [exec_Return_some]
  exact GoA.bindW (wpAny_standAt (GoA.bind (h.mono (fun v s' q => GoA.pure q) fun _ _ q => q)))
theorem gn_For {target iter : Expr} {body orelse : List Stmt} {pos : Pos} {Q : Flow → Shared → Prop}
    (h : wpAny M A (eval iter env) (fun v s₁ => wpAny M A (pyIter v) (fun it s₂ =>
      codeJ M A (.forLoop target it body orelse env) (fun r s' => match r with
        | .ok f => Q f s'
        | .error _ => False) s₂) (fun _ _ => False) s₁) (fun _ _ => False) s)
    (hs : ∀ x, foldedSetIterable iter env x = pure x := by intro _; rfl) : GoN M A (exec (.For target iter body orelse pos) env) Q s := by
  rw [exec_For]
  refine GoA.bindW (wpAny_standAt (GoA.bindW (wpAny_mono h (fun x s₁ h₁ => ?_) fun _ _ q => q)))
  refine GoA.bindW (wpAny_of_eq (hs x) (GoA.bindW (wpAny_standAt (GoA.bindW (wpAny_holding (wpAny_mono h₁ (fun it s₂ h₂ => ?_) fun _ _ q => q))))))
  unfold runOwn
  exact GoN.onRaise (GoA.run (h := none) h₂)
/-- a test: «a op b» whose left side runs over any stack -/
theorem gn_isTrue_Compare {l r : Expr} {op : CmpOp} {pos : Pos} {whole : Sem Value} {Q : Bool → Shared → Prop}
    (h : GoN M A (eval l env) (fun a s₁ => wpAny M A (eval r env) (fun b s₂ => wpAny M A (compareOp op a b)
      (fun c s₃ => wpAny M A (truthy c) Q (fun _ _ => False) s₃) (fun _ _ => False) s₂) (fun _ _ => False) s₁) s)
    (hm : behindInMarks op r = false := by with_unfolding_all rfl) : GoN M A (isTrue (.Compare l [op] [r] pos) env whole) Q s := by
  rw [isTrue_Compare1, markedBehindIn_of_false hm]
  refine GoA.bind (h.mono (fun a s₁ q => ?_) fun _ _ q => q)
  refine GoA.of (wpAny_bind (wpAny_holding (wpAny_mono q (fun b s₂ q2 => wpAny_bind (wpAny_standAt (wpAny_bind ?_))) fun _ _ q => q)))
  intro Γ p hΓ
  rw [Sem.wp_operate]
  refine Sem.wp_mono M Γ _ (fun c p' s₃ q3 => ?_) (fun _ _ _ z => z) p s₂ (q2 Γ p hΓ)
  exact wpAny_holding q3
end
section
variable {prog : Program} {w : World} {A : Around} {s : Shared} {env : Env}
theorem gj_forLoop {R : Result → Shared → Prop} {target : Expr} {it : Value} {body : List Stmt} (I : Nat → Shared → Prop)
    (turn : ∀ m s, I m s → wpAny (model prog w) A (pyNext it) (fun r s₁ => match r with
      | none => R (.ok .next) s₁
      | some v => wpAny (model prog w) A (letOwnedTupleGo target it v) (fun _ s₂ => wpAny (model prog w) A (assign target env v) (fun _ s₃ =>
          GoN (model prog w) A (execs body env) (fun f s₄ => match f with
            | .next | .cont => ∃ j, j < m ∧ I j s₄
            | .brk => R (.ok .next) s₄
            | .ret v => R (.ok (.ret v)) s₄) s₃) (fun _ _ => False) s₂) (fun _ _ => False) s₁) (fun _ _ => False) s)
    (n : Nat) (h : I n s) : codeJ (model prog w) A (.forLoop target it body [] env) R s := by
  refine codeJ.loop rfl I (fun n s hI => GoN.wide ?_) n h
  have hu : A.under (.forLoop target it body [] env) = A := Around.under_of_weight rfl
  rw [hu]
  show GoN _ _ ((forTurn target it body [] env).onRaise (fun x => do noteFrame x env; theTreesLotGoes x)) _ s
  refine GoN.onRaise ?_
  simp only [forTurn]
  refine GoA.bindW (wpAny_standAt (GoA.bindW (wpAny_onRaise (wpAny_mono (turn n s hI) (fun r s₁ h₁ => ?_) fun _ _ z => z.elim))))
  cases r with
  | none => exact GoA.pure (.inr ⟨rfl, codeJ.ofAny (codeAny_block (wpAny_execs_nil h₁))⟩)
  | some v =>
    refine GoA.bindW (wpAny_mono h₁ (fun _ s₂ h₂ => ?_) fun _ _ z => z)
    refine GoA.bindW (wpAny_mono h₂ (fun _ s₃ h₃ => GoA.bind (h₃.mono (fun f s₄ h₄ => ?_) fun _ _ z => z)) fun _ _ z => z)
    cases f with
    | next => exact GoA.pure (.inl ⟨rfl, h₄⟩)
    | cont => exact GoA.pure (.inl ⟨rfl, h₄⟩)
    | brk => exact GoA.pure h₄
    | ret v => exact GoA.pure h₄
theorem gj_func {R : Result → Shared → Prop} {body : List Stmt}
    (h : GoN (model prog w) (A.deeper env) (execs body env) (fun f s' => R (.ok (.ret (match f with
      | .ret v => v
      | _ => .none))) s') s) : codeJ (model prog w) A (.func body env) R s := by
  refine codeJ.ofTree (GoN.wide ?_)
  show GoN _ (A.deeper env) (do point; match ← (execs body env).onRaise (leaving env) with | .ret v => ret v | _ => ret .none) _ s
  refine GoA.bindW (wpAny_point (GoA.bind ((GoN.onRaise h).mono (fun f s' q => ?_) fun _ _ z => z)))
  cases f <;> exact GoA.pure q
theorem gj_call_function {R : Result → Shared → Prop} {a : Addr} {args : Args} {o : Obj} {fd : FuncData} {body : List Stmt} (hroom : A.depth < recursionLimit) (ho : s.heap.get? a = some o)
    (isF : o.data = .func fd) (notCo : fd.scope.isCoroutine = false) (notGen : fd.scope.isGenerator = false) (stm : fd.body = .stmts body) (hcd : s.heap.CodeRec fd.code fd.qualname)
    (h : wpAny (model prog w) A.in1 (bindArgs fd args) (fun bs s₁ =>
      wpAny (model prog w) A.in1 (newFunctionEnv fd.scope fd.globals fd.closure bs (fd.qualname ++ ".<locals>.") (some a) fd.code none fd.builtins)
        (fun env s₂ => s₂.heap.NoLimit ∧ codeJ (model prog w) A (.func body env) R s₂) (fun e s' => R (.error e) s') s₁) (fun e s' => R (.error e) s') s) :
    codeJ (model prog w) A (.call (.ref a) args) R s := by
  obtain ⟨cd, oc, fl, tq, isC, cAt, cFl, qn⟩ := hcd
  rw [isC] at h
  refine codeJ.ofTree (GoA.of ?_)
  show wpAny (model prog w) A.in1 (callAny (.ref a) args) _ _ s
  unfold callAny; refine wpAny_bind (wpAny_load ho ?_)
  simp only [callFunction, isF, notCo, notGen, stm, isC]
  refine wpAny_bind (m := field (.ref cd) 1) (wpAny_field cAt cFl qn (wpAny_bind (wpAny_pure (wpAny_bind ?_))))
  refine wpAny_mono h (fun _ _ h₁ => wpAny_bind (wpAny_mono h₁ (fun _ _ h₂ => wpAny_bind (wpAny_enterFrame h₂.1 hroom (wpAny_pure ⟨rfl, h₂.2⟩))) fun _ _ z => z)) fun _ _ z => z
theorem gj_builtin {R : Result → Shared → Prop} {id : String} {args : Args} {b : Builtin} (hb : entryFor table id = some b)
    (h : GoA (model prog w) (A.under (.builtin id args)) (b args) (fun fin s' => match fin with
      | .done f => R (.ok f) s'
      | .again c' => c'.quiet = true ∧ codeJ (model prog w) A c' R s') (fun e s' => R (.error e) s') s) : codeJ (model prog w) A (.builtin id args) R s := by
  refine codeJ.ofTree ?_
  show GoA _ _ (match entryFor table id with | some b => b args | none => unsupported ((withoutEnding? id "#data").getD id)) _ _ s
  rw [hb]
  exact h
end
end Ork
end
section
set_option Elab.async false
set_option linter.all false
set_option maxRecDepth 100000
namespace Ork
open PySem L2 PySem.Spec PyProof.Rows
open Sem (wp)

/-! ### calls as expressions, over any stack -/
section
variable {M : Model} {A : Around} {s : Shared} {pos : Pos} {f : Value} {first : List Value} {Q : Value → Shared → Prop}
theorem gn_callWith {P : Heap → Prop} {args : List (Bool × Sem Value)} {keywords : List (Option Str × Sem Value)} (hplain : (args.any (·.1) || keywords.any (·.1.isNone)) = false)
    (hk : ∀ h, P h → ∃ k, (k = Keeper.frame ∨ k = Keeper.machine ∨ k = Keeper.boundFrame) ∧ PySem.W.Looks M h (keeperOf f) k)
    (h : GoN M A (evalArgs f true args keywords) (fun a s₁ => P s₁.heap ∧ GoN M A (call f (first ++ a.pos) a.kw) Q s₁) s) : GoN M A (callWith pos f first args keywords) Q s := by
  unfold callWith
  refine GoA.bind (GoA.holding (h.mono (fun a s₁ h₁ => ?_) fun _ _ z => z))
  refine GoA.bindW (wpAny_standAt ?_)
  obtain ⟨keeper, hk', L⟩ := hk _ h₁.1
  simp only [hplain]
  refine GoA.bindW (L.here ?_)
  have tail : ∀ {t : Sem Value}, GoN M A t Q s₁ → GoN M A (t >>= fun r => holding [r] point >>= fun _ => pure r) Q s₁ := fun ht =>
    GoA.bind (ht.mono (fun r s₂ hr => GoA.of (wpAny_bind (wpAny_holding (wpAny_point (wpAny_pure hr))))) fun _ _ z => z)
  have marked : ∀ mk : Value, GoN M A (callMarked mk f (first ++ a.pos) a.kw) Q s₁ := fun mk => by
    unfold callMarked
    exact GoA.keep h₁.2
  rcases hk' with rfl | rfl | rfl
  · dsimp only
    split
    · exact tail h₁.2
    · exact tail (marked _)
  · exact tail h₁.2
  · dsimp only
    split
    · exact tail h₁.2
    · exact tail (marked _)
theorem gn_evalArgs1 {t : Sem Value} {R : Args → Shared → Prop} (h : GoN M A t (fun v s₁ => R ⟨[v], []⟩ s₁) s) : GoN M A (evalArgs f true [(false, t)] []) R s := by
  unfold evalArgs
  show GoN M A (spliced [(false, t)] >>= _) R s
  refine GoA.bind ?_
  rw [spliced]
  refine GoA.bind (h.mono (fun v s₁ h₁ => ?_) fun _ _ z => z)
  simp only [if_false, Bool.false_eq_true]; refine GoA.of (wpAny_bind (wpAny_pure (wpAny_bind (wpAny_holding (Calls.spliced_nil (wpAny_pure ?_))))))
  exact GoA.of (wpAny_holding (wpAny_bind (wpAny_pure (wpAny_bind (wpAny_pure (wpAny_pure h₁))))))
theorem gn_Call_Name {env : Env} {id : Str} {p : Pos} {args : List Expr} {keywords : List Keyword}
    (h : wpAny M A (eval (.Name id p) env) (fun f s₁ => GoN M A (callWith pos f [] (backTo pos (starEach args env)) (backToKw pos (keywordEach keywords env))) Q s₁) (fun _ _ => False) s) :
    GoN M A (eval (.Call (.Name id p) args keywords pos) env) Q s := by
  rw [arm_eval_Call_Name']
  exact GoA.bindW h
end
theorem keeps_blt {M : Model} {id : String} (h : Heap) (_ : True) : ∃ k, (k = Keeper.frame ∨ k = Keeper.machine ∨ k = Keeper.boundFrame) ∧ PySem.W.Looks M h (keeperOf (.builtin id)) k :=
  ⟨.machine, .inr (.inl rfl), .now⟩
theorem keeps_typ {M : Model} {id : String} (h : Heap) (_ : True) : ∃ k, (k = Keeper.frame ∨ k = Keeper.machine ∨ k = Keeper.boundFrame) ∧ PySem.W.Looks M h (keeperOf (.type id)) k :=
  ⟨.machine, .inr (.inl rfl), .now⟩

/-! ### the judgements over any stack -/
structure JE (X : Cx) (e : Expr) (t : TE) : Prop where
  run : ∀ (pins : List (Addr × Obj)) (s : Shared) (σ : L2.St) (H : Hp) (Q : VK), Inv X pins σ H s → t σ H Q → GoN (model X.prog X.w) X.A (eval e X.env) (EP X pins σ Q) s
structure JT (X : Cx) (e : Expr) (t : TT) : Prop where
  run : ∀ (pins : List (Addr × Obj)) (s : Shared) (σ : L2.St) (H : Hp) (Q : Bool → Hp → Prop), Inv X pins σ H s → t σ H Q → GoN (model X.prog X.w) X.A (isTrue e X.env (eval e X.env)) (TP X pins σ Q) s
structure JS (X : Cx) (st : Stmt) (t : TS) : Prop where
  run : ∀ (pins : List (Addr × Obj)) (s : Shared) (σ : L2.St) (H : Hp) (D : Ends), Inv X pins σ H s → t D σ H → GoN (model X.prog X.w) X.A (exec st X.env) (SP X pins D) s
structure JSs (X : Cx) (st : List Stmt) (t : TS) : Prop where
  run : ∀ (pins : List (Addr × Obj)) (s : Shared) (σ : L2.St) (H : Hp) (D : Ends), Inv X pins σ H s → t D σ H → GoN (model X.prog X.w) X.A (execs st X.env) (SP X pins D) s

section
variable {Y : Cx} {e : Expr} {st : Stmt} {sts : List Stmt} {pos : Pos}
theorem JE.of {t : TE} (h : PE Y.nox e t) : JE Y.nox e t := ⟨fun pins s σ H Q I q => GoA.of (h.run pins s σ H Q I q)⟩
theorem JT.of {t : TT} (h : PT Y.nox e t) : JT Y.nox e t := ⟨fun pins s σ H Q I q => GoA.of (h.run pins s σ H Q I q)⟩
theorem JS.of {t : TS} (h : PS Y.nox st t) : JS Y.nox st t := ⟨fun pins s σ H D I q => GoA.of (h.run pins s σ H D I q)⟩
theorem JSs.of {t : TS} (h : PSs Y.nox sts t) : JSs Y.nox sts t := ⟨fun pins s σ H D I q => GoA.of (h.run pins s σ H D I q)⟩
end
section
variable {X : Cx} {e : Expr} {st : Stmt} {rest : List Stmt} {pos : Pos} {t u : TS} {te : TE}
theorem jss_nil : JSs X [] tNext := ⟨fun _ _ σ H _ I h => gn_execs_nil ⟨σ, H, I, h⟩⟩
theorem jss_cons (h1 : JS X st t) (h2 : JSs X rest u) : JSs X (st :: rest) (tSeq t u) := by
  refine ⟨fun pins s σ H D I h => gn_execs_cons ((h1.run pins s σ H { D with nx := u D } I h).mono (fun f s1 q => ?_) fun _ _ z => z)⟩
  cases f with
  | next =>
    obtain ⟨σ', H', I', q⟩ := q
    exact h2.run _ _ _ _ D I' q
  | ret v => exact q
  | brk => exact q
  | cont => exact q
theorem jss_one (h1 : JS X st t) : JSs X [st] t := by
  refine ⟨fun pins s σ H D I h => gn_execs_cons ((h1.run pins s σ H D I h).mono (fun f s1 q => ?_) fun _ _ z => z)⟩
  cases f with
  | next => exact gn_execs_nil q
  | ret v => exact q
  | brk => exact q
  | cont => exact q
theorem js_set {i : Nat} {x : Str} {pos' : Pos} (hN : X.N.Nodup) (hi : X.N[i]? = some x) (hx : Loc X.env.scope x) (he : JE X e te) (hs : swapsWith e (some (.Name x pos')) pos.line X.env = pure false := by rfl)
    (hf : X.fn x = true ∨ X.env.scope.names.lookup x = some .local := by first | exact .inl rfl | exact .inr rfl | assumption) : JS X (.Assign [.Name x pos'] e pos) (tAsg te (gName i)) := by
  refine ⟨fun pins s σ H D I h => gn_Assign_Name ((he.run pins s σ H _ I h).mono (fun v s1 q => ?_) fun _ _ z => z) hs⟩
  obtain ⟨y, H1, I1, r1, q1⟩ := q
  exact store_ok I1 hN hi hx r1 (fun _ J => ⟨_, _, J, q1⟩) hf
theorem js_if {c : Expr} {a b : List Stmt} {tc : TT} (hc : JT X c tc) (ha : JSs X a t) (hb : JSs X b u) : JS X (.If c a b pos) (tIfS tc t u) := by
  refine ⟨fun pins s σ H D I h => gn_If ((hc.run pins s σ H _ I h).mono (fun d s1 q => ?_) fun _ _ z => z)⟩
  obtain ⟨H1, I1, q1⟩ := q
  cases d with
  | true =>
    rw [if_pos rfl] at q1 ⊢
    exact ha.run pins s1 σ H1 D I1 q1
  | false =>
    rw [if_neg Bool.false_ne_true] at q1 ⊢
    exact hb.run pins s1 σ H1 D I1 q1
end
/-- while a turn runs, what the walk keeps its eye on stands as it stood -/
theorem still {X : Cx} {pins : List (Addr × Obj)} {fp : List Addr} {h : Heap} {σ : L2.St} {H : Hp} {s : Shared} (I : Inv X (pins ++ pinsAt fp h) σ H s) {b : Addr} {o : Obj} (hb : b ∈ fp) (e : h.get? b = some o) :
    s.heap.get? b = some o ∧ H b = none :=
  have p := I.pin (b, o) (List.mem_append_right _ (List.mem_append_right _ (mem_pinsAt hb e)))
  ⟨p.1, p.2.1⟩
section
variable {Y : Cx} {tg iter : Expr} {body : List Stmt} {wi : TI} {g : TG} {tb : TS} {pos : Pos}
theorem js_for (hc : Y.calm = true) (hi : PI Y.nox tg iter wi) (hg : PG Y.nox tg g) (hb : JSs Y.nox body tb)
    (hs : ∀ x, foldedSetIterable iter Y.env x = pure x := by intro _; rfl) : JS Y.nox (.For tg iter body [] pos) (tFor wi g tb) := by
  refine ⟨fun pins s σ H D I h => gn_For (wpAny_mono (hi.run pins s σ H _ I h) (fun v s1 h1 => wpAny_mono h1 (fun itv s2 h2 => ?_) fun _ _ z => z) fun _ _ z => z) hs⟩
  obtain ⟨it, fp, tn, Jt, H2, e, I2, T, st2, f2, W, ⟨m0, w0⟩, turn⟩ := h2
  subst e
  have stat : ∀ {H' : Hp}, (∀ b ∈ fp, H' b = none) → ∀ b ∈ fp, FpOk Y.nox pins H' b := fun hn b hb => ⟨hn b hb, (f2 b hb).2⟩
  refine gj_forLoop (fun n s' => ∃ i σ' H', Inv Y.nox pins σ' H' s' ∧ tn i s'.heap ∧ (∀ b ∈ fp, H' b = none) ∧ W i n σ' H') ?_ m0 ⟨0, σ, H2, I2, st2, fun b hb => (f2 b hb).1, w0⟩
  rintro more s3 ⟨i, σ3, H3, I3, st3, fr3, w3⟩
  rcases turn i more σ3 H3 w3 with ⟨stop, qn⟩ | ⟨go, N, hN, step⟩
  · refine wpAny_mono (T.done Y.nox rfl rfl rfl hc i pins s3 σ3 H3 (fun _ _ => False) I3 (stat fr3) st3 stop) (fun r s4 h4 => ?_) fun _ _ z => z
    obtain ⟨hr, I4⟩ := h4
    subst hr
    exact ⟨σ3, H3, I4, qn⟩
  · refine wpAny_mono (T.item Y.nox rfl rfl rfl hc i pins s3 σ3 H3 (fun _ _ => False) I3 (stat fr3) st3 go) (fun r s4 h4 => ?_) fun _ _ z => z
    obtain ⟨u, hr, h4⟩ := h4
    subst hr
    refine wpAny_mono h4 (fun _ s5 h5 => ?_) fun _ _ z => z
    obtain ⟨x, H5, I5, r5, y5, st5, fr5⟩ := h5
    have J5 := I5.pinned (stat fr5) (T.obj _ _ st5)
    refine wpAny_mono (hg.run _ s5 σ3 H5 x u _ J5 r5 (step x H5 y5)) (fun _ s6 h6 => ?_) fun _ _ z => z
    obtain ⟨σ6, H6, I6, q6⟩ := h6
    refine (hb.run _ s6 σ6 H6 _ I6 q6).mono (fun f s7 q7 => ?_) fun _ _ z => z
    have again : ∀ {σ7 : L2.St} {H7 : Hp}, Inv Y.nox (pins ++ pinsAt fp s5.heap) σ7 H7 s7 → N σ7 H7 →
        ∃ m, m < more ∧ ∃ i σ' H', Inv Y.nox pins σ' H' s7 ∧ tn i s7.heap ∧ (∀ b ∈ fp, H' b = none) ∧ W i m σ' H' := fun {σ7 H7} I7 n7 => by
      obtain ⟨less, hm, w7⟩ := hN _ _ n7
      exact ⟨less, hm, i + 1, _, _, I7.unpinned, T.keep _ _ _ st5 fun b hb o e => (still I7 hb e).1, fun b hb => let ⟨_, e, _⟩ := T.obj _ _ st5 b hb; (still I7 hb e).2, w7⟩
    cases f with
    | next =>
      obtain ⟨σ7, H7, I7, n7⟩ := q7
      exact again I7 n7
    | cont =>
      obtain ⟨σ7, H7, I7, n7⟩ := q7
      exact again I7 n7
    | brk =>
      obtain ⟨σ7, H7, I7, q7⟩ := q7
      exact ⟨σ7, H7, I7.unpinned, q7⟩
    | ret v =>
      obtain ⟨x7, σ7, H7, I7, r7, q7⟩ := q7
      exact ⟨x7, σ7, H7, I7.unpinned, r7, q7⟩
end
end Ork
end
section
set_option Elab.async false
set_option linter.all false
set_option maxRecDepth 100000
namespace Ork
open PySem L2 PySem.Spec PyProof.Rows
open Sem (wp)

/-! ### tests -/
section
variable {Y : Cx} {a b : Expr} {ta tb : TE} {uA uB : TT} {pos : Pos}
theorem jt_cmpR {op : CmpOp} {r : R2} (ho : OpR Y.nox (compareOp op) r) (ha : JE Y.nox a ta) (hb : PE Y.nox b tb) (hm : behindInMarks op b = false) : JT Y.nox (.Compare a [op] [b] pos) (tTest (tOp r ta tb)) := by
  refine ⟨fun pins s σ H Q I h => gn_isTrue_Compare ((ha.run pins s σ H _ I h).mono (fun v s1 q => ?_) fun _ _ z => z) hm⟩
  obtain ⟨x, H1, I1, r1, q1⟩ := q
  refine wpAny_mono (hb.run pins s1 σ H1 _ I1 q1) (fun u s2 q2 => ?_) fun _ _ z => z
  obtain ⟨y, H2, I2, r2, q2⟩ := q2
  refine wpAny_mono (ho pins s2 σ H2 x y v u _ I2 r1 r2 q2) (fun c s3 q3 => ?_) fun _ _ z => z
  obtain ⟨z, H3, I3, r3, k, rfl, q3⟩ := q3
  cases r3
  exact wpAny_truthy_bool ⟨_, I3, q3⟩
theorem jt_not (ha : JT Y.nox a uA) : JT Y.nox (.UnaryOp .Not a pos) (tNot uA) := by
  refine ⟨fun pins s σ H Q I ht => ?_⟩
  show GoN _ _ (do return !(← isTrue a Y.env (eval a Y.env))) _ s
  exact GoA.bind ((ha.run pins s σ H (fun c H1 => Q (!c) H1) I ht).mono (fun c s' q => GoA.pure q) fun _ _ z => z)
/-- a call whose value is True or False, as a test -/
theorem jt_val {t : TE} (h : JE Y.nox a t) (he : isTrue a Y.env (eval a Y.env) = (do let v ← eval a Y.env; standAt a.pos; holding [v] (truthy v)) := by rfl) : JT Y.nox a (tB t) := by
  refine ⟨fun pins s σ H Q I ht => ?_⟩
  show GoN _ _ (isTrue a Y.env (eval a Y.env)) _ s
  rw [he]
  refine GoA.bind ((h.run pins s σ H _ I ht).mono (fun v s1 q => ?_) fun _ _ z => z)
  obtain ⟨x, H1, I1, r1, d, rfl, q⟩ := q
  cases r1
  exact GoA.of (wpAny_bind (wpAny_standAt (wpAny_holding (wpAny_truthy_bool ⟨H1, I1, q⟩))))
theorem jt_and2 (ha : JT Y.nox a uA) (hb : JT Y.nox b uB) : JT Y.nox (.BoolOp .And [a, b] pos) (tAnd uA uB) := by
  refine ⟨fun pins s σ H Q I ht => ?_⟩
  show GoN _ _ (do
    match BoolOp.And, ← isTrue a Y.env (eval a Y.env) with
    | .And, false => pure false
    | .Or, true => pure true
    | _, _ => allTrue .And [b] Y.env) _ s
  refine GoA.bind ((ha.run pins s σ H _ I ht).mono (fun c s1 q => ?_) fun _ _ z => z)
  obtain ⟨H1, I1, q1⟩ := q
  cases c with
  | false => exact GoA.pure ⟨H1, I1, q1⟩
  | true =>
    show GoN _ _ (do
      match BoolOp.And, ← isTrue b Y.env (eval b Y.env) with
      | .And, false => pure false
      | .Or, true => pure true
      | _, _ => allTrue .And [] Y.env) _ s1
    refine GoA.bind ((hb.run pins s1 σ H1 _ I1 q1).mono (fun c s2 q => ?_) fun _ _ z => z)
    cases c with
    | false => exact GoA.pure q
    | true => exact GoA.pure (a := true) q
theorem jt_or2 (ha : JT Y.nox a uA) (hb : JT Y.nox b uB) : JT Y.nox (.BoolOp .Or [a, b] pos) (tOr uA uB) := by
  refine ⟨fun pins s σ H Q I ht => ?_⟩
  show GoN _ _ (do
    match BoolOp.Or, ← isTrue a Y.env (eval a Y.env) with
    | .And, false => pure false
    | .Or, true => pure true
    | _, _ => allTrue .Or [b] Y.env) _ s
  refine GoA.bind ((ha.run pins s σ H _ I ht).mono (fun c s1 q => ?_) fun _ _ z => z)
  obtain ⟨H1, I1, q1⟩ := q
  cases c with
  | true => exact GoA.pure ⟨H1, I1, q1⟩
  | false =>
    show GoN _ _ (do
      match BoolOp.Or, ← isTrue b Y.env (eval b Y.env) with
      | .And, false => pure false
      | .Or, true => pure true
      | _, _ => allTrue .Or [] Y.env) _ s1
    refine GoA.bind ((hb.run pins s1 σ H1 _ I1 q1).mono (fun c s2 q => ?_) fun _ _ z => z)
    cases c with
    | true => exact GoA.pure q
    | false => exact GoA.pure (a := false) q
end

/-! ### a def whose run needs any stack -/
structure FnJ (P : Program) (w : World) (K : PySem.W.Frag) (mg : Str → Option Value) (base : Heap) (k : Nat) (f : Addr) (fd : FuncData) (ps : List Str) (sp : Sp) : Prop where
  len : ∀ us H Q E, sp us H Q E → us.length = ps.length
  run : ∀ (A : Around) (outer : List Env) (s : Shared) (H : Hp) (args : Args) (us : List Value) (vs : List V) (Q : VK) (E : XK), Room k A → A.guards = some [] → Env0 P w K mg base A outer s H → BindsTo s fd args (ps.zip us) → Vals vs us → sp vs H Q E →
    codeJ (model P w) A (.call (.ref f) args) (CR CX0 outer P w H s Q E) s
section
variable {P : Program} {w : World} {base : Heap} {mg : Str → Option Value} {K : PySem.W.Frag}
/-- where a call begins, the part that the head wrote out stands, and no limit is set -/
theorem begins {A : Around} {outer : List Env} {s : Shared} {H : Hp} (e : Env0 P w K mg base A outer s H) : K.In s.heap ∧ s.heap.NoLimit :=
  have old : ∀ b o, base.get? b = some o → s.heap.get? b = some o := fun b o q => (e.bs b o q).1
  ⟨e.mod.kin.keeps old, e.mod.nolimit.keeps old⟩
theorem Fun.okJ {x qual : Str} {st : Stmt} {f : Addr} {fd : FuncData} {N ps : List Str} {k : Nat} {sp : Sp} (F : Fun K x qual st f fd) (S : FnScope N ps (defScope st)) (len : ∀ vs H Q E, sp vs H Q E → vs.length = ps.length)
    (hbody : ∀ (cdv : Value) (A : Around) (outer : List Env) (s : Shared) (H : Hp) (vs : List V) (Q : VK) (E : XK), Room k (A.deeper (envOfC qual (defScope st) s.heap.objs.size f cdv)) → (A.deeper (envOfC qual (defScope st) s.heap.objs.size f cdv)).guards = some [] → sp vs H Q E →
      ∃ t, JSs (cxOf CX0 P w K mg base N qual (defScope st) f cdv A outer s H E).nox (defBody st) t ∧ t { nx := fun _ H' => Q .non H', rt := Q } (start N vs) H) : FnJ P w K mg base (k + 1) f fd ps sp := by
  obtain ⟨_, _, _, _, _, _, cdv, _, _, rfl, lk, hcd⟩ := F.ex
  refine ⟨len, fun A outer s H args us vs Q E hr hgd e0 hb r hsp => ?_⟩
  have hl := len _ _ _ _ hsp
  obtain ⟨KX, lim⟩ := begins e0
  have hkind : ∀ y ∈ ps.zip us, (defScope st).names.lookup y.1 = some .local ∨ ((defScope st).names.lookup y.1 = some .cell ∧ ((cellsFrom (s.heap.objs.size + 1) (defScope st).names []).lookup y.1).isSome = true) := fun ⟨n, v⟩ hy => by
    exact (S.par n (List.of_mem_zip hy).1).imp id fun cel => ⟨cel, PySem.W.cellsFrom_some _ _ _ (.inl cel)⟩
  refine gj_call_function hr.depth (KX _ _ lk) rfl S.co S.gen rfl (PySem.W.codeRec_of KX hcd) (hb _ _ _ _ ?_)
  refine wpAny_newFunctionEnv_cells S.kind hkind fun _ he s1 x => ?_
  subst he
  refine ⟨lim.keeps x.toInCall.keep, gj_func ?_⟩
  obtain ⟨t, ht, hq⟩ := hbody cdv A outer s H vs Q E (hr.deeper _) (by exact hgd) hsp
  have I : Inv (cxOf CX0 P w K mg base N qual (defScope st) f cdv A outer s H E) [] (start N vs) H s1 := inv_start S hr.hd e0 hl r x
  refine (ht.run [] s1 (start N vs) H _ (I.wish _) hq).mono (fun fl s' hs => ?_) fun _ _ z => z
  have fin : ∀ {σ' : L2.St} {H' : Hp} {v : V} {u : Value}, Inv (cxOf CX0 P w K mg base N qual (defScope st) f cdv A outer s H E).nox [] σ' H' s' → RelV v u → Q v H' → CE outer P w H s Q u s' :=
    fun J rv q => ⟨_, _, J.os, J.bare, J.base, J.hok, rv, q⟩
  cases fl with
  | ret u =>
    obtain ⟨_, _, _, J, rv, q⟩ := hs
    exact fin J rv q
  | next =>
    obtain ⟨σ', H', J, q⟩ := hs
    exact fin (v := .non) (u := .none) J rfl q
  | brk =>
    obtain ⟨_, _, _, q⟩ := hs
    exact False.elim q
  | cont =>
    obtain ⟨_, _, _, q⟩ := hs
    exact False.elim q
end
section
variable {Y : Cx} {k : Nat} {f : Addr} {fd : FuncData} {ps : List Str} {sp : Sp} {dvs : List V} {ds : List Value} {x : Str} {p pos : Pos} {e : Expr} {es : List Expr} {t : TA} {id : String}
theorem je_call (F : FnJ Y.prog Y.w Y.K Y.mg Y.base k f fd ps sp) (hr : Room k Y.A) (hgd : Y.A.guards = some []) (hg : Gl Y x) (hm : Y.mg x = some (.ref f)) (hk : PySem.W.keepIn Y.K (.ref f) = true) (hb : Binds Y.K fd ps ds) (hd : Vals dvs ds)
    (ha : PA Y.nox (e :: es) t) (hdb : (x == ("__debug__" : Str)) = false := by decide) (he : starEach (e :: es) Y.env = (false, eval e Y.env) :: starEach es Y.env := by rfl) (hpl : (backTo pos (starEach es Y.env)).any (·.1) = false := by rfl) :
    JE Y.nox (.Call (.Name x p) (e :: es) [] pos) (tCall sp dvs E0 t) := by
  refine ⟨fun pins s σ H Q I h => gn_Call_Name (ld_glob I hg hm ?_ hdb)⟩
  have ha' := ha.run pos pins s σ H _ I h
  show GoN _ _ (callWith pos (.ref f) [] (backTo pos (starEach (e :: es) Y.env)) []) _ s
  have ha' : wpAny (model Y.prog Y.w) Y.A (spliced (backTo pos (starEach (e :: es) Y.env))) _ (fun _ _ => False) s := ha'
  rw [he] at ha' ⊢
  refine gn_callWith (P := Y.K.In) (by show ((false || (backTo pos (starEach es Y.env)).any (·.1)) || false) = false; rw [hpl]; rfl) (PySem.W.keeps_K hk) (GoA.of (Calls.evalArgs_plain (wpAny_mono ha' (fun us s1 q => ?_) fun _ _ z => z)))
  obtain ⟨vs, H1, I1, r, q⟩ := q
  refine ⟨I1.kIn, ?_⟩
  have r2 : Vals _ (us ++ ds) := r.append hd
  have hl : (us ++ ds).length = ps.length := by rw [← r2.length]; exact F.len _ _ _ _ q
  refine GoA.call ((F.run Y.A Y.stack s1 H1 ⟨us, []⟩ (us ++ ds) (vs ++ dvs) Q E0 hr hgd I1.env0 (hb s1 us I1.kIn hl) r2 q).mono fun r s' hq => ?_)
  cases r with
  | error e => exact hq.elim
  | ok fl =>
    cases fl with
    | ret u => exact I1.after hq
    | next => exact False.elim hq
    | brk => exact False.elim hq
    | cont => exact False.elim hq
/-- f(e), f a built-in function, where e runs over any stack -/
theorem je_callB {te : TE} {r : List V → Hp → VK → Prop} (hc : CallR Y.nox (.builtin id) r) (hg : Gl Y x) (hm : Y.mg x = none) (hv : bootBuiltins x = some (.builtin id)) (ha : JE Y.nox e te) (hn : x ≠ "__name__" := by decide)
    (hdb : (x == ("__debug__" : Str)) = false := by decide) (he : starEach [e] Y.env = [(false, eval e Y.env)] := by rfl) :
    JE Y.nox (.Call (.Name x p) [e] [] pos) (fun σ H Q => te σ H fun v H1 => r [v] H1 Q) := by
  refine ⟨fun pins s σ H Q I h => gn_Call_Name (ld_blt I hg hm hv ?_ hn hdb)⟩
  show GoN _ _ (callWith pos (.builtin id) [] (backTo pos (starEach [e] Y.env)) []) _ s
  rw [he]
  refine gn_callWith (P := fun _ => True) rfl keeps_blt (gn_evalArgs1 ((ha.run pins s σ H _ I h).mono (fun v s1 q => ?_) fun _ _ z => z))
  obtain ⟨x, H1, I1, r1, q1⟩ := q
  exact ⟨trivial, GoA.of (hc pins s1 σ H1 [x] [v] Q I1 (.cons r1 .nil) q1)⟩
end
end Ork
end
section
set_option Elab.async false
set_option linter.all false
set_option maxRecDepth 100000
namespace Ork
open PySem L2 PySem.Spec PyProof.Rows
open Sem (wp)

/-- where a generator may hand out: a plain yield, or «yield from» over a generator -/
def MayYield (s : Shared) (c : Code) (gd : Bool) (fs : List Frame) : Prop :=
  splitAtGen fs = none ∧ fs.any Frame.guarded = false ∧
    (gd = false ∨ ∃ a r kw o n, c = .builtin "proto.yield_from" ⟨.ref a :: r, kw⟩ ∧ s.heap.get? a = some o ∧ o.genNumber? = some n)

abbrev REndJ := Nat → Result → Shared → Prop
abbrev YieldJ := Nat → Value → Shared → (Resume → Shared → Prop) → Prop

/-- a piece of a generator's run: up to its end (R) or to what it hands out (Y), which says how it goes on -/
def SegJ (M : Model) (A : Around) (R : REndJ) (Y : YieldJ) : Nat → Code → Sem PySem.Fin → List Frame → Shared → Prop
  | 0 => fun c t fs s => ∀ (Φ : Shared → Thread → Prop) (Γ : PySem.Ctx) (p : Pos) (base : List Frame), Γ.code = c → Γ.Woken A → Γ.Fits base →
      (∀ r c' p' s', R 0 r s' → Go M Φ s' ⟨leafOf r, c', p', base⟩) →
      (∀ v gd l k c' p' fs' s', MayYield s' c' gd fs' → Y 0 v s' (fun _ _ => False) → Go M Φ s' ⟨.yield v gd l k, c', p', fs' ++ base⟩) →
      Go M Φ s ⟨t, c, p, fs ++ base⟩
  | n + 1 => fun c t fs s => ∀ (Φ : Shared → Thread → Prop) (Γ : PySem.Ctx) (p : Pos) (base : List Frame), Γ.code = c → Γ.Woken A → Γ.Fits base →
      (∀ r c' p' s', R (n + 1) r s' → Go M Φ s' ⟨leafOf r, c', p', base⟩) →
      (∀ v gd l k c' p' fs' s', MayYield s' c' gd fs' → Y (n + 1) v s' (fun res s'' => SegJ M A R Y n c' (k res) fs' s'') → Go M Φ s' ⟨.yield v gd l k, c', p', fs' ++ base⟩) →
      Go M Φ s ⟨t, c, p, fs ++ base⟩

/-- what follows behind a yield -/
def NextJ (M : Model) (A : Around) (R : REndJ) (Y : YieldJ) : Nat → Code → Sem PySem.Fin → List Frame → Shared → Prop
  | 0 => fun _ _ _ _ => False
  | n + 1 => SegJ M A R Y n

section
variable {M : Model} {A : Around} {R : REndJ} {Y : YieldJ} {n : Nat} {c : Code} {fs : List Frame} {s : Shared}
theorem segJ_iff {t : Sem PySem.Fin} : SegJ M A R Y n c t fs s ↔
    ∀ (Φ : Shared → Thread → Prop) (Γ : PySem.Ctx) (p : Pos) (base : List Frame), Γ.code = c → Γ.Woken A → Γ.Fits base →
      (∀ r c' p' s', R n r s' → Go M Φ s' ⟨leafOf r, c', p', base⟩) →
      (∀ v gd l k c' p' fs' s', MayYield s' c' gd fs' → Y n v s' (fun res s'' => NextJ M A R Y n c' (k res) fs' s'') → Go M Φ s' ⟨.yield v gd l k, c', p', fs' ++ base⟩) →
      Go M Φ s ⟨t, c, p, fs ++ base⟩ := by
  cases n <;> exact Iff.rfl

theorem sj_wrap {α : Type} {m : Sem α} {K : α → Sem PySem.Fin} {H : Value → Sem PySem.Fin} {gd lv}
    (h : GoA M (A.over c fs) m (fun a s' => SegJ M A R Y n c (K a) fs s') (fun x s' => SegJ M A R Y n c (H x) fs s') s) : SegJ M A R Y n c (m.wrap K H gd lv) fs s := by
  rw [segJ_iff]
  intro Φ Γ p base hc hw hf kR kY
  subst hc
  exact h Φ (Γ.over fs) (fs ++ base) p K H gd lv (hf.over fs) (hw.over fs) (fun a p' s' q => segJ_iff.mp q Φ Γ p' base rfl hw hf kR kY) fun x p' s' q => segJ_iff.mp q Φ Γ p' base rfl hw hf kR kY
theorem sj_bind {α : Type} {m : Sem α} {K : α → Sem PySem.Fin}
    (h : GoA M (A.over c fs) m (fun a s' => SegJ M A R Y n c (K a) fs s') (fun x s' => SegJ M A R Y n c (.raise x) fs s') s) : SegJ M A R Y n c (m >>= K) fs s := by
  rw [Sem.bind_eq_wrap']
  exact sj_wrap h
/-- the same where m is one of a def's statement: K is wrapped itself -/
theorem sj_bind_wrap {α β : Type} {m : Sem α} {K : α → Sem β} {K' : β → Sem PySem.Fin} {H' : Value → Sem PySem.Fin} {gd lv}
    (h : GoA M (A.over c fs) m (fun a s' => SegJ M A R Y n c ((K a).wrap K' H' gd lv) fs s') (fun x s' => SegJ M A R Y n c (H' x) fs s') s) :
    SegJ M A R Y n c ((m >>= K).wrap K' H' gd lv) fs s := by
  rw [Sem.bind_eq_wrap', Sem.wrap_wrap]
  exact sj_wrap h
theorem sj_at {p' : Pos} {k : Unit → Sem PySem.Fin} (h : SegJ M A R Y n c (k ()) fs s) : SegJ M A R Y n c (.at p' k) fs s :=
  sj_wrap (m := standAt p') (K := k) (H := .raise) (gd := id) (lv := id) (GoA.of (wpAny_standAt h))
theorem sj_point {l : List Value} {k : Unit → Sem PySem.Fin} (h : SegJ M A R Y n c (k ()) fs s) : SegJ M A R Y n c (.point l k) fs s :=
  sj_wrap (m := point) (K := k) (H := .raise) (gd := id) (lv := fun _ => l) (GoA.of (wpAny_point h))
theorem sj_call {c' : Code} {h g l} {k : Result → Sem PySem.Fin} (hc : ∀ p, SegJ M A R Y n c' (M.den c') (.ret k h g l c p [] :: fs) s) : SegJ M A R Y n c (.call c' h g l k) fs s := by
  rw [segJ_iff]
  intro Φ Γ p base hcode hw hf kR kY
  subst hcode
  exact Go.ofStep (step_call ..) (segJ_iff.mp (hc p) Φ (Γ.goto c') p base rfl (hw.goto c') (hf.goto c') kR kY)
theorem sj_leaf {k h g l c₁ p₁ kp} (r : Result) (hk : SegJ M A R Y n c₁ (k r) fs s) : SegJ M A R Y n c (leafOf r) (.ret k h g l c₁ p₁ kp :: fs) s := by
  rw [segJ_iff]
  intro Φ Γ p base hcode hw hf kR kY
  subst hcode
  exact Go.ofStep (step_leaf_ret ..) (segJ_iff.mp hk Φ (Γ.goto c₁) p₁ base rfl (hw.goto c₁) (hf.goto c₁) kR kY)
theorem sj_again {c' : Code} (hq : c'.quiet = true) (hc : SegJ M A R Y n c' (M.den c') fs s) : SegJ M A R Y n c (.pure (.again c')) fs s := by
  rw [segJ_iff]
  intro Φ Γ p base hcode hw hf kR kY
  subst hcode
  exact Go.ofStep (step_again M s Γ.code p _ c' hq) (segJ_iff.mp hc Φ (Γ.goto c') p base rfl (hw.goto c') (hf.goto c') kR kY)
theorem sj_end (r : Result) (h : R n r s) : SegJ M A R Y n c (leafOf r) [] s := by
  rw [segJ_iff]
  intro Φ Γ p base _ _ _ kR _
  exact kR r c p s h
theorem sj_yield {v g l} {k : Resume → Sem PySem.Fin} (hm : MayYield s c g fs) (h : Y (n + 1) v s fun r s'' => SegJ M A R Y n c (k r) fs s'') : SegJ M A R Y (n + 1) c (.yield v g l k) fs s := by
  intro Φ Γ p base _ _ _ _ kY
  exact kY v g l k c p fs s hm h
/-- a plain end and a plain protocol are handed on -/
theorem segJ_imp {R' : REndJ} {Y' : YieldJ} (hR : ∀ n r s, R n r s → R' n r s)
    (hY : ∀ n v s kap kap', (∀ r s', kap r s' → kap' r s') → Y n v s kap → Y' n v s kap') : ∀ (n : Nat) {c : Code} {t : Sem PySem.Fin} {fs : List Frame} {s : Shared}, SegJ M A R Y n c t fs s → SegJ M A R' Y' n c t fs s := by
  intro n
  induction n with
  | zero =>
    intro c t fs s h Φ Γ p base hc hw hf kR kY
    exact h Φ Γ p base hc hw hf (fun r c' p' s' q => kR r c' p' s' (hR _ _ _ q)) fun v gd l k c' p' fs' s' hm q => kY v gd l k c' p' fs' s' hm (hY _ _ _ _ _ (fun _ _ z => z) q)
  | succ n ih =>
    intro c t fs s h Φ Γ p base hc hw hf kR kY
    exact h Φ Γ p base hc hw hf (fun r c' p' s' q => kR r c' p' s' (hR _ _ _ q)) fun v gd l k c' p' fs' s' hm q => kY v gd l k c' p' fs' s' hm (hY _ _ _ _ _ (fun _ _ z => ih z) q)

/-! ### a generator is woken -/
def GoesJ (M : Model) (A : Around) (R : REndJ) (Y : YieldJ) (n : Nat) (gs : GenState) (r : Resume) (s : Shared) : Prop :=
  match gs with
  | .fresh c => r = .send .none ∧ SegJ M A R Y n c (M.den c) [] s
  | .suspended k _ c _ fs _ => SegJ M A R Y n c (k r) fs s
  | _ => False
def GoesN (M : Model) (A : Around) (R : REndJ) (Y : YieldJ) : Nat → GenState → Resume → Shared → Prop
  | 0 => fun _ _ _ => False
  | n + 1 => GoesJ M A R Y n

theorem go_yield {Φ : Shared → Thread → Prop} {v gd l k c' p' fs' s'} {g kk ll cc pp st} (hm : MayYield s' c' gd fs')
    (h : Go M Φ (s'.setGen g (.suspended k l c' p' fs' (gd || fs'.any Frame.guarded))) ⟨kk (.yielded v), cc, pp, st⟩) :
    Go M Φ s' ⟨.yield v gd l k, c', p', fs' ++ .gen g kk ll cc pp :: st⟩ := by
  obtain ⟨h1, h2, h3⟩ := hm
  have hsp : splitAtGen (fs' ++ .gen g kk ll cc pp :: st) = some (fs', (g, kk, cc, pp), st) := by
    rw [splitAtGen_append_none _ h1, splitAtGen_gen]
    simp
  have hst : stepK M.den M.prog M.w s' ⟨.yield v gd l k, c', p', fs' ++ .gen g kk ll cc pp :: st⟩ =
      .go (s'.setGen g (.suspended k l c' p' fs' (gd || fs'.any Frame.guarded))) ⟨kk (.yielded v), cc, pp, st⟩ := by
    simp only [stepK, step, hsp]
    rfl
  refine Go.step ?_ hst h
  rcases h3 with h3 | ⟨a, r, kw, o, nn, rfl, ho, hn⟩
  · refine .inl ?_
    rw [Thread.loud_yield v gd l k c' p' hsp, h2, h3]
    rfl
  · refine .inr ?_
    unfold soft
    simp only [ho, hn, hsp, h2]
    rfl

theorem GoA.resume {α : Type} {E : Value → Shared → Prop} {g : Nat} {gs : GenState} {l : List Value} {k : GenResult → Sem α} {Q : α → Shared → Prop} (hg : s.gens[g]? = some gs)
    (hgo : GoesJ M A R Y n gs (.send .none) (s.setGen g .running))
    (hR : ∀ r s₁, R n r s₁ → GoA M A (k (End.ret r).result) Q E (s₁.setGen g .finished))
    (hY : ∀ v s₁ gs', Y n v s₁ (fun r s'' => GoesN M A R Y n gs' r s'') → GoA M A (k (.yielded v)) Q E (s₁.setGen g gs')) : GoA M A (.resume g (.send .none) l k) Q E s := by
  intro Φ Γ st p K H gd lv hf hA kQ kE
  have hW : ∀ c, (Γ.wake c p).Woken A := fun c => hA.wake c p
  have fin : ∀ (c₀ : Code) (p₀ : Pos) (t : Sem PySem.Fin) (fs : List Frame), SegJ M A R Y n c₀ t fs (s.setGen g .running) →
      Go M Φ (s.setGen g .running) ⟨t, c₀, p₀, fs ++ .gen g (fun x => (k x).wrap K H gd lv) (lv l) Γ.code p :: st⟩ := by
    intro c₀ p₀ t fs h
    refine segJ_iff.mp h Φ (Γ.wake c₀ p) p₀ _ rfl (hW c₀) (hf.wake c₀ g _ _ p) (fun r c' p' s' q => ?_) fun v gd' l' k' c' p' fs' s' hm q => ?_
    · exact Go.ofStep (step_leaf_gen ..) (hR r s' q Φ Γ st p K H gd lv hf hA kQ kE)
    · refine go_yield hm (hY v s' _ ?_ Φ Γ st p K H gd lv hf hA kQ kE)
      cases n with
      | zero => exact q
      | succ m => exact q
  cases gs with
  | fresh c => exact Go.ofStep (step_resume_fresh M s _ _ _ _ _ hg) (fin c p _ [] hgo.2)
  | suspended k₀ l₀ c₀ p₀ fs cl => exact Go.ofStep (step_resume_suspended M s _ _ _ _ _ _ hg) (fin c₀ p₀ _ fs hgo)
  | running => exact hgo.elim
  | finished => exact hgo.elim
end
end Ork
end
section
set_option Elab.async false
set_option linter.all false
set_option maxRecDepth 100000
namespace Ork
open PySem L2 PySem.Spec PyProof.Rows
open Sem (wp)

/-- a generator's object, with the mark that a delegator leaves on it -/
def GenAt (h : Heap) (a : Addr) (g : Nat) (m : Int) : Prop :=
  ∃ o nm qn, h.get? a = some o ∧ o.cls = .type "generator" ∧ o.data = .fields #[.int g 0, nm, qn] ∧ ((o.slots = #[] ∧ m = 0) ∨ o.slots = #[some (rawInt m)])
theorem GenAt.typeIs {s : Shared} {a : Addr} {g : Nat} {m : Int} (x : GenAt s.heap a g m) : s.TypeIs (.ref a) "generator" := let ⟨o, _, _, ho, hc, _⟩ := x; ⟨o, ho, hc⟩
theorem GenAt.of {h : Heap} {a : Addr} {g : Nat} (x : h.IsGen a g) : GenAt h a g 0 := let ⟨o, nm, qn, ho, hc, hd, hs⟩ := x; ⟨o, nm, qn, ho, hc, hd, .inl ⟨hs, rfl⟩⟩
theorem GenAt.at {h h' : Heap} {a : Addr} {g : Nat} {m : Int} (x : GenAt h a g m) (k : ∀ o, h.get? a = some o → h'.get? a = some o) : GenAt h' a g m := let ⟨o, nm, qn, ho, r⟩ := x; ⟨o, nm, qn, k o ho, r⟩
theorem GenAt.number {h : Heap} {a : Addr} {g : Nat} {m : Int} (x : GenAt h a g m) : ∃ o n, h.get? a = some o ∧ o.genNumber? = some n := by
  obtain ⟨o, nm, qn, ho, hc, hd, _⟩ := x
  exact ⟨o, g, ho, by unfold Obj.genNumber?; rw [hc, hd]; rfl⟩
theorem GenAt.there {h : Heap} {a : Addr} {g : Nat} {m : Int} (x : GenAt h a g m) : ∃ o, h.get? a = some o := let ⟨o, _, _, ho, _⟩ := x; ⟨o, ho⟩

section
variable {M : Model} {A : Around} {s : Shared} {E : Value → Shared → Prop}
theorem wp_genNumber {a : Addr} {g : Nat} {Q : Nat → Shared → Prop} (hg : GenAt s.heap a g 0) (h : Q g s) : wpAny M A (Builtin.Generator.genNumber (.ref a)) Q E s := by
  obtain ⟨ob, n1, n2, there, _, flds, slots⟩ := hg
  have done : wpAny M A (pure ((g : Int).toNat)) Q E s := by
    rw [Int.toNat_natCast]
    exact wpAny_pure h
  unfold Builtin.Generator.genNumber; refine wpAny_bind (wpAny_load there ?_)
  rcases slots with ⟨slots, _⟩ | slots <;> (rw [slots, flds]; exact done)
/-- the mark is set, or taken away -/
theorem wp_sleptOver {a : Addr} {g : Nat} {m : Int} {b : Bool} {Q : Unit → Shared → Prop} (hg : GenAt s.heap a g m)
    (h : ∀ h', GenAt h' a g (if b = true then m + 1 else m - 1) → (∀ c o, c ≠ a → s.heap.get? c = some o → h'.get? c = some o) → Q () { s with heap := h' }) :
    wpAny M A (Builtin.Generator.sleptOver (.ref a) b) Q E s := by
  obtain ⟨o, nm, qn, ho, hc, hd, hsl⟩ := hg
  unfold Builtin.Generator.sleptOver; refine wpAny_bind (wpAny_load ho ?_)
  rw [hc, if_neg (by decide)]
  have go : ∀ v : Value, (v = rawInt (if b = true then m + 1 else m - 1)) → wpAny M A (setSlotAt a 0 (some v)) Q E s := by
    intro v hv
    subst hv
    unfold setSlotAt
    rw [if_neg (by decide)]
    refine wpAny_updatePart ho (h _ ?_ fun c o' hne e => (Heap.get?_update_other _ _ (Ne.symm hne)).trans e)
    refine ⟨_, nm, qn, Heap.get?_update_self _ ho ?_, hc, hd, .inr ?_⟩
    · exact Obj.isFreed_of_fields (vs := #[.int g 0, nm, qn]) hd
    · rcases hsl with ⟨hsl, _⟩ | hsl <;> rw [hsl] <;> rfl
  rcases hsl with ⟨hs0, hm⟩ | hs0
  · subst hm
    rw [hs0]
    exact go _ (by cases b <;> rfl)
  · rw [hs0]
    exact go _ (by cases b <;> rfl)
end

theorem slot_close : typeLookup (.type "generator") "close" = pure (some (.builtin "generator.close")) := by
  rw [typeLookup_type, builtinLookup_eq_fast]; kernel_rfl

section
variable {prog : Program} {w : World} {A : Around} {E : Value → Shared → Prop} {s : Shared} {R : REndJ} {Y : YieldJ}
theorem gj_call_builtin {RR : Result → Shared → Prop} {id : String} {args : Args} {b : Builtin} (hq : plainId id = true) (hb : entryFor table id = some b)
    (h : wpAny (model prog w) A.in1 (checkBuiltinCall id args) (fun _ s₁ => GoA (model prog w) A.in1 (b args) (fun fin s' => match fin with
      | .done f => RR (.ok f) s'
      | .again c' => c'.quiet = true ∧ codeJ (model prog w) A c' RR s') (fun e s' => RR (.error e) s') s₁) (fun e s' => RR (.error e) s') s) :
    codeJ (model prog w) A (.call (.builtin id) args) RR s := by
  refine codeJ.ofTree ?_
  show GoA _ A.in1 (do checkBuiltinCall id args; again (.builtin id args)) _ _ s
  refine GoA.bindW (wpAny_mono h (fun _ s₁ h₁ => GoA.pure ⟨plainId_quiet hq args, gj_builtin hb ?_⟩) fun _ _ z => z)
  rw [Around.under_plainId hq args]
  exact h₁

/-- one turn of a generator: it hands something out, or it has ended -/
theorem gj_next {a : Addr} {g n : Nat} {gs : GenState} {Q : Option Value → Shared → Prop} (hh : A.handled = none) (hl : s.heap.NoLimit) (hroom : A.depth < recursionLimit) (hg : GenAt s.heap a g 0) (hgs : s.gens[g]? = some gs)
    (hgo : GoesJ (model prog w) A.in1 R Y n gs (.send .none) (s.setGen g .running))
    (hY : ∀ v s₁ gs', Y n v s₁ (fun r s'' => GoesN (model prog w) A.in1 R Y n gs' r s'') → Q (some v) (s₁.setGen g gs'))
    (hR : ∀ r s₁, R n r s₁ → (r = .ok (.ret .none) ∨ r = .ok .next) ∧
      ∀ e h', StopX e h' → (∀ b o, s₁.heap.get? b = some o → h'.get? b = some o) → E e { s₁.setGen g .finished with heap := h' }) :
    GoA (model prog w) A (callSpecial? (.ref a) "__next__") Q E s := by
  simp only [callSpecial?]
  refine GoA.bindW (wpAny_specialOf hg.typeIs slot_gen_next.lookup ?_)
  simp only [slot_gen_next.bind]
  refine GoA.holding (GoA.bindW (wpAny_pure (GoA.bind ?_)))
  refine GoA.call (gj_call_builtin slot_gen_next.plain entry_gen_next (slot_gen_next.check _ _ _ _ _ _ _ _ hg.typeIs (args_gen_next _) ?_))
  show GoA _ A.in1 (Builtin.Generator.genWake (.ref a) (.send .none)) _ _ s
  unfold Builtin.Generator.genWake; refine GoA.bindW (wpAny_holding (wp_genNumber hg (GoA.bindW (wpAny_genState hgs ?_))))
  cases gs with
  | running => exact hgo.elim
  | finished => exact hgo.elim
  | _ =>
    refine GoA.bindW (wpAny_roomToWake hl hroom ?_)
    refine GoA.resume (l := []) hgs hgo (fun r s₁ hr => ?_) (fun v s₁ gs' hv => ?_)
    · obtain ⟨hr, hE⟩ := hR r s₁ hr
      have hres : End.result (.ret r) = .returned .none := by
        rcases hr with e | e <;> (rw [e]; rfl)
      rw [hres]
      refine GoA.of ?_
      show wpAny (model prog w) A.in1 (newExc (.type "StopIteration") [] >>= _) _ _ _
      refine wpAny_bind ?_
      simp only [newExc, newTuple]
      refine wpAny_bind (wpAny_newObj_type (wpAny_bind (m := firstArgMember _ _) (wpAny_of_eq (a := .none) (by first | rfl | (simp only [firstArgMember]; rfl)) (wpAny_newObj_type ?_ (by size_fits)))) (by size_fits))
      simp only [raiseNew]
      have alone : A.in1.handled = none := hh
      refine wpAny_bind (wpAny_bind (wpAny_handled ?_)); rw [alone]; refine wpAny_throw ?_
      refine hE _ _ ⟨_, _, _, rfl, Heap.get?_push_size _ rfl, rfl, rfl, ?_⟩ fun b o e => Heap.get?_push_of_some _ (Heap.get?_push_of_some _ e)
      first | rfl | (rw [Array.getElem?_append_left (by decide)]; rfl) | kernel_rfl
    · exact GoA.pure (GoA.pure (hY v s₁ gs' hv))
end
end Ork
end
section
set_option Elab.async false
set_option linter.all false
set_option maxRecDepth 100000
set_option maxHeartbeats 1200000
namespace Ork
open PySem L2 PySem.Spec PyProof.Rows
open Sem (wp)

/-- the generator at a, number g: awake or asleep under no delegator (m = 0), or under one (m = 1) -/
abbrev oGen (a : Addr) (g : Nat) (m : Int) : HO := .ext fun h => GenAt h a g m
theorem oGen_ok {P : Program} {w : World} {H : Hp} {h : Heap} {a : Addr} {g : Nat} {m : Int} (x : GenAt h a g m) : ObjOk P w H h a (oGen a g m) :=
  ⟨x, x.there, fun _ _ y k => y.at k⟩
theorem oGen_at {P : Program} {w : World} {H : Hp} {h : Heap} {a : Addr} {g : Nat} {m : Int} (ok : HOk P w H h) (e : H a = some (oGen a g m)) : GenAt h a g m := (ok a _ e).1
/-- the generators below g may be closed without more ado -/
def BareLow (g : Nat) (G : Array GenState) : Prop := ∀ i x, i < g → G[i]? = some x → x.bare = true
/-- while the generator number g sleeps, x is put behind the list at S -/
structure SleptG (P : Program) (w : World) (g : Nat) (S : Addr) (H : Hp) (xs : List V) (x : V) (s s' : Shared) : Prop where
  os : s'.os = s.os
  ok : HOk P w (upd H S (.lst (xs ++ [x]))) s'.heap
  keep : ∀ b o, H b = none → s.heap.get? b = some o → s'.heap.get? b = some o
  there : ∀ b o, s.heap.get? b = some o → ∃ o', s'.heap.get? b = some o'
  low : BareLow g s'.gens
  own : s'.gens[g]? = some .running
  high : ∀ i, g < i → s'.gens[i]? = s.gens[i]?
/-- all that was tracked but the list at S is as it was -/
def SameBut (S : Addr) (H H' : Hp) : Prop := ∀ b o, b ≠ S → H b = some o → H' b = some o
/-- what is handed out, to a consumer that puts it behind the list at S; HW: the heap where the generator was first woken -/
def YG (P : Program) (w : World) (HW : Hp) (S : Addr) (g : Nat) : YieldJ := fun n v s kap => ∃ H xs x, SameBut S HW H ∧ 0 < n ∧ n + xs.length = sizeLine ∧ RelV x v ∧ HOk P w H s.heap ∧ H S = some (.lst xs) ∧ s.heap.NoLimit ∧ H cStatics = none ∧
  BareLow g s.gens ∧ g < s.gens.size ∧ ∀ s', SleptG P w g S H xs x s s' → kap (.send .none) s'

theorem nolimit_keep {h h' : Heap} (l : h.NoLimit) (k : ∀ o, h.get? cStatics = some o → h'.get? cStatics = some o) : h'.NoLimit := let ⟨mc, hns, hnn⟩ := l; ⟨mc, hns.at' k, hnn⟩
theorem setGen_self' {s : Shared} {g : Nat} {x : GenState} (h : g < s.gens.size) : (s.setGen g x).gens[g]? = some x := by
  simp [Shared.setGen, h]
theorem setGen_ne' {s : Shared} {g i : Nat} {x : GenState} (h : i ≠ g) : (s.setGen g x).gens[i]? = s.gens[i]? := by
  show (s.gens.setIfInBounds g x)[i]? = _; rw [Array.getElem?_setIfInBounds_ne (Ne.symm h)]
theorem setGen_sz {s : Shared} {g : Nat} {x : GenState} : (s.setGen g x).gens.size = s.gens.size := by simp [Shared.setGen]

section
variable {X : Cx} {A : Around} {R Ri : REndJ} {HW HI : Hp} {S it : Addr} {go gi : Nat} {fs : List Frame}
abbrev yfCode (it : Addr) : Code := .builtin "proto.yield_from" ⟨[.ref it, .bool false, .none], []⟩
/-- the turns of «yield from» over a generator -/
theorem sj_yf (hh : (A.over (yfCode it) fs).handled = none) (hd : (A.over (yfCode it) fs).depth < recursionLimit) (hsp : splitAtGen fs = none) (hgd : fs.any Frame.guarded = false)
    (hio : go < gi) (hSi : it ≠ S) (hW : HW it = none) (hI : HI it = some (oGen it gi 0)) (hWI : SameBut S HW HI)
    (hend : ∀ n r s, Ri n r s → (r = .ok (.ret .none) ∨ r = .ok .next) ∧ ∀ h', (∀ b o, s.heap.get? b = some o → h'.get? b = some o) →
      SegJ (model X.prog X.w) A R (YG X.prog X.w HW S go) n (yfCode it) (.pure (.done (.ret .none))) fs { s.setGen gi .finished with heap := h' }) :
    ∀ (n : Nat) (gs : GenState) (s : Shared), s.gens[gi]? = some gs → GenAt s.heap it gi 0 → s.heap.NoLimit →
      GoesJ (model X.prog X.w) (A.over (yfCode it) fs).in1 Ri (YG X.prog X.w HI S gi) n gs (.send .none) (s.setGen gi .running) →
      SegJ (model X.prog X.w) A R (YG X.prog X.w HW S go) n (yfCode it) ((model X.prog X.w).den (yfCode it)) fs s := by
  have turn : ∀ (n : Nat) (gs : GenState) (s : Shared), s.gens[gi]? = some gs → GenAt s.heap it gi 0 → s.heap.NoLimit →
      GoesJ (model X.prog X.w) (A.over (yfCode it) fs).in1 Ri (YG X.prog X.w HI S gi) n gs (.send .none) (s.setGen gi .running) →
      (∀ m gs s, n = m + 1 → s.gens[gi]? = some gs → GenAt s.heap it gi 0 → s.heap.NoLimit →
        GoesJ (model X.prog X.w) (A.over (yfCode it) fs).in1 Ri (YG X.prog X.w HI S gi) m gs (.send .none) (s.setGen gi .running) →
        SegJ (model X.prog X.w) A R (YG X.prog X.w HW S go) m (yfCode it) ((model X.prog X.w).den (yfCode it)) fs s) →
      SegJ (model X.prog X.w) A R (YG X.prog X.w HW S go) n (yfCode it) ((model X.prog X.w).den (yfCode it)) fs s := by
    intro n gs s hgs hg hl hgo ih
    rw [den_yf]
    unfold Builtin.«proto.yield_from»; refine sj_bind (GoA.of (wpAny_pure ?_))
    refine sj_bind (GoA.attempt (GoA.holding ?_))
    have nn : (Value.none == Value.none) = true := rfl
    rw [if_neg Bool.false_ne_true, if_pos nn]
    refine GoA.bindW (wpAny_rule (GoA.bind ?_))
    refine gj_next hh hl hd hg hgs hgo (fun v s₁ gs' hv => GoA.pure ?_) (fun r s₁ hr => ?_)
    · obtain ⟨H, xs, x, hK, h0, hn, rv, ok, hS, hl1, hcs, hlow, hlt, hk⟩ := hv
      obtain ⟨m, rfl⟩ : ∃ j, n = j + 1 := ⟨n - 1, by omega⟩
      have hIt : H it = some (oGen it gi 0) := hK it _ hSi hI
      have gAt : GenAt s₁.heap it gi 0 := oGen_at ok hIt
      have mu : Mut (H it) := by rw [hIt]; trivial
      dsimp only
      refine sj_bind (GoA.of (wpAny_typeOf (s := s₁.setGen gi gs') gAt.typeIs ?_))
      dsimp only
      first
        | (refine sj_bind (GoA.of (wpAny_of_eq slot_close ?_)); refine sj_bind (GoA.of (wpAny_pure ?_)))
        | refine sj_bind (GoA.of (wpAny_of_eq slot_close ?_))
      refine sj_bind (GoA.of (wp_sleptOver (s := s₁.setGen gi gs') gAt fun h2 g2 k2 => ?_))
      rw [if_pos rfl] at g2
      refine sj_yield ⟨hsp, hgd, .inr ?_⟩ ?_
      · obtain ⟨o, nn, ho, hnn⟩ := g2.number
        exact ⟨it, _, _, o, nn, rfl, ho, hnn⟩
      have ok2 : HOk X.prog X.w (upd H it (oGen it gi 1)) h2 := ok.write mu (.inl rfl) (fun b u hb e => k2 b u hb e) g2.there (oGen_ok g2)
      have H1n : ∀ b, H b = none → upd H it (oGen it gi 1) b = none := fun b e => by
        rw [upd_ne (by rintro rfl; rw [hIt] at e; cases e)]; exact e
      have itn : ∀ b, H b = none → b ≠ it := fun b e z => by rw [z, hIt] at e; cases e
      refine ⟨upd H it (oGen it gi 1), xs, x, fun b o hb e => ?_, Nat.succ_pos m, hn, rv, ok2, ?_, ?_, H1n _ hcs, ?_, ?_, fun s' z => ?_⟩
      · rw [upd_ne (by rintro rfl; rw [hW] at e; cases e)]
        exact hK b o hb (hWI b o hb e)
      · rw [upd_ne (Ne.symm hSi)]; exact hS
      · exact nolimit_keep hl1 fun o e => k2 cStatics o (itn _ hcs) e
      · intro i y hi e
        rw [show ({ s₁.setGen gi gs' with heap := h2 } : Shared).gens = (s₁.setGen gi gs').gens from rfl, setGen_ne' (by omega)] at e
        exact hlow i y (by omega) e
      · show go < (s₁.setGen gi gs').gens.size
        rw [setGen_sz]; omega
      -- woken again
      have gz : GenAt s'.heap it gi 1 := oGen_at z.ok (by rw [upd_ne hSi, upd_same])
      show SegJ _ _ _ _ _ _ (Builtin.Generator.sleptOver (.ref it) false >>= fun _ => _) fs s'
      refine sj_bind (GoA.of (wp_sleptOver gz fun h3 g3 k3 => ?_))
      rw [if_neg Bool.false_ne_true] at g3
      have g3 : GenAt h3 it gi 0 := g3
      refine sj_bind (GoA.of (wpAny_pure ?_))
      have e3 : upd (upd (upd H it (oGen it gi 1)) S (.lst (xs ++ [x]))) it (oGen it gi 0) = upd H S (.lst (xs ++ [x])) := by
        funext b
        by_cases h1 : b = it
        · subst h1; rw [upd_same, upd_ne hSi, hIt]
        · rw [upd_ne h1]
          by_cases h2 : b = S
          · subst h2; rw [upd_same, upd_same]
          · rw [upd_ne h2, upd_ne h2, upd_ne h1]
      have mu3 : Mut ((upd (upd H it (oGen it gi 1)) S (.lst (xs ++ [x]))) it) := by
        rw [upd_ne hSi, upd_same]; trivial
      have ok3 : HOk X.prog X.w (upd H S (.lst (xs ++ [x]))) h3 := by
        have q := z.ok.write mu3 (.inl rfl) (fun b u hb e => k3 b u hb e) g3.there (oGen_ok (g := gi) (m := 0) g3)
        rwa [e3] at q
      have keep3 : ∀ b o, H b = none → s₁.heap.get? b = some o → h3.get? b = some o := fun b o hb e =>
        k3 b o (itn b hb) (z.keep b o (H1n b hb) (k2 b o (itn b hb) e))
      have gsz : gi < s'.gens.size := by
        have q := z.high gi hio
        rw [show ({ s₁.setGen gi gs' with heap := h2 } : Shared).gens = (s₁.setGen gi gs').gens from rfl, setGen_self' hlt] at q
        exact (Array.getElem?_eq_some_iff.mp q).1
      refine sj_again (plainId_quiet plain_yf _) (ih m gs' { s' with heap := h3 } rfl ?_ g3 ?_ ?_)
      · show s'.gens[gi]? = some gs'
        rw [z.high gi hio]
        exact setGen_self' hlt
      · exact nolimit_keep hl1 fun o e => keep3 cStatics o hcs e
      · refine hk _ ⟨z.os, ok3, keep3, fun b o e => ?_, fun i y hi e => ?_, ?_, fun i hi => ?_⟩
        · by_cases hb : b = it
          · rw [hb]; exact g3.there
          · obtain ⟨o', e'⟩ := z.there b o (k2 b o hb e)
            exact ⟨o', k3 b o' hb e'⟩
        · rw [setGen_ne' (by omega)] at e
          have e : s'.gens[i]? = some y := e
          by_cases c1 : i < go
          · exact z.low i y c1 e
          · by_cases c2 : i = go
            · subst c2
              rw [z.own] at e; cases e; rfl
            · rw [z.high i (by omega)] at e
              rw [show ({ s₁.setGen gi gs' with heap := h2 } : Shared).gens = (s₁.setGen gi gs').gens from rfl, setGen_ne' (by omega)] at e
              exact hlow i y hi e
        · exact setGen_self' (s := { s' with heap := h3 }) gsz
        · rw [setGen_ne' (by omega)]
          show s'.gens[i]? = s₁.gens[i]?
          rw [z.high i (by omega)]
          exact setGen_ne' (by omega)
    · obtain ⟨hr, he⟩ := hend _ r s₁ hr
      refine ⟨hr, fun e h' hS hk => ?_⟩
      obtain ⟨ea, eo, fl, rfl, hoa, hcls, hdat, h5⟩ := hS
      have fin := he h' hk
      try dsimp only
      refine sj_bind (GoA.of (wpAny_endsTurn hoa hcls ?_))
      try dsimp only
      rw [if_pos rfl]
      first
        | refine sj_bind (GoA.of (wpAny_rule ?_))
        | (rw [if_neg Bool.false_ne_true]; refine sj_bind (GoA.of (wpAny_rule ?_)))
        | (rw [if_neg Bool.false_ne_true]; refine sj_bind (GoA.of (wpAny_pure ?_)); refine sj_bind (GoA.of (wpAny_rule ?_)))
      exact sj_bind (GoA.of (wpAny_field hoa hdat h5 fin))
  intro n
  induction n with
  | zero => exact fun gs s h1 h2 h3 h4 => turn 0 gs s h1 h2 h3 h4 fun m _ _ e => by cases e
  | succ m ih =>
    intro gs s h1 h2 h3 h4
    refine turn (m + 1) gs s h1 h2 h3 h4 fun m' gs s e => ?_
    cases e
    exact ih gs s
end
end Ork
end
section
set_option Elab.async false
set_option linter.all false
set_option maxRecDepth 100000
set_option maxHeartbeats 1200000
namespace Ork
open PySem L2 PySem.Spec PyProof.Rows
open Sem (wp)

/-- where a generator's code stands -/
structure GC (X : Cx) (A : Around) (c : Code) (fs : List Frame) (gd : Bool → Bool) : Prop where
  over : A.over c fs = X.A
  split : splitAtGen fs = none
  guard : (fs.any Frame.guarded) = false
  gd : gd false = false
/-- behind a statement: the list at S has the length that the turns left say -/
def GP (X : Cx) (S : Addr) (ip : List (Addr × Obj)) (n : Nat) (D : Ends) (f : Flow) (s : Shared) : Prop :=
  match f with
  | .next => ∃ σ H xs, Inv X ip σ H s ∧ H S = some (.lst xs) ∧ n + xs.length = sizeLine ∧ D.nx σ H
  | .brk => ∃ σ H xs, Inv X ip σ H s ∧ H S = some (.lst xs) ∧ n + xs.length = sizeLine ∧ D.bk σ H
  | .cont => ∃ σ H xs, Inv X ip σ H s ∧ H S = some (.lst xs) ∧ n + xs.length = sizeLine ∧ D.ct σ H
  | .ret u => ∃ v σ H xs, Inv X ip σ H s ∧ H S = some (.lst xs) ∧ n + xs.length = sizeLine ∧ RelV v u ∧ D.rt v H
def GK (X : Cx) (S : Addr) (HW : Hp) (g : Nat) (ip : List (Addr × Obj)) (A : Around) (R : REndJ) (c : Code) (fs : List Frame) (K : Flow → Sem PySem.Fin) (D : Ends) : Prop :=
  ∀ n s f, g < s.gens.size → GP X S ip n D f s → SegJ (model X.prog X.w) A R (YG X.prog X.w HW S g) n c (K f) fs s
structure GS (X : Cx) (S : Addr) (HW : Hp) (g : Nat) (st : Stmt) (t : TS) : Prop where
  run : ∀ (A : Around) (ip : List (Addr × Obj)) (R : REndJ) (n : Nat) (c : Code) (fs : List Frame) (K : Flow → Sem PySem.Fin) (J : Value → Sem PySem.Fin) (gd : Bool → Bool) (lv : List Value → List Value) (s : Shared) (σ : L2.St) (H : Hp) (xs : List V) (D : Ends),
    GC X A c fs gd → GK X S HW g ip A R c fs K D → Inv X ip σ H s → g < s.gens.size → H S = some (.lst xs) → n + xs.length = sizeLine → t D σ H →
    SegJ (model X.prog X.w) A R (YG X.prog X.w HW S g) n c ((exec st X.env).wrap K J gd lv) fs s
structure GSs (X : Cx) (S : Addr) (HW : Hp) (g : Nat) (st : List Stmt) (t : TS) : Prop where
  run : ∀ (A : Around) (ip : List (Addr × Obj)) (R : REndJ) (n : Nat) (c : Code) (fs : List Frame) (K : Flow → Sem PySem.Fin) (J : Value → Sem PySem.Fin) (gd : Bool → Bool) (lv : List Value → List Value) (s : Shared) (σ : L2.St) (H : Hp) (xs : List V) (D : Ends),
    GC X A c fs gd → GK X S HW g ip A R c fs K D → Inv X ip σ H s → g < s.gens.size → H S = some (.lst xs) → n + xs.length = sizeLine → t D σ H →
    SegJ (model X.prog X.w) A R (YG X.prog X.w HW S g) n c ((execs st X.env).wrap K J gd lv) fs s

/-- a wpAny run keeps the table of generators as long as it is -/
theorem gsz_mono {α : Type} {M : Model} {A : Around} {m : Sem α} {Q : α → Shared → Prop} {E : Value → Shared → Prop} {s : Shared} {n : Nat} (h : wpAny M A m Q E s) (hn : n ≤ s.gens.size) :
    wpAny M A m (fun a s' => n ≤ s'.gens.size ∧ Q a s') E s :=
  wpAny_mono (fun Γ p hΓ => GenW.wp_gsz M Γ n m _ _ p s hn (h Γ p hΓ) : wpAny M A m (fun a s' => n ≤ s'.gens.size ∧ Q a s') (fun e s' => n ≤ s'.gens.size ∧ E e s') s) (fun _ _ x => x) fun _ _ x => x.2

section
variable {Y : Cx} {S : Addr} {HW : Hp} {g : Nat} {st : Stmt} {rest : List Stmt} {pos : Pos}
/-- a statement that hands out nothing: the list at S stays -/
def Ends.still (S : Addr) (xs : List V) (D : Ends) : Ends where
  nx := fun σ H => H S = some (.lst xs) ∧ D.nx σ H
  rt := fun v H => H S = some (.lst xs) ∧ D.rt v H
  bk := fun σ H => H S = some (.lst xs) ∧ D.bk σ H
  ct := fun σ H => H S = some (.lst xs) ∧ D.ct σ H
def tStill (S : Addr) (t : TS) : TS := fun D σ H => ∀ xs, H S = some (.lst xs) → t (Ends.still S xs D) σ H
theorem gs_ps {t : TS} (h : PS Y.nox st t) : GS Y.nox S HW g st (tStill S t) := by
  refine ⟨fun A ip R n c fs K J gd lv s σ H xs D gc k I hg hS hn ht => sj_wrap ?_⟩
  rw [gc.over]
  refine GoA.of (wpAny_mono (gsz_mono (h.run ip s σ H _ I (ht xs hS)) (n := g + 1) hg) (fun f s' q => ?_) fun _ _ z => z.elim)
  obtain ⟨hsz, q⟩ := q
  refine k n s' f hsz ?_
  cases f with
  | next => obtain ⟨σ', H', I', h1, h2⟩ := q; exact ⟨σ', H', xs, I', h1, hn, h2⟩
  | brk => obtain ⟨σ', H', I', h1, h2⟩ := q; exact ⟨σ', H', xs, I', h1, hn, h2⟩
  | cont => obtain ⟨σ', H', I', h1, h2⟩ := q; exact ⟨σ', H', xs, I', h1, hn, h2⟩
  | ret u => obtain ⟨v, σ', H', I', rv, h1, h2⟩ := q; exact ⟨v, σ', H', xs, I', h1, hn, rv, h2⟩
theorem gss_nil : GSs Y.nox S HW g [] tNext := by
  refine ⟨fun A ip R n c fs K J gd lv s σ H xs D gc k I hg hS hn ht => ?_⟩
  exact k n s .next hg ⟨σ, H, xs, I, hS, hn, ht⟩
theorem gss_cons {t u : TS} (a : GS Y.nox S HW g st t) (b : GSs Y.nox S HW g rest u) : GSs Y.nox S HW g (st :: rest) (tSeq t u) := by
  refine ⟨fun A ip R n c fs K J gd lv s σ H xs D gc k I hg hS hn ht => ?_⟩
  rw [execs_cons_wrap]
  refine a.run A ip R n c fs _ J gd lv s σ H xs { D with nx := u D } gc (fun n' s' f hg' q => ?_) I hg hS hn ht
  cases f with
  | next =>
    obtain ⟨σ', H', xs', I', h1, h2, h3⟩ := q
    exact b.run A ip R n' c fs K J gd lv s' σ' H' xs' D gc k I' hg' h1 h2 h3
  | brk => exact k n' s' .brk hg' q
  | cont => exact k n' s' .cont hg' q
  | ret u => exact k n' s' (.ret u) hg' q
theorem gss_one {t : TS} (a : GS Y.nox S HW g st t) : GSs Y.nox S HW g [st] t := by
  refine ⟨fun A ip R n c fs K J gd lv s σ H xs D gc k I hg hS hn ht => ?_⟩
  rw [execs_cons_wrap]
  refine a.run A ip R n c fs _ J gd lv s σ H xs D gc (fun n' s' f hg' q => ?_) I hg hS hn ht
  cases f with
  | next => exact k n' s' .next hg' q
  | brk => exact k n' s' .brk hg' q
  | cont => exact k n' s' .cont hg' q
  | ret u => exact k n' s' (.ret u) hg' q
/-- a test that leaves the list at S alone -/
def tIfG (S : Addr) (c : TT) (t u : TS) : TS := fun D σ H => ∀ xs, H S = some (.lst xs) → c σ H fun b H1 => H1 S = some (.lst xs) ∧ if b = true then t D σ H1 else u D σ H1
theorem gs_if {test : Expr} {a b : List Stmt} {tc : TT} {t u : TS} (hc : PT Y.nox test tc) (ha : GSs Y.nox S HW g a t) (hb : GSs Y.nox S HW g b u) : GS Y.nox S HW g (.If test a b pos) (tIfG S tc t u) := by
  refine ⟨fun A ip R n c fs K J gd lv s σ H xs D gc k I hg hS hn ht => ?_⟩
  rw [exec_If]
  refine sj_bind_wrap (GoA.of (wpAny_standAt ?_))
  refine sj_bind_wrap ?_
  rw [gc.over]
  refine GoA.of (wpAny_mono (gsz_mono (hc.run ip s σ H _ I (ht xs hS)) (n := g + 1) hg) (fun d s' q => ?_) fun _ _ z => z.elim)
  obtain ⟨hsz, H', I', h1, h2⟩ := q
  cases d with
  | true =>
    rw [if_pos rfl] at h2 ⊢
    exact ha.run A ip R n c fs K J gd lv s' σ H' xs D gc k I' hsz h1 hn h2
  | false =>
    rw [if_neg Bool.false_ne_true] at h2 ⊢
    exact hb.run A ip R n c fs K J gd lv s' σ H' xs D gc k I' hsz h1 hn h2

theorem inv_woken {X : Cx} {ip : List (Addr × Obj)} {σ : L2.St} {H H' : Hp} {s s' : Shared} {S : Addr} {xs xs' : List V} (I : Inv X ip σ H s) (hS : H S = some (.lst xs)) (hH : H' = upd H S (.lst xs')) (os : s'.os = s.os) (ok : HOk X.prog X.w H' s'.heap)
    (keep : ∀ b o, H b = none → s.heap.get? b = some o → s'.heap.get? b = some o) (there : ∀ b o, s.heap.get? b = some o → ∃ o', s'.heap.get? b = some o') (bare : AllBare s'.gens) : Inv X ip σ H' s' := by
  subst hH
  have nS : ∀ b u, H b = some u → (∀ ys, u ≠ .lst ys) → b ≠ S := fun b u e hu z => by rw [z, hS] at e; cases e; exact hu _ rfl
  refine I.call' (ch := []) os ⟨fun b o e n _ _ => keep b o n e, fun b o e n _ _ => ⟨o.slots, keep b o n e⟩, fun b o e n _ => ?_, fun b o e _ => there b o e, fun b ys e => ?_, fun b o u e => ?_, fun b ps e => ⟨#[], ?_⟩⟩ ok bare fun b z => by simp at z
  · rw [upd_ne (fun z => by rw [z, hS] at n; cases n)]; exact n
  · rw [upd_ne (nS b _ e fun _ z => by cases z)]; exact e
  · rw [upd_ne (nS b _ e fun _ z => by cases z)]; exact e
  · rw [upd_ne (nS b _ e fun _ z => by cases z), e]; simp
/-- the table's bare part, put together -/
theorem allBare_of {g : Nat} {G G' : Array GenState} (hb : AllBare G) (low : BareLow g G') (own : G'[g]? = some .running) (high : ∀ i, g < i → G'[i]? = G[i]?) : AllBare G' := fun x hx => by
  obtain ⟨i, hi, e⟩ := Array.mem_iff_getElem.mp hx
  have e' : G'[i]? = some x := by rw [Array.getElem?_eq_getElem hi, e]
  rcases Nat.lt_trichotomy i g with z | z | z
  · exact low i x z e'
  · subst z; rw [own] at e'; cases e'; rfl
  · rw [high i z] at e'
    exact hb x (Array.mem_of_getElem? e')
theorem bareLow_of {g : Nat} {G : Array GenState} (hb : AllBare G) : BareLow g G := fun _ x _ e => hb x (Array.mem_of_getElem? e)
theorem statics_free {X : Cx} {ip : List (Addr × Obj)} {σ : L2.St} {H : Hp} {s : Shared} (I : Inv X ip σ H s) : H cStatics = none := by
  obtain ⟨mc, ⟨o, es, ep, ho, _⟩, _⟩ := I.ok.mod.nolimit
  exact (I.bs cStatics o ho).2

/-! ### yield -/
def tYield (S : Addr) (HW : Hp) (te : TE) : TS := fun D σ H => ∀ xs, H S = some (.lst xs) → xs.length < sizeLine ∧ te σ H fun x H1 => H1 S = some (.lst xs) ∧ SameBut S HW H1 ∧ D.nx σ (upd H1 S (.lst (xs ++ [x])))
theorem gs_yield {e : Expr} {yp : Pos} {te : TE} (he : PE Y.nox e te) (hco : Y.env.scope.isCoroutine = false := by rfl) (hi : interactive Y.env = false := by rfl) : GS Y.nox S HW g (.Expr (.Yield (some e) yp) pos) (tYield S HW te) := by
  refine ⟨fun A ip R n c fs K J gd lv s σ H xs D gc k I hg hS hn ht => ?_⟩
  obtain ⟨hlt, ht⟩ := ht xs hS
  obtain ⟨n, rfl⟩ : ∃ j, n = j + 1 := ⟨n - 1, by omega⟩
  rw [exec_Expr Y.nox.env _ pos hi rfl]
  show SegJ _ _ _ _ (n + 1) c (.at pos fun _ => ((eval e Y.env >>= fun v => (standAt yp >>= fun _ => yieldOut Y.env v)) >>= fun x => dropValue (.Yield (some e) yp) pos x).wrap K J gd lv) fs s
  have hy : ∀ v, yieldOut Y.env v = yieldValue v := fun v => by simp only [yieldOut, hco, Bool.false_eq_true, if_false]
  simp only [hy]
  refine sj_at ?_
  rw [Sem.bind_eq_wrap', Sem.bind_eq_wrap', Sem.wrap_wrap, Sem.wrap_wrap]; refine sj_wrap ?_
  rw [gc.over]
  refine GoA.of (wpAny_mono (gsz_mono (he.run ip s σ H _ I ht) (n := g + 1) hg) (fun v s' q => ?_) fun _ _ z => z.elim)
  obtain ⟨hsz, x, H1, I1, rv, h1, h2, h3⟩ := q
  refine sj_at ?_
  refine sj_yield ⟨gc.split, gc.guard, .inl gc.gd⟩ ?_
  refine ⟨H1, xs, x, h2, Nat.succ_pos n, hn, rv, I1.hok, h1, I1.nolimit, statics_free I1, bareLow_of I1.bare, hsz, fun s'' z => ?_⟩
  have bare := allBare_of I1.bare z.low z.own z.high
  have I2 := inv_woken I1 h1 rfl z.os z.ok z.keep z.there bare
  refine k n s'' .next (Array.getElem?_eq_some_iff.mp z.own).1 ⟨σ, _, xs ++ [x], I2, upd_same, ?_, h3⟩
  simp only [List.length_append, List.length_singleton]; omega
end
end Ork
end
section
set_option Elab.async false
set_option linter.all false
set_option maxRecDepth 100000
set_option maxHeartbeats 1200000
namespace Ork
open PySem L2 PySem.Spec PyProof.Rows
open Sem (wp)

section
variable {Y : Cx} {S : Addr} {HW : Hp} {g : Nat} {st : Stmt} {rest : List Stmt} {pos : Pos}
/-- for, in a generator: what it walks is plain, its block may hand out; the iterable leaves the list at S alone -/
def tForG (S : Addr) (wi : TI) (tg : TG) (tb : TS) : TS := fun D σ H => ∀ xs, H S = some (.lst xs) → wi σ H fun J H1 => H1 S = some (.lst xs) ∧ ∃ W : Nat → Nat → L2.St → Hp → Prop, (∃ m, W 0 m σ H1) ∧ ∀ i m σ H xs, H S = some (.lst xs) → W i m σ H →
  (J.stop i H ∧ D.nx σ H) ∨ (J.go i H ∧ ∃ N : L2.St → Hp → Prop, (∀ σ' H', N σ' H' → ∃ m', m' < m ∧ W (i + 1) m' σ' H') ∧
    ∀ x H', J.yld i H x H' → H' S = some (.lst xs) ∧ tg x σ H' fun σ2 H2 => H2 S = some (.lst xs) ∧ tb { D with nx := N, ct := N, bk := D.nx } σ2 H2)
theorem gc_loop {A : Around} {c c' : Code} {fs : List Frame} {gd : Bool → Bool} {k : Result → Sem PySem.Fin} {l kp : List Value} {p : Pos} {X : Cx} (z : GC X A c fs gd) (hw : c'.weight = 0) (hu : c'.cUnits = 0) :
    GC X A c' (.ret k none (gd false) l c p kp :: fs) id where
  over := (GenW.over_loop hw hu).trans z.over
  split := by
    show (splitAtGen fs).map _ = none; rw [z.split]; rfl
  guard := by
    show (gd false || fs.any Frame.guarded) = false; rw [z.gd, z.guard]; rfl
  gd := rfl
theorem gs_for {tg iter : Expr} {body : List Stmt} {wi : TI} {gt : TG} {tb : TS} (hc : Y.calm = true) (hi : PI Y.nox tg iter wi) (hg : PG Y.nox tg gt) (hb : GSs Y.nox S HW g body tb)
    (hs : ∀ x, foldedSetIterable iter Y.env x = pure x := by intro _; rfl) : GS Y.nox S HW g (.For tg iter body [] pos) (tForG S wi gt tb) := by
  refine ⟨fun A ip R n c fs K J gd lv s σ H xs D gc k I hgs hS hn ht => ?_⟩
  rw [exec_For]
  refine sj_bind_wrap (GoA.of (wpAny_standAt ?_))
  refine sj_bind_wrap ?_
  rw [gc.over]
  refine GoA.of (wpAny_mono (gsz_mono (hi.run ip s σ H _ I (ht xs hS)) (n := g + 1) hgs) (fun v s1 h1 => ?_) fun _ _ z => z.elim)
  obtain ⟨hz1, h1⟩ := h1
  refine sj_bind_wrap (GoA.of (wpAny_of_eq (hs v) ?_))
  refine sj_bind_wrap (GoA.of (wpAny_standAt ?_))
  refine sj_bind_wrap (GoA.of (wpAny_holding ?_))
  rw [gc.over]
  refine wpAny_mono (gsz_mono h1 (n := g + 1) hz1) (fun itv s2 h2 => ?_) fun _ _ z => z.elim
  obtain ⟨hz2, it, fp, tn, Jt, H2, e, I2, T, st2, f2, hS2, W, ⟨m0, w0⟩, turn⟩ := h2
  subst e
  have stat : ∀ {H' : Hp}, (∀ b ∈ fp, H' b = none) → ∀ b ∈ fp, FpOk Y.nox ip H' b := fun hn b hb => ⟨hn b hb, (f2 b hb).2⟩
  refine sj_call (c' := .forLoop tg (.ref it) body [] Y.env) (h := none) (g := gd false) (l := lv []) (k := fun r => ((match r with
    | .ok f => (.pure f : Sem Flow)
    | .error e => .raise e).onRaise (cameBack Y.env)).wrap K J gd lv) fun p => ?_
  have gl := fun (kk : Result → Sem PySem.Fin) => gc_loop (k := kk) (c' := .forLoop tg (.ref it) body [] Y.env) (l := lv []) (kp := []) (p := p) gc rfl rfl
  have loop : ∀ (m n i : Nat) (s : Shared) (σ : L2.St) (H : Hp) (xs : List V), Inv Y.nox ip σ H s → g < s.gens.size → tn i s.heap → (∀ b ∈ fp, H b = none) → W i m σ H → H S = some (.lst xs) → n + xs.length = sizeLine →
      SegJ (model Y.nox.prog Y.nox.w) A R (YG Y.nox.prog Y.nox.w HW S g) n (.forLoop tg (.ref it) body [] Y.env) ((model Y.nox.prog Y.nox.w).den (.forLoop tg (.ref it) body [] Y.env))
        (.ret (fun r => ((match r with
          | .ok f => (.pure f : Sem Flow)
          | .error e => .raise e).onRaise (cameBack Y.env)).wrap K J gd lv) none (gd false) (lv []) c p [] :: fs) s := by
    intro mw
    induction mw using Nat.strongRecOn with
    | ind m ih =>
      intro n i s3 σ3 H3 xs3 I3 hz3 st3 fr3 w3 hS3 hn3
      show SegJ _ _ _ _ n _ ((forTurn tg (.ref it) body [] Y.env).onRaise (fun x => do noteFrame x Y.env; theTreesLotGoes x)) _ s3
      rw [Sem.onRaise_eq_wrap]
      simp only [forTurn]
      refine sj_bind_wrap (GoA.of (wpAny_standAt ?_))
      refine sj_bind_wrap ?_
      rw [(gl _).over]
      rcases turn i m σ3 H3 xs3 hS3 w3 with ⟨stop, qn⟩ | ⟨go, N, hN, step⟩
      · refine GoA.of (wpAny_onRaise (wpAny_mono (gsz_mono (T.done Y.nox rfl rfl rfl hc i ip s3 σ3 H3 (fun _ _ => False) I3 (stat fr3) st3 stop) (n := g + 1) hz3) (fun r s4 h4 => ?_) fun _ _ z => z.elim))
        obtain ⟨hz4, hr, I4⟩ := h4
        subst hr
        refine sj_again rfl ?_
        show SegJ _ _ _ _ n _ ((execs [] Y.env).onRaise (fun x => do noteFrame x Y.env; theTreesLotGoes x) >>= fun f => pure (Fin.done f)) _ s4
        refine sj_bind (GoA.of (wpAny_onRaise (wpAny_execs_nil ?_)))
        exact sj_leaf (.ok .next) (k n s4 .next hz4 ⟨σ3, H3, xs3, I4, hS3, hn3, qn⟩)
      · refine GoA.of (wpAny_onRaise (wpAny_mono (gsz_mono (T.item Y.nox rfl rfl rfl hc i ip s3 σ3 H3 (fun _ _ => False) I3 (stat fr3) st3 go) (n := g + 1) hz3) (fun r s4 h4 => ?_) fun _ _ z => z.elim))
        obtain ⟨hz4, u, hr, h4⟩ := h4
        subst hr
        refine sj_bind_wrap ?_
        rw [(gl _).over]
        refine GoA.of (wpAny_mono (gsz_mono h4 (n := g + 1) hz4) (fun _ s5 h5 => ?_) fun _ _ z => z.elim)
        obtain ⟨hz5, x, H5, I5, r5, y5, st5, fr5⟩ := h5
        have J5 := I5.pinned (stat fr5) (T.obj _ _ st5)
        obtain ⟨hS5, step5⟩ := step x H5 y5
        refine sj_bind_wrap ?_
        rw [(gl _).over]
        refine GoA.of (wpAny_mono (gsz_mono (hg.run _ s5 σ3 H5 x u _ J5 r5 step5) (n := g + 1) hz5) (fun _ s6 h6 => ?_) fun _ _ z => z.elim)
        obtain ⟨hz6, σ6, H6, I6, hS6, q6⟩ := h6
        rw [Sem.bind_eq_wrap', Sem.wrap_wrap]
        refine hb.run A _ R n _ _ _ _ id id s6 σ6 H6 xs3 _ (gl _) (fun n' s7 f hz7 q7 => ?_) I6 hz6 hS6 hn3 q6
        have again : ∀ {σ7 : L2.St} {H7 : Hp} {xs7 : List V}, Inv Y.nox (ip ++ pinsAt fp s5.heap) σ7 H7 s7 → H7 S = some (.lst xs7) → n' + xs7.length = sizeLine → N σ7 H7 →
            SegJ (model Y.nox.prog Y.nox.w) A R (YG Y.nox.prog Y.nox.w HW S g) n' (.forLoop tg (.ref it) body [] Y.env) (.pure (.again (.forLoop tg (.ref it) body [] Y.env))) _ s7 := fun {σ7 H7 xs7} I7 e1 e2 n7 => by
          obtain ⟨less, hm, w7⟩ := hN _ _ n7
          refine sj_again rfl (ih less hm n' (i + 1) s7 σ7 H7 xs7 I7.unpinned hz7 (T.keep _ _ _ st5 fun b hb o e => (still I7 hb e).1) (fun b hb => ?_) w7 e1 e2)
          obtain ⟨o, e, d⟩ := T.obj _ _ st5 b hb; exact (still I7 hb e).2
        cases f with
        | next =>
          obtain ⟨σ7, H7, xs7, I7, e1, e2, n7⟩ := q7
          exact again I7 e1 e2 n7
        | cont =>
          obtain ⟨σ7, H7, xs7, I7, e1, e2, n7⟩ := q7
          exact again I7 e1 e2 n7
        | brk =>
          obtain ⟨σ7, H7, xs7, I7, e1, e2, q7⟩ := q7
          exact sj_leaf (.ok .next) (k n' s7 .next hz7 ⟨σ7, H7, xs7, I7.unpinned, e1, e2, q7⟩)
        | ret v =>
          obtain ⟨x7, σ7, H7, xs7, I7, e1, e2, r7, q7⟩ := q7
          exact sj_leaf (.ok (.ret v)) (k n' s7 (.ret v) hz7 ⟨x7, σ7, H7, xs7, I7.unpinned, e1, e2, r7, q7⟩)
  exact loop m0 n 0 s2 σ H2 xs I2 hz2 st2 (fun b hb => (f2 b hb).1) w0 hS2 hn
end
end Ork
end
section
set_option Elab.async false
set_option linter.all false
set_option maxRecDepth 100000
set_option maxHeartbeats 1200000
namespace Ork
open PySem L2 PySem.Spec PyProof.Rows
open Sem (wp)

/-- the end of a generator's run: pre stood in the list at S when it was first woken -/
def RG (P : Program) (w : World) (outer : List Env) (H0 : Hp) (s0 : Shared) (S : Addr) (pre : List V) (HW : Hp) (Q : List V → Hp → Prop) : REndJ := fun n r s1 =>
  (r = .ok (.ret .none) ∨ r = .ok .next) ∧ ∃ H' ys, n + (pre ++ ys).length = sizeLine ∧ s0.gens.size ≤ s1.gens.size ∧ s1.os = s0.os ∧ AllBare s1.gens ∧ Un (frs outer) [] H0 H' s0.heap s1.heap ∧ HOk P w H' s1.heap ∧ H' S = some (.lst (pre ++ ys)) ∧ SameBut S HW H' ∧ Q ys H'
/-- a generator that has not begun -/
def MadeJ (P : Program) (w : World) (k cn : Nat) (outer : List Env) (H0 : Hp) (s0 : Shared) (Q : List V → Hp → Prop) (u : Value) (s' : Shared) : Prop :=
  ∃ (a : Addr) (g : Nat) (c : Code), u = .ref a ∧ s0.heap.objs.size ≤ a ∧ a < s'.heap.objs.size ∧ s'.heap.IsGen a g ∧ s0.gens.size ≤ g ∧ s'.gens[g]? = some (.fresh c) ∧ s'.os = s0.os ∧ AllBare s'.gens ∧ s'.heap.NoLimit ∧
    (∀ b o, s0.heap.get? b = some o → s'.heap.get? b = some o) ∧
    ∀ (A : Around) (S : Addr) (pre : List V) (HW : Hp) (s2 : Shared) (n : Nat), Room k A → A.frames = some outer → n + pre.length = sizeLine → pre.length + cn ≤ sizeLine → (∀ b o, s'.heap.get? b = some o → s2.heap.get? b = some o) →
      (∀ b, b < s'.heap.objs.size → b ≠ a → HW b = H0 b) → HW S = some (.lst pre) → HOk P w HW s2.heap → s2.os = s0.os → AllBare s2.gens → g < s2.gens.size →
      SegJ (model P w) A (RG P w outer H0 s0 S pre HW Q) (YG P w HW S g) n c ((model P w).den c) [] s2

abbrev SpJ := List V → Hp → (List V → Hp → Prop) → Prop
structure GFnJ (P : Program) (w : World) (K : PySem.W.Frag) (mg : Str → Option Value) (base : Heap) (k cn : Nat) (f : Addr) (fd : FuncData) (ps : List Str) (sp : SpJ) : Prop where
  len : ∀ vs H Q, sp vs H Q → vs.length = ps.length
  run : ∀ (A : Around) (outer : List Env) (s : Shared) (H : Hp) (args : Args) (us : List Value) (vs : List V) (Q : List V → Hp → Prop), Room k A → Env0 P w K mg base A outer s H → BindsTo s fd args (ps.zip us) → Vals vs us → sp vs H Q →
    codeAny (model P w) A (.call (.ref f) args) (fun r s' => match r with
      | .ok (.ret u) => MadeJ P w k cn outer H s Q u s'
      | _ => False) s
section
variable {M : Model} {P : Program} {w : World} {A : Around} {R : REndJ} {Y : YieldJ} {n : Nat} {fs : List Frame} {s : Shared} {env : Env}
theorem sj_func {body : List Stmt}
    (h : SegJ (model P w) A R Y n (.func body env) ((execs body env).wrap (fun f => .pure (.done (.ret (match f with
      | .ret v => v
      | _ => .none)))) (fun e => (leaving env e).wrap (fun _ => .raise e) .raise id id) id id) fs s) : SegJ (model P w) A R Y n (.func body env) ((model P w).den (.func body env)) fs s := by
  show SegJ _ A R Y n _ (.point [] fun _ => ((execs body env).onRaise (leaving env)) >>= _) fs s
  refine sj_point ?_
  rw [Sem.onRaise_eq_wrap, Sem.bind_eq_wrap', Sem.wrap_wrap, Sem.wrap_congr (execs body env) _ _ (K' := fun f => .pure (.done (.ret (match f with
      | .ret v => v
      | _ => .none)))) (H' := fun e => (leaving env e).wrap (fun _ => .raise e) .raise id id) (fun f => by cases f <;> rfl) (fun e => by rw [Sem.bind_eq_wrap, Sem.wrap_wrap]; rfl)]
  exact h
end

section
variable {P : Program} {w : World} {base : Heap} {mg : Str → Option Value} {K : PySem.W.Frag}
/-- a generator def, by its body -/
theorem gfnJ_of {k cn : Nat} {f : Addr} {fd : FuncData} {x qual : Str} {st : Stmt} {N ps : List Str} {sp : SpJ} (F : Fun K x qual st f fd) (SC : GScope N ps (defScope st))
    (len : ∀ vs H Q, sp vs H Q → vs.length = ps.length)
    (hbody : ∀ (cdv : Value) (A : Around) (outer : List Env) (s : Shared) (H : Hp) (vs : List V) (Q : List V → Hp → Prop) (S : Addr) (pre : List V) (HW : Hp) (g : Nat), Room k (A.deeper (envOfC qual (defScope st) s.heap.objs.size f cdv)) → sp vs H Q →
      HW S = some (.lst pre) → pre.length + cn ≤ sizeLine → (∀ b o, H b = some o → HW b = some o) →
      ∃ t, GSs (gcxOf P w K mg base N qual (defScope st) f cdv A outer s H E0 []).nox S HW g (defBody st) t ∧
        t { nx := fun _ H' => ∃ ys, H' S = some (.lst (pre ++ ys)) ∧ SameBut S HW H' ∧ Q ys H', rt := fun v H' => v = .non ∧ ∃ ys, H' S = some (.lst (pre ++ ys)) ∧ SameBut S HW H' ∧ Q ys H' } (start N vs) HW) :
    GFnJ P w K mg base (k + 1) cn f fd ps sp := by
  obtain ⟨_, _, _, _, _, _, cdv, _, _, rfl, lk, hcd⟩ := F.ex
  refine ⟨len, fun A outer s H args us vs Q hr e0 hb r hsp => ?_⟩
  have hl := len _ _ _ hsp
  obtain ⟨KX, lim⟩ := begins e0
  have hkind : ∀ y ∈ ps.zip us, (defScope st).names.lookup y.1 = some .local ∨ ((defScope st).names.lookup y.1 = some .cell ∧ ((cellsFrom (s.heap.objs.size + 1) (defScope st).names []).lookup y.1).isSome = true) := fun ⟨n, v⟩ hy => by
    exact (SC.par n (List.of_mem_zip hy).1).imp id fun cel => ⟨cel, PySem.W.cellsFrom_some _ _ _ (.inl cel)⟩
  refine codeAny_call_generator hr.depth (KX _ _ lk) rfl SC.co SC.gen rfl (PySem.W.codeRec_of KX hcd) (hb _ _ _ _ ?_)
  refine wpAny_newFunctionEnv_cells SC.kind hkind fun env he s1 x => ?_
  subst he
  have kept : ∀ b o, s.heap.get? b = some o → s1.heap.get? b = some o := x.toInCall.keep
  refine ⟨lim.keeps kept, ?_⟩
  obtain ⟨_, _, s1eq, _⟩ := x.done
  have osE : s1.os = s.os := by rw [s1eq]
  have genE : s1.gens = s.gens := by rw [s1eq]
  have grown := x.toInCall.ns.lt
  -- whatever object the generator gets
  have made : ∀ (ob : Obj) (q1 q2 : Value) (tk2 : Nat), ob.slots = #[] → ob.cls = .type "generator" → ob.data = .fields #[.int s1.gens.size 0, q1, q2] → (∀ h : Heap, (h.push ob).get? h.objs.size = some ob) →
      MadeJ P w (k + 1) cn outer H s Q (.ref s1.heap.objs.size) { s1 with gens := s1.gens.push (.fresh (.func (defBody st) (envOfC qual (defScope st) s.heap.objs.size f cdv))), toks := tk2, heap := s1.heap.push ob } := by
    intro ob q1 q2 tk2 obS obC obD obAt
    have one : ∀ b, b ≤ s1.heap.objs.size → b < (s1.heap.push ob).objs.size := fun b z => (Heap.size_push s1.heap ob).symm ▸ Nat.lt_succ_of_le z
    refine ⟨_, s1.gens.size, _, rfl, Nat.le_of_lt grown, one _ (Nat.le_refl _), ⟨ob, q1, q2, obAt _, obC, obD, obS⟩, Nat.le_of_eq (congrArg Array.size genE.symm), Array.getElem?_push_size .., osE, ?_, (lim.keeps kept).keeps fun b o e => Heap.get?_push_of_some _ e, fun b o e => Heap.get?_push_of_some _ (kept b o e), ?_⟩
    · refine AllBare.push ?_ rfl; rw [genE]; exact e0.bare
    intro Aw S pre HW s2 n hrw hfr hn hcn hk2 hHW hHS hok hos hba hgl
    have hk3 : ∀ b o, s1.heap.get? b = some o → s2.heap.get? b = some o := fun b o e => hk2 b o (Heap.get?_push_of_some _ e)
    have hHW' : ∀ b, b < s1.heap.objs.size → HW b = H b := fun b e => hHW b (one b (Nat.le_of_lt e)) (Nat.ne_of_lt e)
    have e0w : Env0 P w K mg base Aw outer s H := { e0 with frames := hfr }
    have I1 : Inv (gcxOf P w K mg base N qual (defScope st) f cdv Aw outer s H E0 []) [] (start N vs) H s1 := inv_startG SC hrw.hd e0w hl r x
    have old : ∀ b u, H b = some u → HW b = some u := fun b u e => by rw [hHW' b (I1.hok.lt e)]; exact e
    have I2 : Inv (gcxOf P w K mg base N qual (defScope st) f cdv Aw outer s H E0 []).nox [] (start N vs) HW s2 :=
      (I1.call' (ch := []) (hos.trans osE.symm) ⟨fun b o e _ _ _ => hk3 b o e, fun b o e _ _ _ => ⟨o.slots, hk3 b o e⟩, fun b o e n _ => (hHW' b (Heap.lt_size e)).trans n, fun b o e _ => ⟨o, hk3 b o e⟩,
        fun b ys e => old b _ e, fun b o u e => old b _ e, fun b ps e => ⟨#[], by rw [old b _ e]; simp⟩⟩ hok hba fun b z => by simp at z).wish _
    obtain ⟨t, ht, hq⟩ := hbody cdv Aw outer s H vs Q S pre HW s1.gens.size (hrw.deeper _) hsp hHS hcn old
    refine sj_func ?_
    refine ht.run Aw [] _ n _ [] _ _ id id s2 (start N vs) HW pre _ ⟨GenW.over_func, rfl, rfl, rfl⟩ (fun n' s' fl hg' q => ?_) I2 hgl hHS hn hq
    have fin : ∀ {σ' : L2.St} {H' : Hp} {xs : List V}, Inv (gcxOf P w K mg base N qual (defScope st) f cdv Aw outer s H E0 []).nox [] σ' H' s' → H' S = some (.lst xs) → n' + xs.length = sizeLine →
        (∃ ys, H' S = some (.lst (pre ++ ys)) ∧ SameBut S HW H' ∧ Q ys H') → RG P w outer H s S pre HW Q n' (.ok (.ret .none)) s' := fun {σ' H' xs} J e1 e2 q => by
      have hsz : s.gens.size ≤ s'.gens.size := by rw [genE] at hg'; exact Nat.le_of_lt hg'
      obtain ⟨ys, e3, hSB, hQ⟩ := q
      rw [e1] at e3
      cases e3
      exact ⟨.inl rfl, H', ys, e2, hsz, J.os, J.bare, J.base, J.hok, e1, hSB, hQ⟩
    cases fl with
    | next =>
      obtain ⟨σ', H', xs, J, e1, e2, q⟩ := q
      exact sj_end (.ok (.ret .none)) (fin J e1 e2 q)
    | brk => obtain ⟨_, _, _, _, _, _, q⟩ := q; exact False.elim q
    | cont => obtain ⟨_, _, _, _, _, _, q⟩ := q; exact False.elim q
    | ret u =>
      obtain ⟨v, σ', H', xs, J, e1, e2, rv, ev, q⟩ := q
      subst ev
      cases (show u = .none from rv)
      exact sj_end (.ok (.ret .none)) (fin J e1 e2 q)
  exact made _ _ _ _ rfl rfl rfl fun _ => Heap.get?_push_size _ rfl
end
end Ork
end
section
set_option Elab.async false
set_option linter.all false
set_option maxRecDepth 100000
set_option maxHeartbeats 1200000
namespace Ork
open PySem L2 PySem.Spec PyProof.Rows
open Sem (wp)

/-! ### an expression whose value is a generator that has not begun -/
/-- Q is handed the heap at the call -/
abbrev TGenJ := L2.St → Hp → (Hp → List V → Hp → Prop) → Prop
structure PGenJ (X : Cx) (k cn : Nat) (e : Expr) (tg : TGenJ) : Prop where
  run : ∀ (pins : List (Addr × Obj)) (s : Shared) (σ : L2.St) (H : Hp) (Q : Hp → List V → Hp → Prop), Inv X pins σ H s → tg σ H Q → wpAny (model X.prog X.w) X.A (eval e X.env)
    (fun u s' => ∃ H1 sc, Inv X pins σ H1 sc ∧ s.gens.size ≤ sc.gens.size ∧ MadeJ X.prog X.w k cn X.stack H1 sc (Q H1) u s') X.xe s
def tCallG (sp : SpJ) (dvs : List V) (t : TA) : TGenJ := fun σ H Q => t σ H fun vs H1 => sp (vs ++ dvs) H1 (Q H1)
section
variable {Y : Cx} {k cn : Nat} {f : Addr} {fd : FuncData} {ps : List Str} {sp : SpJ} {x : Str} {p pos yp : Pos} {e : Expr} {es : List Expr} {t : TA} {S : Addr} {HW : Hp} {g : Nat}
theorem run_gfnJ {pins : List (Addr × Obj)} {σ : L2.St} {H : Hp} {s : Shared} {us : List Value} {vs : List V} {Q : List V → Hp → Prop} {E1 : Value → Shared → Prop} (F : GFnJ Y.prog Y.w Y.K Y.mg Y.base k cn f fd ps sp) (hr : Room k Y.A) (hb : Binds Y.K fd ps [])
    (I : Inv Y pins σ H s) (r : Vals vs us) (h : sp vs H Q) : wpAny (model Y.prog Y.w) Y.A (call (.ref f) us) (fun u s' => MadeJ Y.prog Y.w k cn Y.stack H s Q u s') E1 s := by
  have hl : us.length = ps.length := by rw [← r.length]; exact F.len _ _ _ h
  have hb' := hb s us I.kIn (by rw [List.append_nil]; exact hl)
  rw [List.append_nil] at hb'
  refine wpAny_call (codeAny_mono (F.run Y.A Y.stack s H ⟨us, []⟩ us vs Q hr I.env0 hb' r h) fun r s' hq => ?_)
  cases r with
  | error e => exact hq.elim
  | ok fl =>
    cases fl with
    | ret u => exact hq
    | next => exact False.elim hq
    | brk => exact False.elim hq
    | cont => exact False.elim hq
theorem pgj_call (F : GFnJ Y.prog Y.w Y.K Y.mg Y.base k cn f fd ps sp) (hr : Room k Y.A) (hg : Gl Y x) (hm : Y.mg x = some (.ref f)) (hk : PySem.W.keepIn Y.K (.ref f) = true) (hb : Binds Y.K fd ps [])
    (ha : PA Y (e :: es) t) (hdb : (x == ("__debug__" : Str)) = false := by decide) (he : starEach (e :: es) Y.env = (false, eval e Y.env) :: starEach es Y.env := by rfl) (hpl : (backTo pos (starEach es Y.env)).any (·.1) = false := by rfl) :
    PGenJ Y k cn (.Call (.Name x p) (e :: es) [] pos) (fun σ H Q => t σ H fun vs H1 => sp vs H1 (Q H1)) := by
  refine ⟨fun pins s σ H Q I h => wpAny_Call_Name_kw (ld_glob I hg hm ?_ hdb)⟩
  refine PySem.W.callWith_K (h₀ := Y.base) I.ok.mod.kin hk (wpAny_mono (gsz_mono (ha.run pos pins s σ H _ I h) (Nat.le_refl _)) (fun us s1 q => ?_) fun _ _ z => z) he hpl
  obtain ⟨hz, vs, H1, I1, r, q⟩ := q
  refine ⟨I1.kIn, ?_⟩
  exact wpAny_mono (run_gfnJ (E1 := Y.xe) F hr hb I1 r q) (fun u s' z => ⟨H1, s1, I1, hz, z⟩) fun _ _ z => z

/-! ### yield from -/
def tFrom (S : Addr) (HW : Hp) (cn : Nat) (tg : TGenJ) : TS := fun D σ H => ∀ xs, H S = some (.lst xs) → xs.length + cn ≤ sizeLine ∧ tg σ H fun H1 ys H' => H' S = some (.lst (xs ++ ys)) → SameBut S H1 H' → D.nx σ H'
/-- the heap at the call: what stood when this generator was woken stands, the list too -/
structure PGenS (X : Cx) (S : Addr) (HW : Hp) (k cn : Nat) (e : Expr) (tg : TGenJ) : Prop where
  run : ∀ (pins : List (Addr × Obj)) (s : Shared) (σ : L2.St) (H : Hp) (xs : List V) (Q : Hp → List V → Hp → Prop), Inv X pins σ H s → H S = some (.lst xs) → tg σ H Q → wpAny (model X.prog X.w) X.A (eval e X.env)
    (fun u s' => ∃ H1 sc, Inv X pins σ H1 sc ∧ H1 S = some (.lst xs) ∧ SameBut S HW H1 ∧ s.gens.size ≤ sc.gens.size ∧ MadeJ X.prog X.w k cn X.stack H1 sc (Q H1) u s') X.xe s
theorem pgs_call (F : GFnJ Y.prog Y.w Y.K Y.mg Y.base k cn f fd ps sp) (hr : Room k Y.A) (hg : Gl Y x) (hm : Y.mg x = some (.ref f)) (hk : PySem.W.keepIn Y.K (.ref f) = true) (hb : Binds Y.K fd ps [])
    (ha : PA Y (e :: es) t) (hdb : (x == ("__debug__" : Str)) = false := by decide) (he : starEach (e :: es) Y.env = (false, eval e Y.env) :: starEach es Y.env := by rfl) (hpl : (backTo pos (starEach es Y.env)).any (·.1) = false := by rfl) :
    PGenS Y S HW k cn (.Call (.Name x p) (e :: es) [] pos) (fun σ H Q => ∀ xs, H S = some (.lst xs) → t σ H fun vs H1 => H1 S = some (.lst xs) ∧ SameBut S HW H1 ∧ sp vs H1 (Q H1)) := by
  refine ⟨fun pins s σ H xs Q I hS h => wpAny_Call_Name_kw (ld_glob I hg hm ?_ hdb)⟩
  refine PySem.W.callWith_K (h₀ := Y.base) I.ok.mod.kin hk (wpAny_mono (gsz_mono (ha.run pos pins s σ H _ I (h xs hS)) (Nat.le_refl _)) (fun us s1 q => ?_) fun _ _ z => z) he hpl
  obtain ⟨hz, vs, H1, I1, r, h1, h2, q⟩ := q
  refine ⟨I1.kIn, ?_⟩
  exact wpAny_mono (run_gfnJ (E1 := Y.xe) F hr hb I1 r q) (fun u s' z => ⟨H1, s1, I1, h1, h2, hz, z⟩) fun _ _ z => z

/-- a builtin's code over the frame that it came from -/
theorem over_plain {A : Around} {c c' : Code} {fs : List Frame} {k : Result → Sem PySem.Fin} {b : Bool} {l kp : List Value} {p : Pos} (hw : c'.weight = 0) (hu : c'.cUnits = 1) :
    A.over c' (.ret k none b l c p kp :: fs) = (A.over c fs).in1 := by
  have e2 : A.depth + frameCount ((Frame.ret k none b l c p kp :: fs).map Frame.where_) + c'.weight = A.depth + frameCount (fs.map Frame.where_) + c.weight := by
    simp only [List.map_cons, Frame.where_, frameCount_cons, hw]; omega
  have e3 : pushEnvs c'.envs (pushEnvs (envsOf ((Frame.ret k none b l c p kp :: fs).map Frame.where_)) A.frames) = pushEnvs c.envs (pushEnvs (envsOf (fs.map Frame.where_)) A.frames) := by
    simp only [List.map_cons, Frame.where_, Code.envs_of_weight hw, envsOf_cons, pushEnvs_eq]
    rcases A.frames with _ | l <;> simp [List.append_assoc]
  have e4 : pushGuards c'.guards (pushGuards (guardsOf ((Frame.ret k none b l c p kp :: fs).map Frame.where_)) A.guards) = pushGuards c.guards (pushGuards (guardsOf (fs.map Frame.where_)) A.guards) := by
    simp only [List.map_cons, Frame.where_, Code.guards_of_weight hw, guardsOf_cons, pushGuards_eq]
    rcases A.guards with _ | l <;> simp [List.append_assoc]
  have e5 : A.units + unitsOf ((Frame.ret k none b l c p kp :: fs).map Frame.where_) + c'.cUnits = A.units + unitsOf (fs.map Frame.where_) + c.cUnits + 1 := by
    simp only [List.map_cons, Frame.where_, unitsOf_cons, hu]; omega
  show (⟨(marksOver fs (A.handled, A.handled)).1, A.depth + frameCount ((Frame.ret k none b l c p kp :: fs).map Frame.where_) + c'.weight,
    pushEnvs c'.envs (pushEnvs (envsOf ((Frame.ret k none b l c p kp :: fs).map Frame.where_)) A.frames), pushGuards c'.guards (pushGuards (guardsOf ((Frame.ret k none b l c p kp :: fs).map Frame.where_)) A.guards),
    A.units + unitsOf ((Frame.ret k none b l c p kp :: fs).map Frame.where_) + c'.cUnits⟩ : Around) = _
  rw [e2, e3, e4, e5]
  rfl

theorem gs_yieldFrom {tg : TGenJ} (he : PGenS Y.nox S HW k cn e tg) (hr : Room (k + 2) Y.A) (hi : interactive Y.env = false := by rfl) : GS Y.nox S HW g (.Expr (.YieldFrom e yp) pos) (tFrom S HW cn tg) := by
  refine ⟨fun A ip R n c fs K J gd lv s σ H xs D gc kk I hgs hS hn ht => ?_⟩
  obtain ⟨hcn, ht⟩ := ht xs hS
  rw [exec_Expr Y.nox.env _ pos hi rfl]
  show SegJ _ _ _ _ n c (.at pos fun _ => ((eval e Y.env >>= fun v => (standAt yp >>= fun _ => yieldFrom Y.env v)) >>= fun x => dropValue (.YieldFrom e yp) pos x).wrap K J gd lv) fs s
  refine sj_at ?_
  rw [Sem.bind_eq_wrap', Sem.bind_eq_wrap', Sem.wrap_wrap, Sem.wrap_wrap]; refine sj_wrap ?_
  rw [gc.over]
  refine GoA.of (wpAny_mono (he.run ip s σ H xs _ I hS ht) (fun v s1 hv => ?_) fun _ _ z => z.elim)
  obtain ⟨H1, sc, I1, hS1, hWK, hsz, a, g', c', rfl, ha0, ha1, hG, hg', hgs', hos, hba, hlim, hkp, wake⟩ := hv
  have gAt : GenAt s1.heap a g' 0 := GenAt.of hG
  refine sj_at ?_
  refine sj_bind_wrap (GoA.pure ?_)
  unfold yieldFrom
  refine sj_bind_wrap (GoA.of (wpAny_typeOf (T := "generator") hG.typeIs ?_))
  rw [if_neg (by decide)]
  refine sj_bind_wrap (GoA.of (wpAny_holding (wpAny_pyIter_gen hG ?_)))
  refine sj_call (c' := yfCode a) fun p => ?_
  have fr0 : ∀ b, sc.heap.objs.size ≤ b → H1 b = none := fun b hb => I1.hok.fresh hb
  have hSa : a ≠ S := fun z => by have q := fr0 a ha0; rw [z, hS1] at q; cases q
  have hWa : HW a = none := by
    cases q : HW a with
    | none => rfl
    | some o => have z := hWK a o hSa q; rw [fr0 a ha0] at z; cases z
  have hex : ∀ b, H1 b ≠ none → b < sc.heap.objs.size := fun b hb => by
    cases q : H1 b with
    | none => exact absurd q hb
    | some o => exact I1.hok.lt q
  have okI : HOk Y.prog Y.w (upd H1 a (oGen a g' 0)) s1.heap := I1.hok.laid (fun b u e => hkp b u e) ha0 (oGen_ok gAt)
  have okI2 : ∀ x : GenState, HOk Y.prog Y.w (upd H1 a (oGen a g' 0)) (s1.setGen g' x).heap := fun _ => okI
  have gl : ∀ (kk : Result → Sem PySem.Fin) (b : Bool) (l : List Value), A.over (yfCode a) (.ret kk none b l c p [] :: fs) = Y.A.in1 := fun kk b l =>
    (over_plain (plainId_weight plain_yf _) (plainId_units plain_yf _)).trans (by rw [gc.over])
  have hlt' : g' < s1.gens.size := (Array.getElem?_eq_some_iff.mp hgs').1
  refine sj_yf (X := Y.nox) (HI := upd H1 a (oGen a g' 0)) (Ri := RG Y.prog Y.w Y.stack H1 sc S xs (upd H1 a (oGen a g' 0)) fun ys H' => H' S = some (.lst (xs ++ ys)) → SameBut S H1 H' → D.nx σ H') (gi := g') ?_ ?_ ?_ ?_ (by omega) hSa hWa upd_same (fun b o hb q => ?_) (fun n' r s2 hr2 => ?_) n (.fresh c') s1 hgs' gAt hlim ⟨rfl, ?_⟩
  · rw [gl]; exact hr.hd
  · rw [gl]; exact hr.depth
  · show (splitAtGen fs).map _ = none; rw [gc.split]; rfl
  · show (gd false || fs.any Frame.guarded) = false; rw [gc.gd, gc.guard]; rfl
  · rw [upd_ne (by rintro rfl; rw [hWa] at q; cases q)]
    exact hWK b o hb q
  · obtain ⟨hr0, H', ys, e1, e0, e2, e3, e4, e5, e6, e8, e7⟩ := hr2
    refine ⟨hr0, fun h' hk => sj_leaf (.ok (.ret .none)) ?_⟩
    refine kk n' _ .next ?_ ⟨σ, H', xs ++ ys, ?_, e6, e1, e7 e6 fun b o hb q => e8 b o hb (by rw [upd_ne (by rintro rfl; rw [fr0 _ ha0] at q; cases q)]; exact q)⟩
    · show g < (s2.setGen g' .finished).gens.size
      rw [setGen_sz]
      exact Nat.lt_of_lt_of_le hgs (Nat.le_trans hsz e0)
    · exact I1.call' (ch := []) e2 (e4.trans (Un.kept hk)) (e5.kept hk) (allBare_setGen e3 rfl) fun b z => by simp at z
  · rw [gl]
    refine wake Y.A.in1.in1 S xs (upd H1 a (oGen a g' 0)) (s1.setGen g' .running) n ((hr.in1).in1) I1.ok.frames hn hcn (fun b o e => e) (fun b hb hne => upd_ne hne) ?_ okI hos ?_ ?_
    · rw [upd_ne (Ne.symm hSa)]; exact hS1
    · exact allBare_setGen hba rfl
    · rw [setGen_sz]; exact hlt'
end
end Ork
end
section
set_option Elab.async false
set_option linter.all false
set_option maxRecDepth 100000
set_option maxHeartbeats 1200000
namespace Ork
open PySem L2 PySem.Spec PyProof.Rows
open Sem (wp)
theorem gj_call_list {P : Program} {w : World} {A : Around} {s : Shared} {u : Value} {Q : Value → Shared → Prop}
    (h : codeJ (model P w) A.in1 (.call (.builtin "list.__init__") ⟨[.ref s.heap.objs.size, u], []⟩) (fun r s' => r = .ok (.ret .none) ∧ Q (.ref s.heap.objs.size) s')
      { s with heap := s.heap.push { cls := .type "list", data := .seq #[] } }) : GoN (model P w) A (call (.type "list") [u]) Q s := by
  have ft := F.called_list
  refine GoA.call (codeJ.ofTree ?_)
  show GoA _ _ (callAny (.type "list") _) _ _ _
  refine GoA.pure ⟨Code.quiet_builtin _ (by decide +kernel), gj_builtin F.entry_type_call ?_⟩
  rw [Around.under_plain (weight_type_call_type "list" [u] []) rfl]
  unfold Builtin.«type.__call__»; dsimp only
  rw [if_neg (by decide)]
  rw [if_neg (by rw [ft.canCreate]; exact Bool.false_ne_true)]
  refine GoA.bindW (wpAny_of_eq (F.typeCall_list_1 u) ?_)
  refine GoA.bindW (wpAny_of_eq F.mro_list ?_)
  rw [if_neg (by decide)]
  refine GoA.bindW (wpAny_of_eq ft.made ?_)
  dsimp only
  refine GoA.bindW (wpAny_pure ?_)
  refine GoA.bindW (wpAny_holding (wpAny_call (code_list_new u ?_)))
  have hT : Shared.TypeIs { s with heap := s.heap.push { cls := .type "list", data := .seq #[] } } (.ref s.heap.objs.size) "list" := ⟨_, Heap.get?_push_size _ rfl, rfl⟩
  refine GoA.bindW (wpAny_isInstance (T := "list") (b := true) hT sub_list_self ?_)
  rw [if_neg (by decide)]
  refine GoA.bind (GoA.holding ?_)
  simp only [callSpecial?]
  refine GoA.bindW (wpAny_specialOf hT ft.init.lookup ?_)
  simp only [ft.init.bind]
  refine GoA.holding (GoA.bindW (wpAny_pure (GoA.bind ?_)))
  refine GoA.call (codeJ.mono h fun r s' q => ?_)
  obtain ⟨rfl, q⟩ := q
  refine GoA.pure ?_
  dsimp only
  rw [if_neg (by decide)]
  exact GoA.pure q

section
variable {P : Program} {w : World} {A : Around} {Ri : REndJ} {HI : Hp} {S a : Addr} {g : Nat} {res : Value} {RR : Result → Shared → Prop}
/-- the list at S takes all that a generator hands out -/
theorem gj_drain (hh : A.handled = none) (hd : A.depth < recursionLimit) (hSa : S ≠ a) (hI : HI a = some (oGen a g 0))
    (hend : ∀ n r s, Ri n r s → (r = .ok (.ret .none) ∨ r = .ok .next) ∧ ∀ h', (∀ b o, s.heap.get? b = some o → h'.get? b = some o) → RR (.ok (.ret res)) { s.setGen g .finished with heap := h' }) :
    ∀ (n : Nat) (gs : GenState) (s : Shared), s.gens[g]? = some gs → GenAt s.heap a g 0 → s.heap.NoLimit →
      GoesJ (model P w) A.in1.in1 Ri (YG P w HI S g) n gs (.send .none) (s.setGen g .running) → codeJ (model P w) A (.builtin "list.extend.loop" ⟨[.ref S, .ref a, res], []⟩) RR s := by
  have turn : ∀ (n : Nat) (gs : GenState) (s : Shared), s.gens[g]? = some gs → GenAt s.heap a g 0 → s.heap.NoLimit →
      GoesJ (model P w) A.in1.in1 Ri (YG P w HI S g) n gs (.send .none) (s.setGen g .running) →
      (∀ m gs s, n = m + 1 → s.gens[g]? = some gs → GenAt s.heap a g 0 → s.heap.NoLimit →
        GoesJ (model P w) A.in1.in1 Ri (YG P w HI S g) m gs (.send .none) (s.setGen g .running) → codeJ (model P w) A (.builtin "list.extend.loop" ⟨[.ref S, .ref a, res], []⟩) RR s) →
      codeJ (model P w) A (.builtin "list.extend.loop" ⟨[.ref S, .ref a, res], []⟩) RR s := by
    intro n gs s hgs hg hl hgo ih
    refine gj_builtin F.entry_extend_loop ?_
    rw [Around.under_plainId F.plain_extend_loop _]; show GoA _ A.in1 (pyNext (.ref a) >>= _) _ _ s
    refine GoA.bind ?_
    unfold pyNext
    refine GoA.bind (GoA.attempt ?_)
    refine gj_next (A := A.in1) hh hl hd hg hgs hgo (fun v s₁ gs' hv => ?_) (fun r s₁ hr => ?_)
    · obtain ⟨H, xs, x, hK, h0, hn, rv, ok, hS, hl1, hcs, hlow, hlt, hk⟩ := hv
      obtain ⟨m, rfl⟩ : ∃ j, n = j + 1 := ⟨n - 1, by omega⟩
      have hA : H a = some (oGen a g 0) := hK a _ (Ne.symm hSa) hI
      obtain ⟨hz, its, nn, rvs, eS⟩ := ok S _ hS
      have eS' : (s₁.setGen g gs').heap.get? S = some { cls := .type "list", data := .seq its.toArray nn } := eS
      have hlen : its.length = xs.length := rvs.length.symm
      refine GoA.pure ?_
      show GoA _ A.in1 (updateSeq S (·.push v) >>= _) _ _ _
      refine GoA.bindW (wpAny_updateSeq eS' rfl ?_ (by show its.toArray.size ≤ sizeLine; rw [List.size_toArray]; omega) (by show (its.toArray.push v).size ≤ sizeLine + 1; rw [Array.size_push, List.size_toArray]; omega))
      refine GoA.pure ⟨plainId_quiet F.plain_extend_loop _, ?_⟩
      have kp : ∀ b o, b ≠ S → s₁.heap.get? b = some o → (s₁.heap.update S (Obj.mapSeq (·.push v))).get? b = some o := fun b o hb e => (Heap.get?_update_other _ _ (Ne.symm hb)).trans e
      have nS : ∀ b, H b = none → b ≠ S := fun b e z => by rw [z, hS] at e; cases e
      have self : ∃ c', (s₁.heap.update S (Obj.mapSeq (·.push v))).get? S = some { cls := .type "list", data := .seq (its ++ [v]).toArray c' } := by
        have e : ∃ c', (s₁.heap.update S (Obj.mapSeq (·.push v))).get? S = some { cls := .type "list", data := .seq (its.toArray.push v) c' } := ⟨_, Heap.get?_update_self _ eS rfl⟩
        rwa [List.push_toArray] at e
      have ok2 : HOk P w (upd H S (.lst (xs ++ [x]))) (s₁.heap.update S (Obj.mapSeq (·.push v))) := by
        obtain ⟨c', e'⟩ := self
        refine ok.write (by rw [hS]; trivial) (.inl rfl) kp ⟨_, e'⟩ ⟨?_, its ++ [v], c', rvs.append (.cons rv .nil), e'⟩
        simp only [List.length_append, List.length_singleton]; omega
      refine ih m gs' { s₁.setGen g gs' with heap := s₁.heap.update S (Obj.mapSeq (·.push v)) } rfl (setGen_self' hlt) ((oGen_at ok hA).at fun o e => kp a o (Ne.symm hSa) e) (nolimit_keep hl1 fun o e => kp cStatics o (nS _ hcs) e) ?_
      refine hk _ ⟨rfl, ok2, fun b o hb e => kp b o (nS b hb) e, fun b o e => ?_, fun i y hi e => ?_, ?_, fun i hi => ?_⟩
      · by_cases hb : b = S
        · rw [hb]
          obtain ⟨c', e'⟩ := self
          exact ⟨_, e'⟩
        · exact ⟨o, kp b o hb e⟩
      · rw [setGen_ne' (by omega)] at e
        have e : (s₁.setGen g gs').gens[i]? = some y := e
        rw [setGen_ne' (by omega)] at e
        exact hlow i y hi e
      · refine setGen_self' ?_
        show g < (s₁.setGen g gs').gens.size
        rw [setGen_sz]; exact hlt
      · rw [setGen_ne' (by omega)]
        show (s₁.setGen g gs').gens[i]? = _
        rw [setGen_ne' (by omega)]
    · obtain ⟨hr, he⟩ := hend _ r s₁ hr
      refine ⟨hr, fun e h' hS hk => ?_⟩
      obtain ⟨ae, o, vs, rfl, hoa, hcls, hdat, h5⟩ := hS
      have fin := he h' hk
      dsimp only
      refine GoA.bindW (wpAny_isInstance (T := "StopIteration") (b := true) ⟨o, hoa, hcls⟩ isSubtype_stop ?_)
      rw [if_pos rfl]
      exact GoA.pure (GoA.pure fin)
  intro n
  induction n with
  | zero => exact fun gs s h1 h2 h3 h4 => turn 0 gs s h1 h2 h3 h4 fun m _ _ e => by cases e
  | succ m ih =>
    intro gs s h1 h2 h3 h4
    refine turn (m + 1) gs s h1 h2 h3 h4 fun m' gs s e => ?_
    cases e
    exact ih gs s
end
end Ork
end
section
set_option Elab.async false
set_option linter.all false
set_option maxRecDepth 100000
set_option maxHeartbeats 1200000
namespace Ork
open PySem L2 PySem.Spec PyProof.Rows
open Sem (wp)

section
variable {Y : Cx} {k cn : Nat} {e : Expr} {tg : TGenJ} {p pos : Pos}
def tListJ (tg : TGenJ) : TE := fun σ H Q => tg σ H fun H1 ys H' => ∀ S, H1 S = none → H' S = some (.lst ys) → SameBut S H1 H' → Q (.ref S) H'
theorem je_listG (h : PGenJ Y.nox k cn e tg) (hcn : cn ≤ sizeLine) (hr : Room (k + 3) Y.A) (hg : Gl Y "list") (hm : Y.mg "list" = none) (he : starEach [e] Y.env = [(false, eval e Y.env)] := by rfl) :
    JE Y.nox (.Call (.Name "list" p) [e] [] pos) (tListJ tg) := by
  refine ⟨fun pins s σ H Q I ht => gn_Call_Name (ld_blt I hg hm (by decide +kernel : bootBuiltins "list" = some (.type "list")) ?_ (by decide) (by decide))⟩
  show GoN _ _ (callWith pos (.type "list") [] (backTo pos (starEach [e] Y.env)) []) _ s
  rw [he]
  refine gn_callWith (P := fun _ => True) rfl keeps_typ (GoA.of (Calls.evalArgs_plain (Calls.spliced_cons (wpAny_mono (h.run pins s σ H _ I ht) (fun u s1 hu => Calls.spliced_nil ⟨trivial, ?_⟩) fun _ _ z => z))))
  obtain ⟨H1, sc, I1, hsz, a, g, c, rfl, ha0, ha1, hG, hg', hgs, hos, hba, hlim, hkp, wake⟩ := hu
  show GoN _ _ (call (.type "list") [.ref a]) _ s1
  refine gj_call_list ?_
  have gAt : GenAt s1.heap a g 0 := GenAt.of hG
  have hSa : s1.heap.objs.size ≠ a := Nat.ne_of_gt ha1
  have hcl : cStatics < s1.heap.objs.size := let ⟨_, hn, _⟩ := hlim; hn.lt
  have at0 : (s1.heap.push { cls := .type "list", data := .seq #[] }).get? s1.heap.objs.size = some { cls := .type "list", data := .seq #[] } := Heap.get?_push_size _ rfl
  have hT : Shared.TypeIs { s1 with heap := s1.heap.push { cls := .type "list", data := .seq #[] } } (.ref s1.heap.objs.size) "list" := ⟨_, at0, rfl⟩
  have ft := F.called_list
  refine gj_call_builtin ft.init.plain F.entry_list_init (ft.init.check _ _ _ _ _ _ _ _ hT (F.args_list_init_2 _ _) ?_)
  show GoA _ Y.A.in1.in1 (do let old ← Builtin.List.listItems (.ref s1.heap.objs.size); Builtin.List.listUpdate (.ref s1.heap.objs.size) (fun _ => #[]); letGo old.toList.reverse; Builtin.List.listExtendWith (.ref s1.heap.objs.size) (.ref a) .none) _ _ _
  refine GoA.bindW ?_
  unfold Builtin.List.listItems; refine wpAny_bind (wpAny_seqItems at0 rfl (wpAny_pure ?_))
  show GoA _ Y.A.in1.in1 (updateSeq s1.heap.objs.size (fun _ => #[]) >>= fun _ => letGo (#[] : Array Value).toList.reverse >>= fun _ => Builtin.List.listExtendWith (.ref s1.heap.objs.size) (.ref a) .none) _ _ _
  refine GoA.bindW (wpAny_updateSeq at0 rfl ?_)
  have at1 := Heap.get?_update_self (Obj.mapSeq fun _ => (#[] : Array Value)) at0 rfl
  refine GoA.bindW (wpAny_letGo ?_); unfold Builtin.List.listExtendWith
  have up : ∀ (h : Heap) (f : Obj → Obj), (∀ b o, s1.heap.get? b = some o → h.get? b = some o) → ∀ b o, s1.heap.get? b = some o → (h.update s1.heap.objs.size f).get? b = some o := fun h f q b o e => by
    rw [Heap.get?_update_other _ _ (Nat.ne_of_gt (Heap.lt_size e))]; exact q b o e
  have k1 : ∀ b o, s1.heap.get? b = some o → (s1.heap.push { cls := .type "list", data := .seq #[] }).get? b = some o := fun b o e => Heap.get?_push_of_some _ e
  have k2 := up _ (Obj.mapSeq fun _ => (#[] : Array Value)) k1
  have gty : ∀ {h : Heap}, (∀ b o, s1.heap.get? b = some o → h.get? b = some o) → h.IsGen a g := fun {h} q => hG.keeps q
  refine GoA.bindW (wpAny_typeOf (Heap.IsGen.typeIs (s := { s1 with heap := _ }) (gty k2)) ?_)
  have h1 : Builtin.List.listSameRef (.ref s1.heap.objs.size) (.ref a) = false := by simp [Builtin.List.listSameRef, hSa]
  simp only [h1, show (Value.type "generator" == Value.type "list") = false by decide, show (Value.type "generator" == Value.type "tuple") = false by decide, Bool.or_false, Bool.false_eq_true, if_false]
  refine GoA.bindW (wpAny_pyIter_gen (s := { s1 with heap := _ }) (gty k2) ?_)
  refine GoA.bindW (wpAny_holding ?_)
  unfold Builtin.List.listLengthHint; refine wpAny_bind (wpAny_specialOf (Heap.IsGen.typeIs (s := { s1 with heap := _ }) (gty k2)) F.gen_no_len ?_)
  show wpAny _ Y.A.in1.in1 (specialOf (Value.ref a) (Str.ofString "__length_hint__") >>= _) _ _ _
  refine wpAny_bind (wpAny_specialOf (Heap.IsGen.typeIs (s := { s1 with heap := _ }) (gty k2)) F.gen_no_hint ?_)
  refine wpAny_pure ?_
  show GoA _ Y.A.in1.in1 (rule "list.extend.makes-room" >>= fun _ => Builtin.List.listTouch (.ref s1.heap.objs.size) >>= fun _ =>
    again (.builtin "list.extend.loop" ⟨[.ref s1.heap.objs.size, .ref a, .none], []⟩)) _ _ _
  refine GoA.bindW (wpAny_rule ?_)
  refine GoA.bindW ?_
  show wpAny _ Y.A.in1.in1 (updateSeq s1.heap.objs.size (·.push .none) >>= fun _ => updateSeq s1.heap.objs.size (·.pop)) _ _ _
  refine wpAny_bind (wpAny_updateSeq at1 rfl ?_)
  have at2 := Heap.get?_update_self (Obj.mapSeq fun x => x.push Value.none) at1 rfl
  refine wpAny_updateSeq (hz := by seq_fits) at2 rfl ?_
  have at3 := Heap.get?_update_self (Obj.mapSeq fun x => x.pop) at2 rfl
  have hS5 : ∃ nn, ((((s1.heap.push { cls := .type "list", data := .seq #[] }).update s1.heap.objs.size (Obj.mapSeq fun x => #[])).update s1.heap.objs.size (Obj.mapSeq fun x => x.push Value.none)).update s1.heap.objs.size (Obj.mapSeq fun x => x.pop)).get? s1.heap.objs.size =
      some { cls := .type "list", data := .seq ([] : List Value).toArray nn } := ⟨_, at3⟩
  have k4 := up _ (Obj.mapSeq fun x => x.pop) (up _ (Obj.mapSeq fun x => x.push Value.none) k2)
  refine GoA.pure ⟨plainId_quiet F.plain_extend_loop _, ?_⟩
  have fr0 : ∀ b, sc.heap.objs.size ≤ b → H1 b = none := fun b hb => I1.hok.fresh hb
  have ok1 : HOk Y.prog Y.w (upd H1 a (oGen a g 0)) s1.heap := I1.hok.laid (fun b u e => hkp b u e) ha0 (oGen_ok gAt)
  have hAS : (upd (upd H1 a (oGen a g 0)) s1.heap.objs.size (.lst [])) a = some (oGen a g 0) := by rw [upd_ne (Ne.symm hSa), upd_same]
  have hdep : Y.A.in1.depth < recursionLimit := by have := hr.dp; show Y.A.depth < _; omega
  refine gj_drain (P := Y.prog) (w := Y.w) (A := Y.A.in1) (HI := upd (upd H1 a (oGen a g 0)) s1.heap.objs.size (.lst [])) (Ri := RG Y.prog Y.w Y.stack H1 sc s1.heap.objs.size [] (upd (upd H1 a (oGen a g 0)) s1.heap.objs.size (.lst [])) fun ys H' => ∀ S, H1 S = none → H' S = some (.lst ys) → SameBut S H1 H' → Q (.ref S) H')
    (g := g) hr.hd hdep hSa hAS (fun n r s2 hr2 => ?_) sizeLine (.fresh c) _ hgs (gAt.at fun o e => k4 a o e) (hlim.keeps k4) ⟨rfl, ?_⟩
  · obtain ⟨hr0, H', ys, e1, e0, e2, e3, e4, e5, e6, e8, e7⟩ := hr2
    refine ⟨hr0, fun h' hk => ⟨rfl, .ref s1.heap.objs.size, H', ?_, rfl, e7 _ (fr0 _ (Nat.le_of_lt (Nat.lt_of_le_of_lt ha0 ha1))) (by simpa using e6) fun b o hb q => e8 b o hb (by rw [upd_ne hb, upd_ne (by rintro rfl; rw [fr0 _ ha0] at q; cases q)]; exact q)⟩⟩
    exact I1.call' (ch := []) e2 (e4.trans (Un.kept hk)) (e5.kept hk) (allBare_setGen e3 rfl) fun b z => by simp at z
  · refine wake _ s1.heap.objs.size [] _ _ sizeLine ⟨hr.hd, ?_, ?_⟩ I1.ok.frames rfl (by simpa using hcn) (fun b o e => k4 b o e) (fun b hb hne => ?_) upd_same ?_ hos (allBare_setGen (s := { s1 with heap := _ }) hba rfl) ?_
    · have := hr.dp
      show Y.A.depth + 3 * k + 5 < _
      omega
    · have := hr.un
      show Y.A.units + 1 + 1 + 1 + 16 * k + 200 < _
      omega
    · rw [upd_ne (Nat.ne_of_lt hb), upd_ne hne]
    · obtain ⟨nn, e4⟩ := hS5
      exact ok1.laid (fun b u e => k4 b u e) (Nat.le_refl _) ⟨Nat.zero_le _, [], nn, .nil, e4⟩
    · show g < (Shared.setGen { s1 with heap := _ } g .running).gens.size
      rw [setGen_sz]
      exact (Array.getElem?_eq_some_iff.mp hgs).1
/-- a generator def called by keywords alone -/
theorem pgj_callK0 {k cn : Nat} {f : Addr} {fd : FuncData} {ps ks : List Str} {sp : SpJ} {x : Str} {kws : List Keyword} {tk : TA} {g : List Value → List Value → List Value} {gV : List V → List V → List V}
    (F : GFnJ Y.prog Y.w Y.K Y.mg Y.base k cn f fd ps sp) (hr : Room k Y.A) (hg : Gl Y x) (hm : Y.mg x = some (.ref f)) (hk : PySem.W.keepIn Y.K (.ref f) = true) (hb : KBinds Y.K fd ps ks g gV) (hkw : PK Y kws tk)
    (hall : (backToKw pos (keywordEach kws Y.env)).all (·.1.isSome) = true := by rfl) (hks : (backToKw pos (keywordEach kws Y.env)).filterMap (·.1) = ks := by rfl) (hdb : (x == ("__debug__" : Str)) = false := by decide)
    (hpl : ((backTo pos (starEach [] Y.env)).any (·.1) || (backToKw pos (keywordEach kws Y.env)).any (·.1.isNone)) = false := by rfl) :
    PGenJ Y k cn (.Call (.Name x p) [] kws pos) (fun σ H Q => tk σ H fun zs H1 => sp (gV [] zs) H1 (Q H1)) := by
  refine ⟨fun pins s σ H Q I h => wpAny_Call_Name_kw (ld_glob I hg hm ?_ hdb)⟩
  refine PySem.W.callWith_KW0 (h₀ := Y.base) I.ok.mod.kin hk hall (wpAny_mono (gsz_mono (hkw.run pos pins s σ H _ I h) (Nat.le_refl _)) (fun ws s1 q => ?_) fun _ _ z => z) hpl
  obtain ⟨hz, zs, H1, I1, rz, q⟩ := q
  refine ⟨I1.kIn, ?_⟩
  rw [hks]
  have r2 := hb.rel (Paired.nil : Vals [] []) rz
  have hl : (g [] ws).length = ps.length := by rw [← r2.length]; exact F.len _ _ _ q
  refine wpAny_call (codeAny_mono (F.run Y.A Y.stack s1 H1 ⟨[], ks.zip ws⟩ (g [] ws) (gV [] zs) (Q H1) hr I1.env0 (hb.to s1 [] ws I1.kIn hl) r2 q) fun r s' hq => ?_)
  cases r with
  | error e => exact hq.elim
  | ok fl =>
    cases fl with
    | ret u => exact ⟨H1, s1, I1, hz, hq⟩
    | next => exact False.elim hq
    | brk => exact False.elim hq
    | cont => exact False.elim hq
end
end Ork
end
section
set_option Elab.async false
set_option linter.all false
set_option maxRecDepth 100000
namespace Ork
open PySem PySem.Calls PySem.W PyProof.Rows

/-- what the caller of a row asks, where the tree goes over any stack -/
theorem from_go {c : ClaimW} {tree : List Value → Sem PySem.Fin} {w : World} {s : Shared} {free : Addr → Prop} {gens : Prop} {kept : Heap → Prop} (hz : s.asleep) (none_yet : s.gens = #[])
    (spec : ∀ xs, c.pre xs = true → WData.layableAll xs = true → ∀ ord : List DictEntry → List DictEntry, (∀ l, (ord l).Perm l) →
      ∃ us s₁, layAllW c.records (classAt s.heap) w.params ord xs s = some (us, s₁) ∧
        GoA (model c.prog w) callerA (tree us) (fun fin s' => ∃ f, fin = .done f ∧ (c.Ends s xs us s₁ (.ok f) s' ∧ s'.os = s.os ∧ AllBare s'.gens ∧ kept s'.heap))
          (fun x s' => c.Ends s xs us s₁ (.error x) s' ∧ s'.os = s.os ∧ AllBare s'.gens ∧ kept s'.heap) s₁) :
    c.CallFrom (fun us => ⟨tree us, .builtin "claim.caller" {}, default, []⟩) w free gens kept s := by
  intro xs pre layable ord perm
  obtain ⟨us, s₁, laid, goes⟩ := spec xs pre layable ord perm
  have life₁ := (layAllW_rest _ _ _ laid).2.2.2
  have run := goes (AtEnd fun r s' => c.Ends s xs us s₁ r s' ∧ s'.os = s.os ∧ kept s'.heap) ⟨.builtin "claim.caller" {}, none, none, [], none⟩ [] default .pure .raise id id
    ⟨rfl, rfl, rfl, rfl⟩ caller_in
    (fun fin p' s' ⟨f, isF, en, os, bare, kp⟩ => by
      subst isF
      exact .here ⟨.ok f, rfl, rfl, leftWithCleanup_false_of_bare bare, en, os, kp⟩)
    (fun x p' s' ⟨en, os, bare, kp⟩ => .here ⟨.error x, rfl, rfl, leftWithCleanup_false_of_bare bare, en, os, kp⟩)
  rw [wrap_id] at run
  obtain ⟨k, r, s', s'', sched, forgot, life, ends, os, kp⟩ := go_halts run (Shared.asleep_of_life life₁ hz)
  have eqs := Shared.forget_eq forgot
  have lifeE : s''.heap.life = s.heap.life := life.trans life₁
  refine ⟨us, s₁, laid, k, _, s'', sched, ?_, fun _ i x there => by rw [none_yet] at there; simp at there, by rw [eqs.1]; exact kp, by rw [lifeE], Shared.rest_eq (by rw [eqs.2.2.2.1] ; exact os)⟩
  rcases ends.congr eqs.1 with ⟨v, rfl, a1, a2, a3, a4, a5⟩ | ⟨x, ob, cl, rfl, a1, a2, a3, a4, a5⟩
  · exact Or.inl ⟨v, rfl, a1, a2, a3, fun b o there _ => a4 b o there, a5⟩
  · exact Or.inr ⟨x, ob, cl, rfl, a1, a2, a3, a4, fun b o there _ => a5 b o there⟩
end Ork
end
section
set_option Elab.async false
set_option linter.all false
set_option maxRecDepth 100000
namespace Ork
open PySem PySem.Calls PySem.W PyProof.Rows

/-- a law's def as it stands at f, and arguments laid for a call of it -/
structure Called (r : RowW) (d : DefRec) (kwd : List (Str × Expr)) (w : World) (t₀ t₁ : Shared) (mg : Str → Option Value) (f : Addr) (dfl kwv : Value) (xs : List WData) (us : List Value) (as : List Addr) : Prop where
  fn : ∃ (o : Obj) (pm cd doc : Value), t₁.heap.get? f = some o ∧ o.data = .func { docDef d.name d.params d.body d.scope pm cd doc with defaults := dfl, kwdefaults := kwv } ∧ t₁.heap.CodeRec cd d.name
  dfl : Dflts mg t₁.heap d.params kwd dfl kwv
  nm : mg d.name = some (.ref f)
  gens : t₁.gens = #[]
  pre : r.claim.pre xs = true
  lay : WData.layableAll xs = true
  reads : ReadsAllW r.records (classAt t₀.heap) t₁.heap us xs as
  well : WellAll w.params t₁.heap us xs
  low : ∀ a ∈ as, (a == sysModules) = false
/-- a row's call, where it goes over any stack -/
abbrev WalkJ (q : Program) (loose : List Str) (XP : (Str → Option Value) → Heap → Prop) (YP : World → Heap → Prop) (r : RowW) (d : DefRec) (kwd : List (Str × Expr)) : Prop :=
  ∀ (w : World) (t₀ t₁ : Shared) (mg mb : Str → Option Value), Ground q loose r.records XP w t₀ mg mb t₁.heap → YP w t₁.heap → ∀ (f : Addr) (dfl kwv : Value) (xs : List WData) (us : List Value) (as : List Addr), Called r d kwd w t₀ t₁ mg f dfl kwv xs us as →
      codeJ (model r.prog w) callerA (.call (.ref f) ⟨us, []⟩) (fun res s' => (∀ fl, res = .ok fl → ∃ v, fl = .ret v) ∧ GoodWG r.claim (classAt t₀.heap) (ExcName.means t₀.heap) xs t₁ res s') t₁

/-- what stands in the heap is not forgotten by what is only added to it -/
abbrev Lasting (p : Heap → Prop) : Prop := ∀ h h' : Heap, p h → (∀ b o, h.get? b = some o → h'.get? b = some o) → p h'
theorem open_anyJ {r : RowW} {q : Program} {loose defs kps : List Str} {writes : Bool} {Xt : Shared → Bool} {XP : (Str → Option Value) → Heap → Prop} {α : Type} {Yf : Shared → α} {Ya : World → α} {YP : World → Heap → Prop} {N : Nat}
    (top : LeftO r.prog q loose Xt Yf Ya N) (yIs : ∀ w s, Yf s = Ya w → YP w s.heap) (yLasts : ∀ w, Lasting (YP w)) (xIs : ∀ s, Xt s = true → XP (s.heap.nsMap mainGlobals) s.heap) (xLasts : ∀ mg, Lasting (XP mg))
    (recs : ∀ s, Xt s = true → RecFacts r.records s.heap) (wr : (!writes || r.records.isEmpty) = true) (plain : (chainsOk q && opensWell r.prog && (frees r && r.within.isEmpty)) = true) (bare : r.prog.bare) (promised : r.promised)
    (theDefs : ∀ w s, s.heap.isNs mainGlobals = true → Ground q loose [] XP w s (s.heap.nsMap mainGlobals) (s.heap.nsMap builtinsNs) s.heap → ∀ n ∈ defs, isTheDefsW r.prog s.heap n)
    (go : ∀ (w : World) (t₀ t₁ : Shared) (mg mb : Str → Option Value), Ground q loose r.records XP w t₀ mg mb t₁.heap → YP w t₁.heap → ∀ (xs : List WData) (us : List Value) (as : List Addr),
      r.claim.pre xs = true → WData.layableAll xs = true → Laid r.records w t₀ t₁ xs us as → sysModules < t₀.heap.objs.size → ∃ f, mg r.name = some f ∧
        codeJ (model r.prog w) callerA (.call f ⟨us, []⟩) (fun res s' => (∀ fl, res = .ok fl → ∃ v, fl = .ret v) ∧ GoodWG r.claim (classAt t₀.heap) (ExcName.means t₀.heap) xs t₁ res s') t₁) :
    r.claim.HoldsOpenBy (fun us => ⟨(do match ← nsGet mainNs r.name with
      | some f => (do ret (← PySem.call f us))
      | none => unsupported "claim.caller:no-such-global" : Sem PySem.Fin), .builtin "claim.caller" {}, default, []⟩) defs kps writes := by
  rw [Bool.and_eq_true, Bool.and_eq_true, Bool.and_eq_true] at plain
  obtain ⟨⟨chains, opens⟩, free, inside⟩ := plain
  obtain ⟨same, u1, u2, u3, noMakers⟩ := frees_parts free
  refine ⟨⟨bare, opens, by show r.makers.map _ = []; rw [noMakers]; rfl⟩, promised.witness, fun w => ⟨(top.behind xIs chains w).1, fun s' at' => ?_⟩⟩
  obtain ⟨t₀, x1, x2, t, isTop, asleep, noGens, isNs, gr, y⟩ := (top.behind (XP := fun mg h => XP mg h ∧ RecFacts r.records h) (fun s z => ⟨xIs s z, recs s z⟩) chains w).2 s' at'
  obtain ⟨xp, RF⟩ := gr.X
  have gr0 : Ground q loose [] XP w t (t.heap.nsMap mainGlobals) (t.heap.nsMap builtinsNs) t.heap := ⟨gr.T, gr.B, gr.D, gr.TE, gr.TD, gr.W, xp, gr.cls, gr.has, gr.apart, gr.once, gr.K⟩
  refine ⟨t₀, x1, x2, t, isTop, theDefs w t isNs gr0, RF.1, RF.2.1, ?_⟩
  have noGens : t.gens = #[] := Array.eq_empty_of_size_eq_zero (beq_iff_eq.mp noGens)
  have gr1 := RF.ground gr0
  refine from_go (c := r.claim) asleep noGens fun xs pre layable ord perm => ?_
  have can := layAllW_isSome (P := w.params) (ord := ord) gr1.has xs r.args t (pre_splitW pre).1
  obtain ⟨⟨us, t₁⟩, laid⟩ := Option.isSome_iff_exists.mp can
  have old := layAllW_keeps _ _ _ laid
  have rest := layAllW_rest _ _ _ laid
  obtain ⟨as, rd, isIn, apart⟩ := reads_layAllW perm _ _ _ laid layable t₁.heap fun _ _ z => z
  have L : Laid r.records w t t₁ xs us as := ⟨⟨ord, perm, laid⟩, rd, isIn, apart, old, rest.1.trans noGens, rest.2.2.1⟩
  have gr2 := gr1.keeps xLasts old
  obtain ⟨f, isF, run⟩ := go w t t₁ _ _ gr2 (yLasts _ _ _ (yIs w t y) old) xs us as pre layable L gr1.low
  have ident := ident_freeW u1 u2 u3
  have nothing : r.claim.within = [] := List.isEmpty_iff.mp inside
  have ends : ∀ {res : Result} {s' : Shared}, GoodWG r.claim (classAt t.heap) (ExcName.means t.heap) xs t₁ res s' → _ := fun g => g.laid (c := r.claim) same nothing ident L
  refine ⟨us, t₁, laid, GoA.bindW (wpAny_nsGet gr2.T.g ?_)⟩
  rw [isF]
  refine GoA.bind (GoA.call (run.mono fun res s' ⟨fits, good⟩ => ?_))
  have z := ends good
  have names := namesKept_of isTop isNs kps old good.2.1.old
  cases res with
  | error x => exact ⟨z.1, z.2.1, z.2.2, fun q => ⟨names, noTable wr q⟩⟩
  | ok fl =>
    obtain ⟨v, rfl⟩ := fits fl rfl
    exact GoA.pure ⟨_, rfl, z.1, z.2.1, z.2.2, fun q => ⟨names, noTable wr q⟩⟩
end Ork

namespace OrkH
open PySem PySem.Calls PySem.W PyProof.Rows
/-- as the library's theorem of this name, for a call that goes over any stack (the head's word finds this one within this namespace) -/
theorem PySem.W.holds_open {r : OpenRow} {q : Program} {loose : List Str} {Xt : Shared → Bool} {XP : (Str → Option Value) → Heap → Prop} {α : Type} {Yf : Shared → α} {Ya : World → α} {YP : World → Heap → Prop} {d : DefRec} {kwd : List (Str × Expr)} {N : Nat}
    (top : LeftO r.prog q loose Xt Yf Ya N) (yIs : ∀ w s, Yf s = Ya w → YP w s.heap) (yLasts : ∀ w, Ork.Lasting (YP w)) (xIs : ∀ s, Xt s = true → XP (s.heap.nsMap mainGlobals) s.heap) (xLasts : ∀ mg, Ork.Lasting (XP mg))
    (isDef : defOf q r.name = some (d, kwd)) (isThe : r.prog.theDef r.name = some (d.params, d.body, d.scope)) (kws : kwWritten? d.params.kwonlyargs d.params.kw_defaults = some kwd) (recs : ∀ s, Xt s = true → RecFacts r.records s.heap) (wr : (!r.writes || r.records.isEmpty) = true)
    (said : r.wellSaid = true) (plain : (chainsOk q && opensWell r.prog && (frees r.toRowW && r.within.isEmpty)) = true) (bare : r.prog.bare) (promised : r.toRowW.promised)
    (go : Ork.WalkJ q loose XP YP r.toRowW d kwd) : r.Holds := by
  refine ⟨said, promised, Ork.open_anyJ (r := r.toRowW) top yIs yLasts xIs xLasts recs wr plain bare promised (fun w s isNs gr n inDefs => ?_) fun w t₀ t₁ mg mb gr Y xs us as pre lay L low => ?_⟩
  · have one : n = r.name := by split at inDefs <;> simp_all
    rw [one]
    exact pinned_of_view isNs gr isDef isThe kws
  · obtain ⟨a, o, pm, cd, doc, dfl, kwv, z1, z2, z3, z4, z5⟩ := gr.fn isDef
    exact ⟨.ref a, z1, go w t₀ t₁ mg mb gr Y a dfl kwv xs us as ⟨⟨o, pm, cd, doc, z2, z3, z4⟩, z5, defOf_name isDef ▸ z1, L.gens, pre, lay, L.reads, L.well, L.low low⟩⟩
end OrkH
end
section
set_option Elab.async false
set_option linter.all false
set_option maxRecDepth 100000
namespace Ork
open PySem L2 PySem.Spec PyProof.Rows

/-- the law's call at the heap behind the top, over any stack -/
theorem law_callJ {P : Program} {w : World} {K : PySem.W.Frag} {mg mb : Str → Option Value} {k : Nat} {fa a : Addr} {fd : FuncData} {x : Str} {sp : Sp} {s₁ : Shared} {vs : List Value} {ns : List Int}
    (isIn : K.In s₁.heap) (nsM : s₁.heap.Ns mainGlobals mg) (nsB : s₁.heap.Ns builtinsNs mb) (boot : ∀ y : Str, y ≠ "__name__" → mb y = bootBuiltins y) (noLim : s₁.heap.NoLimit) (noGens : s₁.gens = #[])
    (there : s₁.heap.get? a = some { cls := .type "list", data := .seq vs.toArray }) (areInts : IntsAre vs ns) (hl : ns.length ≤ sizeLine) (room : Room k callerA)
    (F : ∀ base : Heap, K.In base → base.Ns mainGlobals mg → FnJ P w K mg base k fa fd [x] sp) (hbind : ∀ (s : Shared) (u : Value), BindsTo s fd ⟨[u], []⟩ [(x, u)])
    (hsp : ∀ H : Hp, Only H → SqL K H a (ns.map V.int) → sp [.ref a] H (fun v _ => v = .bl true) fun _ _ _ => False) :
    codeJ (model P w) callerA (.call (.ref fa) ⟨[.ref a], []⟩) (fun r s' => r = .ok (.ret (.bool true)) ∧ OldK s₁.heap s'.heap ∧ s'.os = s₁.os ∧ AllBare s'.gens) s₁ := by
  have rv := vals_ints areInts
  have lenV := areInts.length
  have main : ∀ H : Hp, Only H → SqL K H a (ns.map V.int) → HOk P w H s₁.heap → (∀ b, H b ≠ none → b = a) → (H a ≠ none → K.lookup a = none) →
      codeJ (model P w) callerA (.call (.ref fa) ⟨[.ref a], []⟩) (fun r s' => r = .ok (.ret (.bool true)) ∧ OldK s₁.heap s'.heap ∧ s'.os = s₁.os ∧ AllBare s'.gens) s₁ := by
    intro H hO hS hok hA hK
    have under : ∀ {b : Addr} {o : Obj}, s₁.heap.get? b = some o → H b = none → (hidT s₁.heap H).get? b = some o := fun e n => hidT_get e n
    have dictFree : ∀ {b : Addr} {o : Obj} {es : Array DictEntry} {ep : Nat}, s₁.heap.get? b = some o → o.data = .dict es ep → H b = none := fun {b o es ep} e dd => by
      by_cases q : H b = none
      · exact q
      · have e' : b = a := hA b q
        subst e'
        rw [there] at e; cases e
        have d' : Data.seq vs.toArray _ = Data.dict es ep := dd
        cases d'
    have nsK : ∀ {b : Addr} {m : Str → Option Value}, s₁.heap.Ns b m → (hidT s₁.heap H).Ns b m := fun {b m} ⟨o, es, ep, e, dd, rr⟩ => ⟨o, es, ep, under e (dictFree e dd), dd, rr⟩
    have hKb : K.In (hidT s₁.heap H) := fun b o e => under (isIn b o e) (by
      by_cases q : H b = none
      · exact q
      · have e' : b = a := hA b q
        subst e'
        rw [hK q] at e; cases e)
    obtain ⟨mc, lim1, lim2⟩ := noLim
    have modK : L2.Mod K mg (hidT s₁.heap H) := ⟨hKb, nsK nsM, ⟨mb, nsK nsB, boot⟩, mc, nsK lim1, lim2⟩
    have e0 : Env0 P w K mg (hidT s₁.heap H) callerA [] s₁ H := ⟨rfl, modK, fun _ _ z => of_hidT z, Nat.le_of_eq (hidT_size _ _), trivial, fun c z => absurd (show c ∈ ([] : List Addr) from z) List.not_mem_nil, hok, .of_eq noGens⟩
    refine ((F _ hKb (nsK nsM)).run callerA [] s₁ H ⟨[.ref a], []⟩ [.ref a] [.ref a] _ _ room rfl e0 (hbind s₁ (.ref a)) (.cons rfl .nil) (hsp H hO hS)).mono fun r s' h => ?_
    cases r with
    | error e => exact False.elim h
    | ok fl =>
      cases fl with
      | next => exact False.elim h
      | brk => exact False.elim h
      | cont => exact False.elim h
      | ret u =>
        obtain ⟨_, H', os, bare, un, hok', isV, isT⟩ := h
        cases (show _ = V.bl true from isT)
        cases (show u = .bool true from isV)
        refine ⟨rfl, .of_keep fun b o e => ?_, os, bare⟩
        cases q : H b with
        | none => exact un.keep b o e q (fun z => absurd (show b ∈ ([] : List Addr) from z) List.not_mem_nil) (by simp)
        | some u =>
          obtain z | ⟨ob, xs, z⟩ := hO b
          · rw [q] at z; cases z
          · have z2 := un.frzs b ob _ z
            obtain ⟨e1, _⟩ := hok b _ z
            obtain ⟨e2, _⟩ := hok' b _ z2
            rw [e] at e1; cases e1
            exact e2
  cases hk : K.lookup a with
  | some o =>
    have e := isIn a o hk
    rw [there] at e
    cases e
    refine main (fun _ => none) (fun _ => .inl rfl) (.inr ⟨_, vs.toArray, _, hk, rfl, rfl, rfl, by rw [List.size_toArray, lenV]; exact hl, by simpa using rv⟩) (fun b u z => by have z' : (none : Option HO) = some u := z; cases z') (fun b z => absurd rfl z) fun z => absurd rfl z
  | none =>
    let fz : HO := .frz { cls := .type "list", data := .seq vs.toArray } (.lst (ns.map V.int))
    have at_ : ∀ {b : Addr} {u : HO}, (if b = a then some fz else none) = some u → b = a ∧ u = fz := fun {b u} z => by
      by_cases hb : b = a
      · rw [if_pos hb] at z
        exact ⟨hb, (Option.some.inj z).symm⟩
      · rw [if_neg hb] at z
        cases z
    refine main (fun b => if b = a then some fz else none) (fun b => ?_) (.inl (.inr ⟨{ cls := .type "list", data := .seq vs.toArray }, if_pos rfl⟩)) (fun b u z => ?_) (fun b z => ?_) fun _ => hk
    · by_cases hb : b = a
      · exact Or.inr ⟨_, _, if_pos hb⟩
      · exact .inl (if_neg hb)
    · obtain ⟨e1, e2⟩ := at_ z
      subst e1 e2
      exact ⟨there, by simpa using hl, vs, _, rv, there⟩
    · by_cases hb : b = a
      · exact hb
      · exact absurd (if_neg hb) z

/-- the goal that the head leaves, from the law's promise -/
theorem walk_ofJ {l : PySem.W.OpenLaw} {n k : Nat} {q : Program} {loose : List Str} {XP : (Str → Option Value) → Heap → Prop} {YP : World → Heap → Prop} {d : DefRec} {K : Params → PySem.W.Frag} {sp : PySem.W.Frag → Sp} {x : Str}
    (most : l.most = some n) (fits : n ≤ sizeLine) (noDfl : d.params.defaults = []) (room : Room k callerA) (says : ∀ (w : World) (h : Heap), YP w h → (K w.params).In h)
    (F : ∀ (w : World) (mg : Str → Option Value) (fa : Addr) (h : Heap), (K w.params).In h → h.Ns mainGlobals mg → mg d.name = some (.ref fa) → ∃ fd : FuncData, (∀ (s : Shared) (u : Value), BindsTo s fd ⟨[u], []⟩ [(x, u)]) ∧
        ∀ base : Heap, (K w.params).In base → base.Ns mainGlobals mg → FnJ l.prog w (K w.params) mg base k fa fd [x] (sp (K w.params)))
    (hsp : ∀ (K : PySem.W.Frag) (H : Hp) (a : Addr) (ns : List Int), ns.length ≤ n → Only H → SqL K H a (ns.map V.int) → sp K [.ref a] H (fun v _ => v = .bl true) fun _ _ _ => False) :
    WalkJ q loose XP YP l.row.toRowW d [] := by
  intro w t₀ t₁ mg mb gr Y fa dfl kwv xs us as C
  cases PySem.W.Dflts.none C.dfl noDfl
  cases PySem.W.Dflts.noKw C.dfl
  obtain ⟨a, vs, ns, rfl, rfl, there, areInts, len⟩ := Att.script_of most C.pre C.well
  have isIn := says w _ Y
  obtain ⟨fd, binds, ok⟩ := F w mg fa _ isIn gr.T.g C.nm
  refine (law_callJ isIn gr.T.g gr.T.b gr.T.builtins gr.T.nolimit C.gens there areInts (Nat.le_trans len fits) room ok binds fun H hO hS => hsp (K w.params) H a ns len hO hS).mono fun r s' ⟨isT, old, os, bare⟩ => ?_
  subst isT
  exact ⟨fun f e => ⟨.bool true, by cases e; rfl⟩, .inl ⟨.bool true, .bool true, [], rfl, fun _ => rfl, .bool true, Att.post_true l _, fun _ => ⟨List.Pairwise.nil, fun _ hm => (nomatch hm)⟩⟩, old, os, bare⟩
end Ork
end
section
set_option Elab.async false
set_option linter.all false
set_option maxRecDepth 100000
namespace Ork
open PySem L2 PySem.Spec PyProof.Rows
section
variable {X : Cx} {pos : Pos}
/-- o.f as a target -/
def gFld (K : PySem.W.Frag) (to : TE) (f : Str) : TG := fun v σ H Q => to σ H fun o H1 => ∃ a C dx fs, o = .ref a ∧ H1 a = some (.ins C dx fs) ∧ Cls K C ∧ NoAttr K C f ∧ fs.length < 1000 ∧ Q σ (upd H1 a (.ins C dx (putF f v fs)))
theorem pg_fld {o : Expr} {f : Str} {to : TE} (ho : PE X o to)
    (ha : ∀ v, assign (.Attribute o f pos) X.env v = (do
      let at_ ← holding [v] (eval o X.env)
      standAt pos.atName
      holding [v, at_] (setAttr at_ f v)
      release [v, at_] []) := by intro _; rfl) : PG X (.Attribute o f pos) (gFld X.K to f) := by
  refine ⟨fun pins s σ H v u Q I r ht => ?_⟩
  rw [ha]
  refine wpAny_bind (wpAny_holding (thn (ho.run pins s σ H _ I ht) fun w1 s1 ⟨_, H1, I1, rx, a, C, dx, fs, ex, ea, c, n, l, q⟩ => ?_))
  subst ex
  cases (show w1 = .ref a from rx)
  refine wpAny_bind (wpAny_standAt (wpAny_bind (wpAny_holding (setattr_ok I1 ea c n l r fun s3 I3 => ?_))))
  exact wpAny_release ⟨σ, _, I3, q⟩

theorem pgs_star {e : Expr} {p : Pos} {es : List Expr} {t : TG} {u : TGs} (h1 : PG X e t) (h2 : PGs X es u)
    (hs : (assignEach (.Starred e p :: es) X.env).map (·.2) = assign e X.env :: (assignEach es X.env).map (·.2) := by rfl) : PGs X (.Starred e p :: es) (gCons t u) := by
  refine ⟨fun pins s σ H vs us Q I all ht => ?_⟩
  obtain ⟨v, vr, rfl, ht⟩ := ht
  cases all with
  | cons one others =>
    rw [hs]
    exact assignInOrder_cons (thn (h1.run _ _ _ _ _ _ _ I one ht) fun _ _ ⟨_, _, J, q⟩ => h2.run _ _ _ _ _ _ Q J others q)

theorem starTail {prog : Program} {w : World} {A : Around} {E : Value → Shared → Prop} {s : Shared} {l : Addr} {items : Array Value} {i : Nat} {Q : List Value → Shared → Prop} (hl : IsTup s.heap l items) (hh : A.handled = none) (hi : i ≤ items.size) (hz : items.size ≤ 16384)
    (h : ∀ (h' : Heap) (tk : Nat), (∀ b o, s.heap.get? b = some o → h'.get? b = some o) → Q (items.toList.take i ++ [.ref h'.objs.size]) { s with heap := h'.push { cls := .type "list", data := .seq (items.toList.drop i).toArray }, toks := tk }) :
    wpAny (model prog w) A (unpackItems (.ref l) (i + 1) (some i)) Q E s := by
  have nl : l ≠ s.heap.objs.size := fun z => let ⟨_, ho, _⟩ := hl; absurd (Heap.lt_size ho) (by rw [z]; exact Nat.lt_irrefl _)
  have len1 : (items.toList.take i).length = i := List.length_take_of_le (by simpa using hi)
  have len2 : (items.toList.drop i).length = items.size - i := by simp
  unfold unpackItems
  refine wpAny_bind ?_
  unfold notIterableAtAll; refine wpAny_bind (wpAny_specialOf hl.typeIs slot_tuple_iter.lookup (wpAny_pure ?_))
  simp only [if_false, Bool.false_eq_true]
  refine wpAny_bind (wpAny_holding (iter_tuple hl (wpAny_bind (wpAny_holding ?_))))
  refine draw_tuple nl i 0 _ _ ⟨_, Heap.get?_push_size _ rfl, rfl, rfl⟩ (hl.push _) (by omega) fun h₁ hit₁ hs₁ => ?_
  have hl₁ : IsTup h₁ l items := IsTup.extBut (hl.push _) hs₁.extBut nl
  rw [Nat.zero_add] at hit₁
  obtain ⟨oi, hoi, _⟩ := id hit₁
  obtain ⟨ol, hol, _⟩ := id hl₁
  rw [List.drop_zero]
  rw [if_neg (Nat.not_lt.mpr (Nat.le_of_eq len1.symm))]
  refine wpAny_bind (wpAny_holding (PySem.W.kun_collect (s := { s with heap := h₁ }) (T := "tuple_iterator") (.inr (.inr (.inr rfl))) (Walks.tuple (A := A.in1) hh s.heap.objs.size l nl items) (fun j u st => st.1.typeIs) (k := i) (by omega) ⟨hit₁, hl₁⟩ (Heap.lt_size hoi) (Heap.lt_size hol) (fun h₂ tk hk => ?_) (by rw [sizeLine_eq]; omega)))
  have e0 : i + 1 - 1 - i = 0 := by omega
  rw [e0]
  show wpAny _ _ (if (items.toList.drop i).length < 0 then _ else _) _ _ _
  rw [if_neg (Nat.not_lt_zero _)]
  show wpAny _ _ (newList ((items.toList.drop i).take ((items.toList.drop i).length - 0)) >>= fun d => pure (items.toList.take i ++ [d] ++ (items.toList.drop i).drop ((items.toList.drop i).length - 0))) _ _ _
  rw [Nat.sub_zero, List.take_length, List.drop_length]
  have keep : ∀ b o, s.heap.get? b = some o → h₂.get? b = some o := fun b o e => hk b o (Nat.ne_of_lt (Heap.lt_size e)) (hs₁.extBut b o (Nat.ne_of_lt (Heap.lt_size e)) (Heap.get?_push_of_some _ e))
  simp only [List.append_nil]
  refine wpAny_bind (wpAny_newObj_type (wpAny_pure ?_) (by show (items.toList.drop i).toArray.size ≤ sizeLine; rw [List.size_toArray, len2, sizeLine_eq]; omega))
  exact h h₂ tk keep

/-- a, b, *rest = a tuple: the rest is a new list -/
def gTupStar (K : PySem.W.Frag) (i : Nat) (t : TGs) : TG := fun v σ H Q => ∃ a xs, v = .ref a ∧ SqT K H a xs ∧ i ≤ xs.length ∧ xs.length ≤ 16384 ∧ ∀ D, H D = none → t (xs.take i ++ [.ref D]) σ (upd H D (.lst (xs.drop i))) Q
theorem pg_tupStar {es : List Expr} {k : Nat} {t : TGs} {i : Nat} (hc : X.calm = true) (h : PGs X es t)
    (hn : (assignEach es X.env).length = i + 1 := by rfl) (hst : (assignEach es X.env).findIdx? (·.1) = some i := by rfl) : PG X (.Tuple es k pos) (gTupStar X.K i t) := by
  refine ⟨fun pins s σ H v u Q I r ht => ?_⟩
  obtain ⟨a, xs, e1, hq, hl, hz, hw⟩ := ht
  subst e1
  cases r
  obtain ⟨its, rv, ht, _⟩ := I.tuple hq
  have hlen := rv.length
  rw [assign_Tuple]
  refine wpAny_bind (wpAny_standAt ?_); unfold unpack
  rw [hn, hst]
  refine wpAny_bind (wpAny_holding (starTail ht (I.ok.hd hc) (by simp only [List.size_toArray]; omega) (by simp only [List.size_toArray]; omega) fun h' tk hx => ?_))
  have I1 : Inv X pins σ H { s with toks := tk, heap := h' } := I.kept hx
  have nD : H h'.objs.size = none := I1.hok.fresh (Nat.le_refl _)
  have I2 : Inv X pins σ (upd H h'.objs.size (.lst (xs.drop i))) { s with heap := h'.push { cls := .type "list", data := .seq (its.drop i).toArray }, toks := tk } :=
    I1.laid (t' := tk) (fun b o e => Heap.get?_push_of_some _ e) (Nat.le_refl _) (show ObjOk X.prog X.w _ _ _ (.lst (xs.drop i)) from
      ⟨by rw [List.length_drop, sizeLine_eq]; omega, its.drop i, 0, rv.drop i, Heap.get?_push_size _ rfl⟩)
  refine h.run pins _ σ _ (xs.take i ++ [.ref h'.objs.size]) _ Q I2 (by simpa using (rv.take i).append (.cons (show RelV (V.ref h'.objs.size) (Value.ref h'.objs.size) from rfl) .nil)) (hw _ nD)

/-- dict(d): a copy -/
theorem call_dictD : CallR X (.type "dict") (fun xs H Q => ∃ a kvs, xs = [.ref a] ∧ Rd H a (.dK kvs) ∧ ∀ p, H p = none → Q (.ref p) (upd H p (.dK kvs))) := by
  intro pins s σ H xs us Q I r ht
  obtain ⟨a, kvs, ex, hd, q⟩ := ht
  subst ex
  obtain ⟨u, eu, rx⟩ := vals1 r
  subst eu
  cases rx
  exact d_copyOf I hd fun p s' np I' => ⟨.ref p, _, I', rfl, q p np⟩

/-- repr of nested data -/
def rRepr (K : PySem.W.Frag) : List V → Hp → VK → Prop := fun vs H Q => ∃ a d, vs = [.ref a] ∧ Dp K H (.ref a) d ∧ d.showable = true ∧ d.hasDict = false ∧ d.depth ≤ 60 ∧ d.shown.length ≤ sizeLine ∧ Q (.str d.shown) H
theorem call_repr (hg : X.A.guards = some []) (hu : X.A.units + 70 < cLine) : CallR X (.builtin "repr") (rRepr X.K) := by
  intro pins s σ H xs us Q I r ht
  obtain ⟨a, d, ex, hd, hs, hn, hdep, hl, q⟩ := ht
  subst ex
  obtain ⟨u, eu, rx⟩ := vals1 r
  subst eu
  obtain ⟨as, rd⟩ := Dp.reads I d _ _ hd rx
  cases rx
  exact repr_of_reads' rd hs (fun z => by rw [hn] at z; cases z) hg (by omega) (fun b o e => e) (fun h' t tk kp => ⟨.str d.shown, H, I.kept (t' := tk) kp, ⟨t, rfl⟩, q⟩) hl
end
end Ork
end
section
set_option Elab.async false
set_option linter.all false
set_option maxRecDepth 100000
set_option pp.maxSteps 300
namespace Ork
open PySem L2 PySem.Spec PyProof.Rows

/-- the name of a cell: a text, or a text with a number -/
inductive Nm where
  | sc (x : Str)
  | cell (t : Str) (i : Int)
  deriving DecidableEq

section
variable (P : PySem.Program) (w : PySem.World)
def NmIs (h : Heap) : Nm → Value → Prop
  | .sc x, v => ∃ t, v = .str x t
  | .cell t i, v => ∃ b, v = .ref b ∧ (tupleKind (mixKind P w)).is h [.inr t, .inl i] b
def hashN : Nm → Int
  | .sc x => (mixKind P w).hash (.inr x)
  | .cell t i => (tupleKind (mixKind P w)).hash [.inr t, .inl i]
def entN (x : Nm × Value × Value) : DictEntry := ⟨hashN P w x.1, x.2.1, x.2.2⟩
end
section
variable {P : Program} {w : World} {A : Around} {E : Value → Shared → Prop} {s : Shared} {h : Heap} {x y k : Nm} {u v : Value} {d : Addr}
theorem nm_inj (a : NmIs P w h x u) (b : NmIs P w h y u) : x = y := by
  cases x with
  | sc x =>
    obtain ⟨t, rfl⟩ := a
    cases y with
    | sc y =>
      obtain ⟨t', e⟩ := b
      cases e
      rfl
    | cell t' i =>
      obtain ⟨b', e, _⟩ := b
      cases e
  | cell t i =>
    obtain ⟨b0, rfl, a⟩ := a
    cases y with
    | sc y =>
      obtain ⟨t', e⟩ := b
      cases e
    | cell t' i' =>
      obtain ⟨b', e, b⟩ := b
      cases e
      have z := (tupleKind (mixKind P w)).inj a b
      cases z
      rfl
theorem nm_hash {Q : Int → Shared → Prop} (hu : A.units < cLine) (a : NmIs P w s.heap x u) (h : ∀ tk, Q (hashN P w x) { s with toks := tk }) : wpAny (model P w) A (pyHash u) Q E s := by
  cases x with
  | sc x =>
    obtain ⟨t, rfl⟩ := a
    exact (mixKind P w).pyHash (mixKind_str P w x t) (h _)
  | cell t i =>
    obtain ⟨b0, rfl, a⟩ := a
    exact (tupleKind (mixKind P w)).pyHash hu a (h _)
theorem nm_eq {Q : Bool → Shared → Prop} (hu : A.units < cLine) (a : NmIs P w s.heap x u) (b : NmIs P w s.heap y v) (h : Q (decide (x = y)) s) : wpAny (model P w) A (eqBool u v) Q E s := by
  cases x with
  | sc x =>
    obtain ⟨t, rfl⟩ := a
    cases y with
    | sc y =>
      obtain ⟨t', rfl⟩ := b
      refine (mixKind P w).eqBool (mixKind_str P w x t) (mixKind_str P w y t') ?_
      have e : decide ((Sum.inr x : Key) = Sum.inr y) = decide (Nm.sc x = Nm.sc y) := by
        by_cases q : x = y
        · subst q; simp
        · rw [decide_eq_false (fun z => q (by cases z; rfl)), decide_eq_false (fun z => q (by cases z; rfl))]
      rw [e]; exact h
    | cell t' i =>
      obtain ⟨b', rfl, b⟩ := b
      obtain ⟨o, its, n, ho, hc, hd, _⟩ := b
      exact SeqAt.EqAt.str_tuple x t ⟨o, ho, hc, n, hd⟩ hu P w E _ h
  | cell t i =>
    obtain ⟨b0, rfl, a⟩ := a
    cases y with
    | sc y =>
      obtain ⟨t', rfl⟩ := b
      obtain ⟨o, its, n, ho, hc, hd, _⟩ := a
      exact SeqAt.EqAt.tuple_str y t' ⟨o, ho, hc, n, hd⟩ hu P w E _ h
    | cell t' i' =>
      obtain ⟨b', rfl, b⟩ := b
      refine (tupleKind (mixKind P w)).eqBool hu a b ?_
      have e : decide (([.inr t, .inl i] : List Key) = [.inr t', .inl i']) = decide (Nm.cell t i = Nm.cell t' i') := by
        by_cases q : t = t' ∧ i = i'
        · obtain ⟨rfl, rfl⟩ := q; simp
        · rw [decide_eq_false (fun z => q (by cases z; exact ⟨rfl, rfl⟩)), decide_eq_false (fun z => q (by cases z; exact ⟨rfl, rfl⟩))]
      rw [e]; exact h
theorem nm_quiet {Q : Bool → Shared → Prop} (a : NmIs P w s.heap x u) (h : Q true s) : wpAny (model P w) A (eqIsQuiet 8 u) Q E s := by
  cases x with
  | sc x =>
    obtain ⟨t, rfl⟩ := a
    exact wpAny_of_eq (a := true) rfl h
  | cell t i =>
    obtain ⟨b0, rfl, a⟩ := a
    exact (tupleKind (mixKind P w)).quiet a h
theorem nm_str (a : NmIs P w h x u) (z : Str) : u.isStr z = decide (x = .sc z) := by
  cases x with
  | sc x =>
    obtain ⟨t, rfl⟩ := a
    show (x == z) = _
    by_cases q : x = z
    · subst q; simp
    · rw [decide_eq_false (fun e => q (by cases e; rfl))]
      exact beq_eq_false_iff_ne.mpr q
  | cell t i =>
    obtain ⟨b0, rfl, _⟩ := a
    rw [decide_eq_false (fun e => by cases e)]
    rfl

/-- no key of the walk before j is k -/
def NoneBelow (xs : List (Nm × Value × Value)) (k : Nm) (i : Nat) : Prop := ∀ j y, j < i → xs[j]? = some y → y.1 ≠ k

theorem mix_find {o : Obj} {es : Array DictEntry} {ep : Nat} {xs : List (Nm × Value × Value)} {Q : Option Nat → Shared → Prop} (hu : A.units < cLine) (hkey : NmIs P w s.heap k u)
    (ho : s.heap.get? d = some o) (hd : o.data = .dict es ep) (he : es.toList = xs.map (entN P w)) (his : ∀ x ∈ xs, NmIs P w s.heap x.1 x.2.1) (hn : (xs.map (·.1)).Nodup)
    (hnone : (∀ (j : Nat) (y), xs[j]? = some y → y.1 ≠ k) → Q none s) (hsome : ∀ (j : Nat) (y : Nm × Value × Value), xs[j]? = some y → y.1 = k → Q (some j) s) :
    wpAny (model P w) A (dictFind d u (hashN P w k)) Q E s := by
  have ent : ∀ j, es[j]? = (xs[j]?).map (entN P w) := fun j => by rw [← Array.getElem?_toList, he, List.getElem?_map]
  have size : es.size = xs.length := by rw [← Array.length_toList, he, List.length_map]
  have mem : ∀ e ∈ es, ∃ x ∈ xs, e = entN P w x := fun e hin => by
    have z : e ∈ xs.map (entN P w) := he ▸ Array.mem_toList_iff.mpr hin
    obtain ⟨x, hx, rfl⟩ := List.mem_map.mp z
    exact ⟨x, hx, rfl⟩
  have once : ∀ {i j : Nat} {y z : Nm × Value × Value}, xs[i]? = some y → xs[j]? = some z → y.1 = z.1 → i = j := fun {i j y z} h1 h2 e => by
    have a1 : (xs.map (·.1))[i]? = some y.1 := by rw [List.getElem?_map, h1]; rfl
    have a2 : (xs.map (·.1))[j]? = some z.1 := by rw [List.getElem?_map, h2]; rfl
    exact (List.getElem?_inj (List.getElem?_eq_some_iff.mp a1).1 hn).mp (by rw [a1, a2, e])
  have sameHash : ∀ (j : Nat) (y : Nm × Value × Value), xs[j]? = some y → y.1 = k → ((es[j]?.map (·.hash)) == some (hashN P w k)) = true := fun j y hj e => by
    rw [ent j, hj]
    simp [entN, e]
  have stored : ∀ v ∈ (placesWithHash es.size (fun i => es[i]?.map (·.hash)) (hashN P w k)).filterMap (fun i => es[i]?.map (·.key)), ∃ k', NmIs P w s.heap k' v := fun v hv => by
    obtain ⟨_, _, hi⟩ := List.mem_filterMap.mp hv
    obtain ⟨e, hei, rfl⟩ := Option.map_eq_some_iff.mp hi
    obtain ⟨x, hx, rfl⟩ := mem e (Array.mem_of_getElem? hei)
    exact ⟨x.1, his x hx⟩
  -- one place of the walk
  have place : ∀ {i x : Nat} {rest : List Nat}, x :: rest = (List.range' i (es.size - i)).filter (fun i => (es[i]?.map (·.hash)) == some (hashN P w k)) →
      (∃ y, xs[x]? = some y ∧ es[x]? = some (entN P w y) ∧ NmIs P w s.heap y.1 y.2.1) ∧ x < es.size ∧ i ≤ x ∧ (∀ j y, i ≤ j → j < x → xs[j]? = some y → y.1 ≠ k) ∧
        rest = (List.range' (x + 1) (es.size - (x + 1))).filter (fun i => (es[i]?.map (·.hash)) == some (hashN P w k)) := fun {i x rest} hr => by
    obtain ⟨hix, hxn, _, hskip, hrest⟩ := filter_range'_cons _ _ _ _ _ hr.symm
    have inside : x < es.size := by omega
    obtain ⟨y, hy⟩ : ∃ y, xs[x]? = some y := ⟨xs[x]'(by rw [← size]; exact inside), List.getElem?_eq_getElem _⟩
    refine ⟨⟨y, hy, by rw [ent x, hy]; rfl, his _ (List.mem_of_getElem? hy)⟩, inside, hix, fun j y' h1 h2 hj e => ?_, by rw [hrest]; congr 2; omega⟩
    have z := hskip j h1 h2
    rw [sameHash j y' hj e] at z
    cases z
  have atEnd : ∀ {i : Nat}, [] = (List.range' i (es.size - i)).filter (fun i => (es[i]?.map (·.hash)) == some (hashN P w k)) → ∀ j y, i ≤ j → xs[j]? = some y → y.1 ≠ k := fun {i} hr j y h1 hj e => by
    have hjl : j < es.size := by rw [size]; exact (List.getElem?_eq_some_iff.mp hj).1
    have z := List.filter_eq_nil_iff.mp hr.symm j (List.mem_range'_1.mpr ⟨h1, by omega⟩)
    exact z (sameHash j y hj e)
  have plain : wpAny (model P w) A (dictWalkPlain d u (hashN P w k) es (placesWithHash es.size (fun i => es[i]?.map (·.hash)) (hashN P w k))) Q E s := by
    refine wpAny_bind ?_
    refine wpAny_forIn_list _
      (fun rest b s' => s' = s ∧ b = (none, ()) ∧ ∃ i, rest = (List.range' i (es.size - i)).filter (fun i => (es[i]?.map (·.hash)) == some (hashN P w k)) ∧ NoneBelow xs k i) _ ?_ ?_ _ _
      ⟨rfl, rfl, 0, by rw [placesWithHash, List.range_eq_range', Nat.sub_zero], fun _ _ h => absurd h (Nat.not_lt_zero _)⟩
    · rintro x rest b s' ⟨rfl, rfl, i, hr, hno⟩
      obtain ⟨⟨y, hy, hex, hyk⟩, hlt, hix, hskip, hrest⟩ := place hr
      have next : y.1 ≠ k → ∃ i, rest = (List.range' i (es.size - i)).filter (fun i => (es[i]?.map (·.hash)) == some (hashN P w k)) ∧ NoneBelow xs k i := fun hne =>
        ⟨x + 1, hrest, fun j z hj hz => by
          rcases Nat.lt_or_ge j i with q | q
          · exact hno j z q hz
          · rcases Nat.lt_or_ge j x with q' | q'
            · exact hskip j z q q' hz
            · have e : j = x := by omega
              subst e
              rw [hy] at hz
              cases hz
              exact hne⟩
      simp only [hex]
      by_cases hh : (hashN P w y.1 == hashN P w k) = true
      · show wpAny _ _ (if (hashN P w y.1 == hashN P w k) = true then _ else _) _ _ _
        rw [if_pos hh]
        refine wpAny_bind (wpAny_dictEpoch ho hd (wpAny_bind (nm_eq hu hyk hkey (wpAny_bind (wpAny_dictEpoch ho hd ?_)))))
        show wpAny (model P w) A (if (ep != ep) = true then _ else _) _ E _
        rw [if_neg (by simp)]
        by_cases hkk : y.1 = k
        · rw [decide_eq_true hkk]
          exact wpAny_bind (wpAny_rule (wpAny_pure (wpAny_pure (hsome x y hy hkk))))
        · rw [decide_eq_false hkk]
          exact wpAny_bind (wpAny_rule (wpAny_pure ⟨rfl, rfl, next hkk⟩))
      · show wpAny _ _ (if (hashN P w y.1 == hashN P w k) = true then _ else _) _ _ _
        rw [if_neg hh]
        refine wpAny_pure ⟨rfl, rfl, next fun e => hh ?_⟩
        rw [e]; simp
    · rintro b s' ⟨rfl, rfl, i, hr, hno⟩
      refine wpAny_pure (hnone fun j y hj => ?_)
      rcases Nat.lt_or_ge j i with q | q
      · exact hno j y q hj
      · exact atEnd hr j y q hj
  have tells : ∀ {Q' : Bool → Shared → Prop}, Q' false s → wpAny (model P w) A (tableMayTell u ((placesWithHash es.size (fun i => es[i]?.map (·.hash)) (hashN P w k)).filterMap (fun i => es[i]?.map (·.key)))) Q' E s := fun {Q'} q => by
    unfold tableMayTell
    split
    · exact wpAny_pure q
    · refine wpAny_bind (nm_quiet hkey ?_)
      simp only [if_false, Bool.not_true, Bool.false_eq_true]
      refine wpAny_bind ?_
      refine wpAny_forIn_list _ (fun rest r s' => s' = s ∧ r = (none, ()) ∧ ∀ v ∈ rest, ∃ k', NmIs P w s.heap k' v) _ ?_ ?_ _ _ ⟨rfl, rfl, stored⟩
      · rintro x more r s' ⟨rfl, rfl, hr⟩
        obtain ⟨k', hb⟩ := hr x List.mem_cons_self
        refine wpAny_bind (nm_quiet hb ?_)
        simp only [if_false, Bool.not_true, Bool.false_eq_true]
        exact wpAny_pure ⟨rfl, rfl, fun _ hv => hr _ (List.mem_cons_of_mem _ hv)⟩
      · rintro r s' ⟨rfl, rfl, _⟩
        exact wpAny_pure q
  have sure : ¬ (match u with
      | .ref _ => es.any fun e => e.key == u && e.hash != hashN P w k
      | _ => false) = true := by
    cases u with
    | ref a =>
      show ¬ (es.any fun e => e.key == Value.ref a && e.hash != hashN P w k) = true
      rw [← Array.any_toList, List.any_eq_true]; rintro ⟨e, hin, hc⟩
      obtain ⟨x, hx, rfl⟩ := mem e (Array.mem_toList_iff.mp hin)
      simp only [entN, Bool.and_eq_true, beq_iff_eq, bne_iff_ne, ne_eq] at hc
      obtain ⟨hxa, hne⟩ := hc
      have z := his x hx
      rw [hxa] at z
      exact hne (by rw [nm_inj z hkey])
    | _ => exact Bool.false_ne_true
  have byText : ∀ (z : Str) (t : Tok), u = .str z t → wpAny (model P w) A (foundByValue d u es z) Q E s := fun z t e => by
    have ek : k = .sc z := by
      cases k with
      | sc y =>
        obtain ⟨t', e'⟩ := hkey
        rw [e] at e'
        cases e'
        rfl
      | cell t' i =>
        obtain ⟨b, e', _⟩ := hkey
        rw [e] at e'
        cases e'
    unfold foundByValue
    cases hf : es.findIdx? (fun e => e.key.isStr z) with
    | none =>
      refine wpAny_pure (hnone fun j y hj e' => ?_)
      have z1 := Array.findIdx?_eq_none_iff.mp hf (entN P w y) (Array.mem_of_getElem? (by rw [ent j, hj]; rfl))
      have z2 := nm_str (his y (List.mem_of_getElem? hj)) z
      rw [e', ek, decide_eq_true rfl] at z2
      have z3 : y.2.1.isStr z = false := z1
      rw [z2] at z3
      cases z3
    | some i =>
      obtain ⟨hlt, hi, nothing⟩ := Array.findIdx?_eq_some_iff_getElem.mp hf
      obtain ⟨y, hy⟩ : ∃ y, xs[i]? = some y := ⟨xs[i]'(by rw [← size]; exact hlt), List.getElem?_eq_getElem _⟩
      have hex : es[i]? = some (entN P w y) := by rw [ent i, hy]; rfl
      have hex' : es[i] = entN P w y := by rw [Array.getElem?_eq_getElem hlt] at hex; exact Option.some.inj hex
      rw [hex'] at hi
      have hyk := his y (List.mem_of_getElem? hy)
      have z2 := nm_str hyk z
      have z3 : y.2.1.isStr z = true := hi
      rw [z3] at z2
      have hkk : y.1 = k := (of_decide_eq_true z2.symm).trans ek.symm
      simp only [hex]
      refine wpAny_bind (wpAny_dictEpoch ho hd (wpAny_bind (nm_eq hu hyk hkey (wpAny_bind (wpAny_dictEpoch ho hd ?_)))))
      show wpAny (model P w) A (if (ep != ep) = true then _ else _) _ E _
      rw [decide_eq_true hkk, if_neg (by simp)]
      exact wpAny_bind (wpAny_rule (wpAny_pure (hsome i y hy hkk)))
  have stay : ∀ {i x : Nat} {y : Nm × Value × Value} {hit : Option Nat}, xs[x]? = some y → y.1 ≠ k → (∀ j z, i ≤ j → j < x → xs[j]? = some z → z.1 ≠ k) →
      ((hit = none ∧ NoneBelow xs k i) ∨ ∃ j z, hit = some j ∧ j < i ∧ i ≤ x ∧ xs[j]? = some z ∧ z.1 = k) → ((hit = none ∧ NoneBelow xs k (x + 1)) ∨ ∃ j z, hit = some j ∧ j < x + 1 ∧ xs[j]? = some z ∧ z.1 = k) := fun {i x y hit} hy hne hskip hH => by
    rcases hH with ⟨h0, hno⟩ | ⟨j, z, h1, h2, h3, h4, h5⟩
    · refine .inl ⟨h0, fun j z hj hz => ?_⟩
      rcases Nat.lt_or_ge j i with q | q
      · exact hno j z q hz
      · rcases Nat.lt_or_ge j x with q' | q'
        · exact hskip j z q q' hz
        · have e : j = x := by omega
          subst e
          rw [hy] at hz
          cases hz
          exact hne
    · exact .inr ⟨j, z, h1, by omega, h4, h5⟩
  unfold dictFind
  (try with_reducible refine wpAny_holding ?_); refine wpAny_bind (wpAny_dictEntries ho hd ?_)
  dsimp only
  have isKey : (∃ z t, u = .str z t) ∨ ∃ a, u = .ref a := by
    cases k with
    | sc x => obtain ⟨t, e⟩ := hkey; exact .inl ⟨x, t, e⟩
    | cell t i => obtain ⟨b, e, _⟩ := hkey; exact .inr ⟨b, e⟩
  rcases isKey with ⟨z, t, rfl⟩ | ⟨a, rfl⟩
  rotate_right
  · refine wpAny_ite_split (fun _ => plain) (fun _ => ?_)
    dsimp only
    refine wpAny_ite_split (fun q => absurd q sure) (fun _ => ?_)
    refine wpAny_ite_split (fun _ => wpAny_bind (wpAny_pure ?_)) (fun _ => wpAny_bind (tells ?_))
    all_goals
      rw [if_neg (by simp)]
      refine wpAny_bind ?_
      refine wpAny_forIn_list _
        (fun rest b s' => s' = s ∧ ∃ i hit, b = (none, hit) ∧ rest = (List.range' i (es.size - i)).filter (fun i => (es[i]?.map (·.hash)) == some (hashN P w k)) ∧
          ((hit = none ∧ NoneBelow xs k i) ∨ ∃ j z, hit = some j ∧ j < i ∧ xs[j]? = some z ∧ z.1 = k)) _ ?_ ?_ _ _
        ⟨rfl, 0, none, rfl, by rw [placesWithHash, List.range_eq_range', Nat.sub_zero], .inl ⟨rfl, fun _ _ h => absurd h (Nat.not_lt_zero _)⟩⟩
      · rintro x rest b s' ⟨rfl, i, hit, rfl, hr, hH⟩
        obtain ⟨⟨y, hy, hex, hyk⟩, hlt, hix, hskip, hrest⟩ := place hr
        have hH' : (hit = none ∧ NoneBelow xs k i) ∨ ∃ j z, hit = some j ∧ j < i ∧ i ≤ x ∧ xs[j]? = some z ∧ z.1 = k := by
          rcases hH with q | ⟨j, z, h1, h2, h3, h4⟩
          · exact .inl q
          · exact .inr ⟨j, z, h1, h2, hix, h3, h4⟩
        rw [hex]
        dsimp only
        by_cases hh : ((entN P w y).hash == hashN P w k) = true
        · rw [if_pos hh]
          refine wpAny_bind (wpAny_dictEpoch ho hd (wpAny_bind (nm_eq hu hyk hkey (wpAny_bind (wpAny_dictEpoch ho hd ?_)))))
          show wpAny (model P w) A (if (ep != ep) = true then _ else _) _ E _
          rw [if_neg (by simp)]
          by_cases hkk : y.1 = k
          · rw [decide_eq_true hkk]
            rcases hH' with ⟨rfl, _⟩ | ⟨j, z, _, hji, _, hj, hz⟩
            · try rw [if_pos rfl]
              simp only [if_false, Option.isSome_none, Bool.false_eq_true]; refine wpAny_bind (wpAny_rule ?_)
              split
              · exact wpAny_pure (wpAny_pure (hsome x y hy hkk))
              · exact wpAny_pure ⟨rfl, x + 1, some x, rfl, hrest, .inr ⟨x, y, rfl, Nat.lt_succ_self x, hy, hkk⟩⟩
            · exact absurd (once hj hy (hz.trans hkk.symm)) (by omega)
          · rw [decide_eq_false hkk]
            simp only [if_false, Bool.false_eq_true]; refine wpAny_bind (wpAny_rule ?_)
            try rw [if_neg (by simp)]
            first
              | exact wpAny_pure ⟨rfl, x + 1, hit, rfl, hrest, stay hy hkk hskip hH'⟩
              | exact wpAny_bind (wpAny_pure (wpAny_pure ⟨rfl, x + 1, hit, rfl, hrest, stay hy hkk hskip hH'⟩))
        · rw [if_neg hh]
          refine wpAny_pure ⟨rfl, x + 1, hit, rfl, hrest, stay hy (fun e => hh ?_) hskip hH'⟩
          show (hashN P w y.1 == hashN P w k) = true
          rw [e]; simp
      · rintro b s' ⟨rfl, i, hit, rfl, hr, hH⟩
        rcases hH with ⟨rfl, hno⟩ | ⟨j, z, rfl, _, hj, hz⟩
        · refine wpAny_pure (hnone fun j y hj => ?_)
          rcases Nat.lt_or_ge j i with q | q
          · exact hno j y q hj
          · exact atEnd hr j y q hj
        · exact wpAny_pure (hsome j z hj hz)
  · refine wpAny_ite_split (fun _ => byText _ _ rfl) (fun _ => wpAny_ite_split (fun _ => plain) (fun _ => ?_))
    dsimp only
    refine wpAny_ite_split (fun _ => wpAny_bind (wpAny_pure ?_)) (fun _ => wpAny_bind (tells ?_))
    all_goals
      rw [if_neg (by simp)]
      refine wpAny_bind ?_
      refine wpAny_forIn_list _
        (fun rest b s' => s' = s ∧ ∃ i hit, b = (none, hit) ∧ rest = (List.range' i (es.size - i)).filter (fun i => (es[i]?.map (·.hash)) == some (hashN P w k)) ∧
          ((hit = none ∧ NoneBelow xs k i) ∨ ∃ j z, hit = some j ∧ j < i ∧ xs[j]? = some z ∧ z.1 = k)) _ ?_ ?_ _ _
        ⟨rfl, 0, none, rfl, by rw [placesWithHash, List.range_eq_range', Nat.sub_zero], .inl ⟨rfl, fun _ _ h => absurd h (Nat.not_lt_zero _)⟩⟩
      · rintro x rest b s' ⟨rfl, i, hit, rfl, hr, hH⟩
        obtain ⟨⟨y, hy, hex, hyk⟩, hlt, hix, hskip, hrest⟩ := place hr
        have hH' : (hit = none ∧ NoneBelow xs k i) ∨ ∃ j z, hit = some j ∧ j < i ∧ i ≤ x ∧ xs[j]? = some z ∧ z.1 = k := by
          rcases hH with q | ⟨j, z, h1, h2, h3, h4⟩
          · exact .inl q
          · exact .inr ⟨j, z, h1, h2, hix, h3, h4⟩
        rw [hex]
        dsimp only
        by_cases hh : ((entN P w y).hash == hashN P w k) = true
        · rw [if_pos hh]
          refine wpAny_bind (wpAny_dictEpoch ho hd (wpAny_bind (nm_eq hu hyk hkey (wpAny_bind (wpAny_dictEpoch ho hd ?_)))))
          show wpAny (model P w) A (if (ep != ep) = true then _ else _) _ E _
          rw [if_neg (by simp)]
          by_cases hkk : y.1 = k
          · rw [decide_eq_true hkk]
            rcases hH' with ⟨rfl, _⟩ | ⟨j, z, _, hji, _, hj, hz⟩
            · try rw [if_pos rfl]
              simp only [if_false, Option.isSome_none, Bool.false_eq_true]; refine wpAny_bind (wpAny_rule ?_)
              split
              · exact wpAny_pure (wpAny_pure (hsome x y hy hkk))
              · exact wpAny_pure ⟨rfl, x + 1, some x, rfl, hrest, .inr ⟨x, y, rfl, Nat.lt_succ_self x, hy, hkk⟩⟩
            · exact absurd (once hj hy (hz.trans hkk.symm)) (by omega)
          · rw [decide_eq_false hkk]
            simp only [if_false, Bool.false_eq_true]; refine wpAny_bind (wpAny_rule ?_)
            try rw [if_neg (by simp)]
            first
              | exact wpAny_pure ⟨rfl, x + 1, hit, rfl, hrest, stay hy hkk hskip hH'⟩
              | exact wpAny_bind (wpAny_pure (wpAny_pure ⟨rfl, x + 1, hit, rfl, hrest, stay hy hkk hskip hH'⟩))
        · rw [if_neg hh]
          refine wpAny_pure ⟨rfl, x + 1, hit, rfl, hrest, stay hy (fun e => hh ?_) hskip hH'⟩
          show (hashN P w y.1 == hashN P w k) = true
          rw [e]; simp
      · rintro b s' ⟨rfl, i, hit, rfl, hr, hH⟩
        rcases hH with ⟨rfl, hno⟩ | ⟨j, z, rfl, _, hj, hz⟩
        · refine wpAny_pure (hnone fun j y hj => ?_)
          rcases Nat.lt_or_ge j i with q | q
          · exact hno j y q hj
          · exact atEnd hr j y q hj
        · exact wpAny_pure (hsome j z hj hz)
end
end Ork
end
section
set_option Elab.async false
set_option linter.all false
set_option maxRecDepth 100000
set_option pp.maxSteps 400
namespace Ork
open PySem L2 PySem.Spec PyProof.Rows

section
variable (P : PySem.Program) (w : PySem.World)
def MixAt (h : Heap) (d : Addr) (xs : List (Nm × Value × Value)) : Prop :=
  ∃ o es ep, h.get? d = some o ∧ o.ExactDict ∧ o.data = .dict es ep ∧ es.toList = xs.map (entN P w)
/-- a dict of mixed keys -/
def oMix (d : Addr) (xs : List (Nm × Value × Value)) : HO := .ext fun h => MixAt P w h d xs
end
/-- the name as a value -/
def NmV (H : Hp) : V → Nm → Prop
  | v, .sc x => v = .str x
  | v, .cell t i => ∃ b, v = .ref b ∧ H b = some (.tup [.str t, .int i])
def NmU (H : Hp) : Nm → Value → Prop
  | .sc x, u => ∃ t, u = .str x t
  | .cell t i, u => ∃ b, u = .ref b ∧ H b = some (.tup [.str t, .int i])
def MixD (P : Program) (w : World) (H : Hp) (d : Addr) (kvs : List (Nm × Int)) : Prop :=
  ∃ xs : List (Nm × Value × Value), H d = some (oMix P w d xs) ∧ Paired (fun (p : Nm × Int) (q : Nm × Value × Value) => p.1 = q.1 ∧ NmU H q.1 q.2.1 ∧ ∃ t, q.2.2 = .int p.2 t) kvs xs ∧ (kvs.map (·.1)).Nodup ∧ kvs.length ≤ 1000 ∧ d ≠ sysModules

theorem NmV.keep {H H' : Hp} {v : V} {n : Nm} (h : NmV H v n) (k : ∀ b xs, H b = some (.tup xs) → H' b = some (.tup xs)) : NmV H' v n := by
  cases n with
  | sc x => exact h
  | cell t i =>
    obtain ⟨b, e, q⟩ := h
    exact ⟨b, e, k _ _ q⟩
theorem NmU.keep {H H' : Hp} {v : Value} {n : Nm} (h : NmU H n v) (k : ∀ b xs, H b = some (.tup xs) → H' b = some (.tup xs)) : NmU H' n v := by
  cases n with
  | sc x => exact h
  | cell t i =>
    obtain ⟨b, e, q⟩ := h
    exact ⟨b, e, k _ _ q⟩
section
variable {P : Program} {w : World}
theorem MixD.keep {H H' : Hp} {d : Addr} {kvs} (h : MixD P w H d kvs) (hd : H' d = H d) (k : ∀ b xs, H b = some (.tup xs) → H' b = some (.tup xs)) : MixD P w H' d kvs := by
  obtain ⟨xs, e, r, n⟩ := h
  exact ⟨xs, hd.trans e, Paired.mapP r fun _ _ z => ⟨z.1, z.2.1.keep k, z.2.2⟩, n⟩
end
section
variable {X : Cx} {pins : List (Addr × Obj)} {σ : L2.St} {H : Hp} {s : Shared} {d : Addr} {v : V} {u : Value} {n : Nm} {kvs : List (Nm × Int)} {A : Around} {E : Value → Shared → Prop}
theorem NmU.is (I : Inv X pins σ H s) (h : NmU H n u) : NmIs X.prog X.w s.heap n u := by
  cases n with
  | sc x => exact h
  | cell t i =>
    obtain ⟨b, e, q⟩ := h
    exact ⟨b, e, key_of (ks := [.inr t, .inl i]) I.hok q⟩
theorem NmV.to (h : NmV H v n) (r : RelV v u) : NmU H n u := by
  cases n with
  | sc x =>
    cases h
    exact r
  | cell t i =>
    obtain ⟨b, e, q⟩ := h
    subst e
    exact ⟨b, r, q⟩
theorem mix_at (I : Inv X pins σ H s) (m : MixD X.prog X.w H d kvs) : ∃ xs o es ep, s.heap.get? d = some o ∧ o.ExactDict ∧ o.data = .dict es ep ∧ es.toList = xs.map (entN X.prog X.w) ∧
    (∀ x ∈ xs, NmIs X.prog X.w s.heap x.1 x.2.1) ∧ (xs.map (·.1)).Nodup ∧ Paired (fun (p : Nm × Int) (q : Nm × Value × Value) => p.1 = q.1 ∧ NmU H q.1 q.2.1 ∧ ∃ t, q.2.2 = .int p.2 t) kvs xs ∧ xs.length ≤ 1000 ∧ (d == sysModules) = false ∧ H d = some (oMix X.prog X.w d xs) := by
  obtain ⟨xs, e, r, nd, hl, hs⟩ := m
  obtain ⟨⟨o, es, ep, h1, h2, h3, h4⟩, _, _⟩ := (show ObjOk X.prog X.w H s.heap d (oMix X.prog X.w d xs) from I.hok d _ e)
  have keys : ∀ {l : List (Nm × Int)} {m : List (Nm × Value × Value)}, Paired (fun (p : Nm × Int) (q : Nm × Value × Value) => p.1 = q.1 ∧ NmU H q.1 q.2.1 ∧ ∃ t, q.2.2 = .int p.2 t) l m → l.map (·.1) = m.map (·.1) := fun {l m} q => by
    induction q with
    | nil => rfl
    | cons a t ih => rw [List.map_cons, List.map_cons, ih, a.1]
  have all : ∀ {l : List (Nm × Int)} {m : List (Nm × Value × Value)}, Paired (fun (p : Nm × Int) (q : Nm × Value × Value) => p.1 = q.1 ∧ NmU H q.1 q.2.1 ∧ ∃ t, q.2.2 = .int p.2 t) l m → ∀ x ∈ m, NmIs X.prog X.w s.heap x.1 x.2.1 := fun {l m} q => by
    induction q with
    | nil => intro x hx; cases hx
    | cons a t ih =>
      intro x hx
      obtain e | hx := List.mem_cons.mp hx
      · subst e
        exact a.2.1.is I
      · exact ih x hx
  exact ⟨xs, o, es, ep, h1, h2, h3, h4, all r, by rw [← keys r]; exact nd, r, by rw [← r.length]; exact hl, beq_eq_false_iff_ne.mpr hs, e⟩

def valN (kvs : List (Nm × Int)) (n : Nm) : Option Int := (kvs.find? fun p => decide (p.1 = n)).map (·.2)

theorem mix_none {kvs : List (Nm × Int)} {xs : List (Nm × Value × Value)} {R : Nm × Int → Nm × Value × Value → Prop} (r : Paired (fun p q => p.1 = q.1 ∧ R p q) kvs xs) (h : ∀ (j : Nat) (y : Nm × Value × Value), xs[j]? = some y → y.1 ≠ n) : valN kvs n = none := by
  unfold valN
  induction r with
  | nil => rfl
  | @cons p q ps qs a t ih =>
    have e : ¬ p.1 = n := fun z => h 0 q rfl (a.1.symm.trans z)
    rw [List.find?_cons_of_neg (by simpa using e)]
    exact ih fun j y hy => h (j + 1) y (by simpa using hy)
theorem mix_some {kvs : List (Nm × Int)} {xs : List (Nm × Value × Value)} {R : Nm × Int → Nm × Value × Value → Prop} (r : Paired (fun p q => p.1 = q.1 ∧ R p q) kvs xs) : ∀ (j : Nat) (y : Nm × Value × Value), (xs.map (·.1)).Nodup → xs[j]? = some y → y.1 = n → ∃ i, valN kvs n = some i ∧ R (n, i) y := by
  unfold valN
  induction r with
  | nil => intro j y _ hy; simp at hy
  | @cons p q ps qs a t ih =>
    intro j y nd hy e
    rw [List.map_cons, List.nodup_cons] at nd; by_cases z : p.1 = n
    · rw [List.find?_cons_of_pos (by simpa using z)]
      have hj : j = 0 := by
        cases j with
        | zero => rfl
        | succ j =>
          have hm : y ∈ qs := List.mem_of_getElem? (by simpa using hy)
          exact absurd (List.mem_map.mpr ⟨y, hm, e.trans (z.symm.trans a.1)⟩) nd.1
      subst hj
      cases hy
      refine ⟨p.2, rfl, ?_⟩
      have e2 : (n, p.2) = p := by rw [← z]
      rw [e2]
      exact a.2
    · rw [List.find?_cons_of_neg (by simpa using z)]
      cases j with
      | zero =>
        cases hy
        exact absurd (a.1.trans e) z
      | succ j => exact ih j y nd.2 (by simpa using hy) e

theorem mix_get {Q : Option Value → Shared → Prop} (hu : A.units < cLine) (I : Inv X pins σ H s) (m : MixD X.prog X.w H d kvs) (k : NmU H n u)
    (h : ∀ s' o, Inv X pins σ H s' → (match valN kvs n with | some i => ∃ t, o = some (Value.int i t) | none => o = none) → Q o s') : wpAny (model X.prog X.w) A (dictGet d u) Q E s := by
  obtain ⟨xs, o, es, ep, h1, h2, h3, h4, h5, h6, r, hl, hs, e⟩ := mix_at I m
  unfold dictGet
  (try with_reducible refine wpAny_holding ?_)
  refine wpAny_bind (nm_hash hu (k.is I) fun tk => wpAny_bind (mix_find (s := { s with toks := tk }) hu (k.is (I.tok tk)) h1 h3 h4 h5 h6 (fun hno => ?_) fun j y hj hy => ?_))
  · refine wpAny_pure (h _ _ (I.tok tk) ?_)
    rw [mix_none r hno]
  · refine wpAny_bind (wpAny_dictEntries (s := { s with toks := tk }) h1 h3 ?_)
    obtain ⟨i, q1, _, t, q2⟩ := mix_some r j y h6 hj hy
    refine wpAny_pure (h _ _ (I.tok tk) ?_)
    rw [q1]
    refine ⟨t, ?_⟩
    have ej : es[j]? = some (entN X.prog X.w y) := by rw [← Array.getElem?_toList, h4, List.getElem?_map, hj]; rfl
    rw [ej, ← q2]
    rfl

/-- a new pair -/
theorem mix_set {Q : Unit → Shared → Prop} {i : Int} {iv : Value} (hu : A.units < cLine) (I : Inv X pins σ H s) (m : MixD X.prog X.w H d kvs) (k : NmU H n u) (hk : valN kvs n = none) (hl : kvs.length < 1000) (ri : ∃ t, iv = Value.int i t)
    (h : ∀ s' H', Inv X pins σ H' s' → (∃ o, H' = upd H d o ∧ ∀ xs, o ≠ .tup xs) → MixD X.prog X.w H' d (kvs ++ [(n, i)]) → Q () s') : wpAny (model X.prog X.w) A (dictSet d u iv) Q E s := by
  have m0 := m
  obtain ⟨xs, o, es, ep, h1, h2, h3, h4, h5, h6, r, hlx, hs, e⟩ := mix_at I m
  unfold dictSet
  (try with_reducible refine wpAny_holding ?_)
  refine wpAny_bind (nm_hash hu (k.is I) fun tk => ?_)
  unfold dictSetHashed
  (try with_reducible refine wpAny_holding ?_)
  refine wpAny_bind (mix_find (s := { s with toks := tk }) hu (k.is (I.tok tk)) h1 h3 h4 h5 h6 (fun hno => ?_) fun j y hj hy => ?_)
  · have size : es.size = xs.length := by rw [← Array.length_toList, h4, List.length_map]
    have lenE : kvs.length = xs.length := r.length
    refine wpAny_bind (wpAny_rule (wpAny_updateDictKeys (hz := by rw [sizeLine_eq]; omega) (s := { s with toks := tk }) h1 h3 ?_))
    have new : MixAt X.prog X.w (s.heap.update d (Obj.mapDictKeys fun a => a.push ⟨hashN X.prog X.w n, u, iv⟩)) d (xs ++ [(n, u, iv)]) :=
      ⟨_, _, ep + 1, Heap.get?_update_self _ h1 (Obj.isFreed_of_dict (Obj.data_mapDictKeys h3 _)), h2.mapDictKeys _, Obj.data_mapDictKeys h3 _, by simp [h4, entN]⟩
    have same := Heap.SameBut.update s.heap d (Obj.mapDictKeys fun a => a.push ⟨hashN X.prog X.w n, u, iv⟩)
    have I' : Inv X pins σ (upd H d (oMix X.prog X.w d (xs ++ [(n, u, iv)]))) { s with heap := s.heap.update d (Obj.mapDictKeys fun a => a.push ⟨hashN X.prog X.w n, u, iv⟩), toks := tk } := by
      refine I.write (x := d) (e := d) (by rw [e]; exact True.intro) (.inl rfl) (fun b q hb z => (same.2 b hb).trans z) ?_ ?_
      · obtain ⟨o2, _, _, z, _⟩ := new
        exact ⟨o2, z⟩
      · refine ⟨new, ?_, fun g1 g2 z1 z2 => ?_⟩
        · obtain ⟨o2, _, _, z, _⟩ := new
          exact ⟨o2, z⟩
        · obtain ⟨o2, es2, ep2, a1, a2, a3, a4⟩ := z1
          exact ⟨o2, es2, ep2, z2 _ a1, a2, a3, a4⟩
    refine h _ _ I' ⟨_, rfl, fun ys z => by cases z⟩ ⟨_, upd_same, ?_, ?_, by rw [List.length_append]; exact hl, by exact ne_of_beq_false hs⟩
    · have keep : ∀ b ys, H b = some (.tup ys) → upd H d (oMix X.prog X.w d (xs ++ [(n, u, iv)])) b = some (.tup ys) := fun b ys q => by
        rw [upd_ne]
        · exact q
        · intro z
          subst z
          rw [e] at q
          cases q
      exact Paired.snoc (Paired.mapP r fun _ _ z => ⟨z.1, z.2.1.keep keep, z.2.2⟩) ⟨rfl, k.keep keep, ri⟩
    · rw [List.map_append, List.nodup_append]; obtain ⟨_, _, _, nd, _⟩ := m0
      refine ⟨nd, by simp, fun a ha b hb => ?_⟩
      simp only [List.mem_singleton, List.map_cons, List.map_nil] at hb
      subst hb
      intro z
      obtain ⟨p, hp, rfl⟩ := List.mem_map.mp ha
      unfold valN at hk
      rw [Option.map_eq_none_iff, List.find?_eq_none] at hk
      exact hk p hp (by simpa using z)
  · obtain ⟨i, q1, _⟩ := mix_some r j y h6 hj hy
    rw [hk] at q1
    cases q1
end

section
variable {X : Cx} {pos : Pos}
/-- {}, to be such a dict -/
def tDNewM (P : Program) (w : World) : TE := fun _ H Q => ∀ p, H p = none → MixD P w (upd H p (oMix P w p [])) p [] → Q (.ref p) (upd H p (oMix P w p []))
theorem pe_dnewM : PE X (.Dict [] [] pos) (tDNewM X.prog X.w) := ⟨fun pins s σ H Q I h => by
  have nd : s.heap.objs.size ≠ sysModules := Nat.ne_of_gt I.big
  have np := I.hok.fresh (Nat.le_refl s.heap.objs.size)
  refine wpAny_Dict_empty ⟨.ref s.heap.objs.size, _, I.laid (a := s.heap.objs.size) (o := oMix X.prog X.w s.heap.objs.size []) (t' := s.toks) (fun _ _ q => Heap.get?_push_of_some _ q) (Nat.le_refl _) ?_, rfl, h _ np ?_⟩
  · have new : MixAt X.prog X.w (s.heap.push { cls := .type "dict", data := .dict #[] }) s.heap.objs.size [] := ⟨_, #[], 0, Heap.get?_push_size _ rfl, ⟨rfl, rfl, rfl⟩, rfl, rfl⟩
    refine ⟨new, ⟨_, Heap.get?_push_size _ rfl⟩, fun g1 g2 z1 z2 => ?_⟩
    obtain ⟨o2, es2, ep2, a1, a2, a3, a4⟩ := z1
    exact ⟨o2, es2, ep2, z2 _ a1, a2, a3, a4⟩
  · exact ⟨[], upd_same, .nil, List.nodup_nil, Nat.zero_le _, nd⟩⟩

/-- d[k] = i, a new key -/
def rSetM (P : Program) (w : World) : TSet := fun o y v H Q => ∃ d kvs n i, o = .ref d ∧ MixD P w H d kvs ∧ NmV H y n ∧ valN kvs n = none ∧ kvs.length < 1000 ∧ v = .int i ∧
  ∀ H', (∃ o, H' = upd H d o ∧ ∀ xs, o ≠ .tup xs) → MixD P w H' d (kvs ++ [(n, i)]) → Q H'
theorem set_mix (hu : X.A.units + 1 < cLine) : PSet X (rSetM X.prog X.w) := by
  intro pins s σ H o y v ov iv u Q I ro ry rv h
  obtain ⟨d, kvs, n, i, rfl, m, k, hk, hl, rfl, q⟩ := h
  cases (show ov = Value.ref d from ro)
  obtain ⟨_, ob, es, ep, h1, h2, h3, _, _, _, _, _, _⟩ := mix_at I m
  have ty : s.TypeIs (.ref d) "dict" := ⟨ob, h1, h2.1⟩
  unfold setItem
  (try with_reducible refine wpAny_holding ?_)
  refine wpAny_bind (wpAny_sequenceKey ty (by decide) ?_)
  refine wpAny_bind (wpAny_callSpecial?_slot (name := Str.ofString "__setitem__") ty slot_dict_setitem
    (wpAny_call_entry slot_dict_setitem ty entry_dict_setitem ?_ (args_dict_setitem _ _ _)))
  show wpAny _ _ (Builtin.Dict.notOrdered "__setitem__" ⟨[.ref d, iv, u], []⟩ >>= _) _ _ s
  refine wpAny_bind (wpAny_notOrdered_dict ty ?_)
  show wpAny _ _ (dictSet d iv u >>= _) _ _ s
  exact wpAny_bind (mix_set hu I m (k.to ry) hk hl rv fun s' H' I' e m' => wpAny_pure ⟨.none, rfl, wpAny_pure ⟨H', I', q H' e m'⟩⟩)

/-- d[k], there -/
def tMIx (P : Program) (w : World) (td ty : TE) : TE := fun σ H Q => td σ H fun x H1 => ty σ H1 fun y H2 => ∃ d kvs n i, x = .ref d ∧ MixD P w H2 d kvs ∧ NmV H2 y n ∧ valN kvs n = some i ∧ Q (.int i) H2
theorem pe_mix {o i : Expr} {td ty : TE} (hu : X.A.units + 1 < cLine) (ho : PE X o td) (hi : PE X i ty) (hs : NoSl i) : PE X (.Subscript o i pos) (tMIx X.prog X.w td ty) := by
  refine ⟨fun pins s σ H Q I ht => ?_⟩
  refine subD_of PySem.F.slot_dict_getitem.lookup hs (thn (ho.run pins s σ H _ I ht) fun u s1 ⟨x, H1, I1, rx, q1⟩ => thn (hi.run pins s1 σ H1 _ I1 q1) fun iv s2 ⟨y, H2, I2, ry, d, kvs, n, i, ex, m, k, hk, q⟩ => ?_)
  subst ex
  cases (show u = .ref d from rx)
  obtain ⟨_, ob, es, ep, h1, h2, h3, _, _, _, _, _, _⟩ := mix_at I2 m
  have ty : s2.TypeIs (.ref d) "dict" := ⟨ob, h1, h2.1⟩
  refine ⟨ty, ?_⟩
  unfold getItem
  (try with_reducible refine wpAny_holding ?_)
  refine wpAny_bind (wpAny_sequenceKey ty (by decide) ?_)
  refine wpAny_bind (wpAny_callSpecial?_slot (name := Str.ofString "__getitem__") ty slot_dict_getitem
    (wpAny_call_entry slot_dict_getitem ty entry_dict_getitem ?_ (args_dict_getitem _ _)))
  show wpAny _ _ (dictGet d iv >>= _) _ _ s2
  refine wpAny_bind (mix_get hu I2 m (k.to ry) fun s' o I' ho => ?_)
  rw [hk] at ho
  obtain ⟨t, rfl⟩ := ho
  exact wpAny_pure ⟨_, rfl, wpAny_pure ⟨.int i, H2, I', ⟨t, rfl⟩, q⟩⟩

/-- d.get(k) -/
def tMGet (P : Program) (w : World) (td ty : TE) : TE := fun σ H Q => td σ H fun x H1 => ∃ d kvs, x = .ref d ∧ MixD P w H1 d kvs ∧ ty σ H1 fun y H2 => ∃ n, MixD P w H2 d kvs ∧ NmV H2 y n ∧ Q (match valN kvs n with | some i => .int i | none => .non) H2
theorem pe_mget {o e : Expr} {apos cpos : Pos} {td ty : TE} (hu : X.A.units + 1 < cLine) (ho : PE X o td) (he : PE X e ty) (m : M1 X o "get" apos e cpos) : PE X (.Call (.Attribute o "get" apos) [e] [] cpos) (tMGet X.prog X.w td ty) := by
  refine ⟨fun pins s σ H Q I ht => ?_⟩
  refine wpAny_Call_method m.base m.few m.line PySem.F.plainAttrs_dict PySem.F.slot_dict_get PySem.F.type_dict_get (thn (ho.run pins s σ H _ I ht) fun u s1 ⟨x, H1, I1, rx, d, kvs, ex, md, q1⟩ => ?_)
  subst ex
  cases (show u = .ref d from rx)
  obtain ⟨_, ob, es, ep, h1, h2, h3, _, _, _, _, _, _⟩ := mix_at I1 md
  refine ⟨⟨ob, h1, h2.1⟩, fun b z => by cases z; exact ⟨ob, h1, h2.2.1⟩, ?_⟩
  rw [m.trees]
  refine Calls.callWith_builtin rfl (Calls.evalArgs_plain (Calls.spliced_cons (thn (he.run pins s1 σ H1 _ I1 q1) fun iv s2 ⟨y, H2, I2, ry, n, m2, k, q2⟩ => Calls.spliced_nil ?_)))
  obtain ⟨_, ob, es, ep, h1, h2, h3, _, _, _, _, _, hsys, _⟩ := mix_at I2 m2
  have ty : s2.TypeIs (.ref d) "dict" := ⟨ob, h1, h2.1⟩
  have mt : MeetsIn X.prog X.w (Builtin.«dict.get» ⟨[.ref d, iv], []⟩) (fun A R s => A.in1.units < cLine ∧ Inv X pins σ H2 s ∧ (∀ s' r, Inv X pins σ H2 s' → RelV (match valN kvs n with | some i => .int i | none => .non) r → R (.ok (.ret r)) s')) :=
    .of_wp fun A R s ⟨hu, I, hR⟩ => by
      show wpAny _ _ (dictGet d iv >>= _) _ _ s
      refine wpAny_bind (mix_get hu I m2 (k.to ry) fun s' o I' ho => ?_)
      cases hv : valN kvs n with
      | some i =>
        rw [hv] at ho hR
        obtain ⟨t, rfl⟩ := ho
        exact wpAny_pure ⟨_, rfl, hR _ _ I' ⟨t, rfl⟩⟩
      | none =>
        rw [hv] at ho hR
        subst ho
        show wpAny _ _ (Builtin.Dict.missed d iv >>= _) _ _ _
        exact wpAny_bind (wpAny_missed_other hsys (wpAny_pure ⟨.none, rfl, hR _ _ I' rfl⟩))
  exact call_meetsIn PySem.F.slot_dict_get ty PySem.F.entry_dict_get (PySem.F.args_dict_get_2 _ _) mt ⟨hu, I2, fun s' r I' rr => ⟨_, H2, I', rr, q2⟩⟩
end
end Ork
end
section
set_option Elab.async false
set_option linter.all false
set_option maxRecDepth 100000
set_option pp.maxSteps 600
/-! the program's text by places, and the slots of its defs -/
namespace Ork
open PySem L2
def top (i : Nat) : Stmt := PySem.Challenge.pw_orderless_k51_whole_schedules.main.body.getD i (.Pass ⟨0, 0, 0, 0⟩)
abbrev sAllPlaces : Stmt := top 3
abbrev nAllPlaces : List Str := ["cells", "found", "row", "key"]
theorem scAllPlaces : FnScope nAllPlaces ["cells"] (defScope sAllPlaces) := ⟨rfl, rfl, rfl, by decide +kernel, rfl, by decide +kernel, by decide +kernel⟩
abbrev sComputed : Stmt := top 5
abbrev nComputed : List Str := ["operator", "one", "other", "sums", "truths"]
theorem scComputed : FnScope nComputed ["operator", "one", "other"] (defScope sComputed) := ⟨rfl, rfl, rfl, by decide +kernel, rfl, by decide +kernel, by decide +kernel⟩
abbrev sRInit : Stmt := inClass (top 6) 0
abbrev nRInit : List Str := ["self", "cells", "code"]
theorem scRInit : FnScope nRInit ["self", "cells", "code"] (defScope sRInit) := ⟨rfl, rfl, rfl, by decide +kernel, rfl, by decide +kernel, by decide +kernel⟩
abbrev sRStop : Stmt := inClass (top 6) 1
abbrev nRStop : List Str := ["self", "fault_at"]
theorem scRStop : FnScope nRStop ["self", "fault_at"] (defScope sRStop) := ⟨rfl, rfl, rfl, by decide +kernel, rfl, by decide +kernel, by decide +kernel⟩
abbrev sRCell : Stmt := inClass (top 6) 2
abbrev nRCell : List Str := ["self", "instruction", "word", "one", "other", "rest", "table", "slot", "place"]
theorem scRCell : FnScope nRCell ["self", "instruction"] (defScope sRCell) := ⟨rfl, rfl, rfl, by decide +kernel, rfl, by decide +kernel, by decide +kernel⟩
abbrev sRTouch : Stmt := inClass (top 6) 3
abbrev nRTouch : List Str := ["self", "values", "i", "instruction", "cell"]
theorem scRTouch : FnScope nRTouch ["self", "values", "i"] (defScope sRTouch) := ⟨rfl, rfl, rfl, by decide +kernel, rfl, by decide +kernel, by decide +kernel⟩
abbrev sRGo : Stmt := inClass (top 6) 4
abbrev nRGo : List Str := ["self", "i", "word", "parts", "operator", "target", "one", "other", "value"]
theorem scRGo : FnScope nRGo ["self", "i"] (defScope sRGo) := ⟨rfl, rfl, rfl, by decide +kernel, rfl, by decide +kernel, by decide +kernel⟩
abbrev sRNext : Stmt := inClass (top 6) 5
abbrev nRNext : List Str := ["self", "values", "i"]
theorem scRNext : FnScope nRNext ["self", "values"] (defScope sRNext) := ⟨rfl, rfl, rfl, by decide +kernel, rfl, by decide +kernel, by decide +kernel⟩
abbrev sTInit : Stmt := inClass (top 8) 0
abbrev nTInit : List Str := ["self", "cells", "state", "codes", "code"]
theorem scTInit : FnScope nTInit ["self", "cells", "state", "codes"] (defScope sTInit) := ⟨rfl, rfl, rfl, by decide +kernel, rfl, by decide +kernel, by decide +kernel⟩
abbrev sTDo : Stmt := inClass (top 8) 1
abbrev nTDo : List Str := ["self", "k"]
theorem scTDo : FnScope nTDo ["self", "k"] (defScope sTDo) := ⟨rfl, rfl, rfl, by decide +kernel, rfl, by decide +kernel, by decide +kernel⟩
abbrev sHasStep : Stmt := top 9
abbrev nHasStep : List Str := ["cells", "state", "codes", "schedule", "k", "run", "other"]
theorem scHasStep : FnScope nHasStep ["cells", "state", "codes", "schedule", "k"] (defScope sHasStep) := ⟨rfl, rfl, rfl, by decide +kernel, rfl, by decide +kernel, by decide +kernel⟩
abbrev sBehind : Stmt := top 10
abbrev nBehind : List Str := ["cells", "state", "codes", "schedule", "longer", "some", "k"]
theorem scBehind : GScope nBehind ["cells", "state", "codes", "schedule"] (defScope sBehind) := ⟨rfl, rfl, rfl, by decide +kernel, rfl, by decide +kernel, by decide +kernel⟩
abbrev sSchedOf : Stmt := top 11
abbrev nSchedOf : List Str := ["cells", "state", "codes"]
theorem scSchedOf : GScope nSchedOf ["cells", "state", "codes"] (defScope sSchedOf) := ⟨rfl, rfl, rfl, by decide +kernel, rfl, by decide +kernel, by decide +kernel⟩
abbrev sEntries : Stmt := top 13
abbrev nEntries : List Str := ["cells", "found", "row", "keys", "key"]
theorem scEntries : FnScope nEntries ["cells"] (defScope sEntries) := ⟨rfl, rfl, rfl, by decide +kernel, rfl, by decide +kernel, by decide +kernel⟩
abbrev sRanges : Stmt := top 14
abbrev nRanges : List Str := ["cells", "row", "key"]
theorem scRanges : FnScope nRanges ["cells"] (defScope sRanges) := ⟨rfl, rfl, rfl, by decide +kernel, rfl, by decide +kernel, by decide +kernel⟩
abbrev sRangesOf : Stmt := top 16
abbrev nRangesOf : List Str := ["program"]
theorem scRangesOf : FnScope nRangesOf ["program"] (defScope sRangesOf) := ⟨rfl, rfl, rfl, by decide +kernel, rfl, by decide +kernel, by decide +kernel⟩
abbrev sLonger : Stmt := top 17
abbrev nLonger : List Str := ["ranges", "values", "low", "high", "value"]
theorem scLonger : GScope nLonger ["ranges", "values"] (defScope sLonger) := ⟨rfl, rfl, rfl, by decide +kernel, rfl, by decide +kernel, by decide +kernel⟩
abbrev sAllStates : Stmt := top 18
abbrev nAllStates : List Str := ["program"]
theorem scAllStates : GScope nAllStates ["program"] (defScope sAllStates) := ⟨rfl, rfl, rfl, by decide +kernel, rfl, by decide +kernel, by decide +kernel⟩
abbrev sLSource : Stmt := top 20
abbrev nLSource : List Str := ["_law_script"]
theorem scLSource : FnScope nLSource ["_law_script"] (defScope sLSource) := ⟨rfl, rfl, rfl, by decide +kernel, rfl, by decide +kernel, by decide +kernel⟩
abbrev sLNext : Stmt := top 21
abbrev nLNext : List Str := ["_law_source_here", "_law_limit", "_law_draws", "_law_digit", "_law_used", "_law_cell", "_law_mixed"]
theorem scLNext : FnScope nLNext ["_law_source_here", "_law_limit"] (defScope sLNext) := ⟨rfl, rfl, rfl, by decide +kernel, rfl, by decide +kernel, by decide +kernel⟩
abbrev sLRows : Stmt := top 22
abbrev nLRows : List Str := ["_law_source_here", "_law_some"]
theorem scLRows : FnScope nLRows ["_law_source_here"] (defScope sLRows) := ⟨rfl, rfl, rfl, by decide +kernel, rfl, by decide +kernel, by decide +kernel⟩
abbrev sLPlaces : Stmt := top 23
abbrev nLPlaces : List Str := ["_law_rows_here", "_law_found", "_law_k", "_law_row", "_law_key"]
theorem scLPlaces : FnScope nLPlaces ["_law_rows_here"] (defScope sLPlaces) := ⟨rfl, rfl, rfl, by decide +kernel, rfl, by decide +kernel, by decide +kernel⟩
abbrev sLRes : Stmt := top 24
abbrev nLRes : List Str := ["_law_op", "_law_one", "_law_other", "_law_truths", "_law_found"]
theorem scLRes : FnScope nLRes ["_law_op", "_law_one", "_law_other"] (defScope sLRes) := ⟨rfl, rfl, rfl, by decide +kernel, rfl, by decide +kernel, by decide +kernel⟩
abbrev sLFresh : Stmt := top 25
abbrev nLFresh : List Str := []
theorem scLFresh : FnScope nLFresh [] (defScope sLFresh) := ⟨rfl, rfl, rfl, by decide +kernel, rfl, by decide +kernel, by decide +kernel⟩
abbrev sLSpot : Stmt := top 26
abbrev nLSpot : List Str := ["_law_places_here", "_law_own", "_law_part_here", "_law_table", "_law_slot"]
theorem scLSpot : FnScope nLSpot ["_law_places_here", "_law_own", "_law_part_here"] (defScope sLSpot) := ⟨rfl, rfl, rfl, by decide +kernel, rfl, by decide +kernel, by decide +kernel⟩
abbrev sLTouch : Stmt := top 27
abbrev nLTouch : List Str := ["_law_places_here", "_law_own", "_law_part_here", "_law_values", "_law_spot_here", "_law_slots"]
theorem scLTouch : FnScope nLTouch ["_law_places_here", "_law_own", "_law_part_here", "_law_values"] (defScope sLTouch) := ⟨rfl, rfl, rfl, by decide +kernel, rfl, by decide +kernel, by decide +kernel⟩
abbrev sLDo : Stmt := top 28
abbrev nLDo : List Str := ["_law_places_here", "_law_lines", "_law_own", "_law_values", "_law_part_here", "_law_slots", "_law_found"]
theorem scLDo : FnScope nLDo ["_law_places_here", "_law_lines", "_law_own", "_law_values"] (defScope sLDo) := ⟨rfl, rfl, rfl, by decide +kernel, rfl, by decide +kernel, by decide +kernel⟩
abbrev sLEvent : Stmt := top 29
abbrev nLEvent : List Str := ["_law_places_here", "_law_lines", "_law_own", "_law_values", "_law_found"]
theorem scLEvent : FnScope nLEvent ["_law_places_here", "_law_lines", "_law_own", "_law_values"] (defScope sLEvent) := ⟨rfl, rfl, rfl, by decide +kernel, rfl, by decide +kernel, by decide +kernel⟩
abbrev sLTab : Stmt := top 30
abbrev nLTab : List Str := ["_law_rows_here", "_law_found", "_law_row", "_law_k"]
theorem scLTab : FnScope nLTab ["_law_rows_here"] (defScope sLTab) := ⟨rfl, rfl, rfl, by decide +kernel, rfl, by decide +kernel, by decide +kernel⟩
abbrev sLPart : Stmt := top 31
abbrev nLPart : List Str := ["_law_source_here", "_law_rows_here", "_law_at", "_law_many", "_law_names", "_law_tables", "_law_way", "_law_r", "_law_s", "_law_op", "_law_later", "_law_row"]
theorem scLPart : FnScope nLPart ["_law_source_here", "_law_rows_here", "_law_at", "_law_many"] (defScope sLPart) := ⟨rfl, rfl, rfl, by decide +kernel, rfl, by decide +kernel, by decide +kernel⟩
abbrev sLCode : Stmt := top 32
abbrev nLCode : List Str := ["_law_source_here", "_law_rows_here", "_law_most", "_law_many", "_law_at"]
theorem scLCode : FnScope nLCode ["_law_source_here", "_law_rows_here", "_law_most"] (defScope sLCode) := ⟨rfl, rfl, rfl, by decide +kernel, rfl, by decide +kernel, by decide +kernel⟩
abbrev sLCopied : Stmt := top 33
abbrev nLCopied : List Str := ["_law_own"]
theorem scLCopied : FnScope nLCopied ["_law_own"] (defScope sLCopied) := ⟨rfl, rfl, rfl, by decide +kernel, rfl, by decide +kernel, by decide +kernel⟩
abbrev sLAll : Stmt := top 34
abbrev nLAll : List Str := ["_law_places_here", "_law_sheets", "_law_machines", "_law_values", "_law_found", "_law_k", "_law_later", "_law_cells_now", "_law_own", "_law_rest"]
theorem scLAll : FnScope nLAll ["_law_places_here", "_law_sheets", "_law_machines", "_law_values"] (defScope sLAll) := ⟨rfl, rfl, rfl, by decide +kernel, rfl, by decide +kernel, by decide +kernel⟩
abbrev sLRight : Stmt := top 35
abbrev nLRight : List Str := ["_law_rows_here", "_law_stand", "_law_sheets", "_law_is_named", "_law_before", "_law_expected", "_law_lines"]
theorem scLRight : FnScope nLRight ["_law_rows_here", "_law_stand", "_law_sheets", "_law_is_named"] (defScope sLRight) := ⟨rfl, rfl, rfl, by decide +kernel, rfl, by decide +kernel, by decide +kernel⟩
abbrev sLaw : Stmt := top 36
abbrev nLaw : List Str := ["_law_script", "_law_source_here", "_law_lap", "_law_rows_here", "_law_states", "_law_sheets", "_law_turn", "_law_one", "_law_fault", "_law_test", "_law_k"]
theorem scLaw : FnScope nLaw ["_law_script"] (defScope sLaw) := ⟨rfl, rfl, rfl, by decide +kernel, rfl, by decide +kernel, by decide +kernel⟩
end Ork
end
section
set_option Elab.async false
set_option linter.all false
set_option maxRecDepth 100000
/-! the mathematics: machines, events, schedules -/
namespace Ork
open PySem

inductive Op where
  | add | sub | mul | least | most | eq | lt | le | div | mod
  deriving DecidableEq
def Op.str : Op → Str
  | .add => "+" | .sub => "-" | .mul => "*" | .least => "least" | .most => "most" | .eq => "=" | .lt => "<" | .le => "<=" | .div => "div" | .mod => "mod"
def b2 (b : Bool) : Int := if b then 1 else 0
def Op.val : Op → Int → Int → Option Int
  | .add, i, j => some (i + j)
  | .sub, i, j => some (i - j)
  | .mul, i, j => some (i * j)
  | .least, i, j => some (if j < i then j else i)
  | .most, i, j => some (if j > i then j else i)
  | .eq, i, j => some (b2 (decide (i = j)))
  | .lt, i, j => some (b2 (decide (i < j)))
  | .le, i, j => some (b2 (decide (i ≤ j)))
  | .div, i, j => if j < 1 then none else some (i / j)
  | .mod, i, j => if j < 1 then none else some (i.fmod j)

inductive Ins where
  | load (r : Nat) (n : Nm) | store (n : Nm) (r : Nat)
  | loadat (r : Nat) (t : Str) (s : Nat) | storeat (t : Str) (s r : Nat)
  | const (r : Nat) (v : Int) | op (o : Op) (r a b : Nat)
  | unless (s j : Nat) | jump (j : Nat) | fin

structure Mc where
  pc : Nat
  sl : Nat → Int
  over : Bool

def setS (f : Nat → Int) (r : Nat) (v : Int) : Nat → Int := fun q => if q = r then v else f q
def idx (pl : List Nm) (n : Nm) : Option Nat := pl.findIdx? fun x => decide (x = n)

abbrev Res := Mc × List Int × Bool
def ldM (pl : List Nm) (n : Nm) (r : Nat) (m : Mc) (c : List Int) : Res :=
  match idx pl n with
  | some i => ({ m with sl := setS m.sl r (c.getD i 0) }, c, true)
  | none => ({ m with over := true }, c, false)
def stoM (pl : List Nm) (n : Nm) (r : Nat) (m : Mc) (c : List Int) : Res :=
  match idx pl n with
  | some i => (m, c.set i (m.sl r), true)
  | none => ({ m with over := true }, c, false)
def insM (pl : List Nm) (ins : Ins) (m : Mc) (c : List Int) : Res :=
  match ins with
  | .load r n => ldM pl n r m c
  | .store n r => stoM pl n r m c
  | .loadat r t s => ldM pl (.cell t (m.sl s)) r m c
  | .storeat t s r => stoM pl (.cell t (m.sl s)) r m c
  | .const r v => ({ m with sl := setS m.sl r v }, c, false)
  | .op o r a b => match o.val (m.sl a) (m.sl b) with
    | some v => ({ m with sl := setS m.sl r v }, c, false)
    | none => ({ m with over := true }, c, false)
  | .unless s j => (if m.sl s = 0 then { m with pc := j } else m, c, false)
  | .jump j => ({ m with pc := j }, c, false)
  | .fin => ({ m with over := true }, c, false)
def stM (pl : List Nm) (code : List Ins) (m : Mc) (c : List Int) : Res :=
  match code[m.pc]? with
  | none => ({ m with over := true }, c, false)
  | some ins => insM pl ins { m with pc := m.pc + 1 } c
def evM (pl : List Nm) (code : List Ins) : Nat → Mc → List Int → Res
  | 0, m, c => (m, c, false)
  | n + 1, m, c => if m.over then (m, c, false) else
    let r := stM pl code m c
    if r.2.2 then r else evM pl code n r.1 r.2.1
theorem evM_over {pl code} {m : Mc} {c : List Int} (h : m.over = true) : ∀ n, evM pl code n m c = (m, c, false)
  | 0 => rfl
  | n + 1 => by rw [evM, if_pos h]

/-! ### what a code may hold -/
def InsOk (pl : List Nm) (len i : Nat) : Ins → Prop
  | .load r n => r < 3 ∧ (idx pl n).isSome = true
  | .store n r => r < 3 ∧ (idx pl n).isSome = true
  | .loadat r t s => r < 3 ∧ s < 3 ∧ PyData.strOk t = true ∧ t.length ≤ 8
  | .storeat t s r => r < 3 ∧ s < 3 ∧ PyData.strOk t = true ∧ t.length ≤ 8
  | .const r v => r < 3 ∧ v.natAbs < 4
  | .op _ r a b => r < 3 ∧ a < 3 ∧ b < 3
  | .unless s j => s < 3 ∧ i < j ∧ j ≤ len
  | .jump j => i < j ∧ j ≤ len
  | .fin => True
def CodeOk (pl : List Nm) (code : List Ins) : Prop := code.length ≤ 5 ∧ ∀ i ins, code[i]? = some ins → InsOk pl code.length i ins

/-- every value is below 2 ^ (2 ^ e) -/
def Bd (e : Nat) (m : Mc) (c : List Int) : Prop := (∀ r, (m.sl r).natAbs < 2 ^ 2 ^ e) ∧ ∀ v ∈ c, v.natAbs < 2 ^ 2 ^ e
theorem pow_up {e : Nat} {x : Nat} (h : x < 2 ^ 2 ^ e) : x < 2 ^ 2 ^ (e + 1) :=
  Nat.lt_of_lt_of_le h (Nat.pow_le_pow_right (by decide) (Nat.pow_le_pow_right (by decide) (Nat.le_succ e)))
theorem pow_mono {e f : Nat} {x : Nat} (h : x < 2 ^ 2 ^ e) (g : e ≤ f) : x < 2 ^ 2 ^ f :=
  Nat.lt_of_lt_of_le h (Nat.pow_le_pow_right (by decide) (Nat.pow_le_pow_right (by decide) g))
theorem Bd.mono {e f : Nat} {m : Mc} {c : List Int} (h : Bd e m c) (g : e ≤ f) : Bd f m c := ⟨fun r => pow_mono (h.1 r) g, fun v hv => pow_mono (h.2 v hv) g⟩
theorem four_le {e : Nat} (h : 1 ≤ e) : 4 ≤ 2 ^ 2 ^ e :=
  Nat.le_trans (by decide : 4 ≤ 2 ^ 2 ^ 1) (Nat.pow_le_pow_right (by decide) (Nat.pow_le_pow_right (by decide) h))
theorem sq_pow (e : Nat) : 2 ^ 2 ^ (e + 1) = 2 ^ 2 ^ e * 2 ^ 2 ^ e := by
  rw [← Nat.pow_add, Nat.pow_succ]
  congr 1
  omega
theorem Op.val_bd {o : Op} {i j v : Int} {e : Nat} (he : 1 ≤ e) (hi : i.natAbs < 2 ^ 2 ^ e) (hj : j.natAbs < 2 ^ 2 ^ e) (h : o.val i j = some v) : v.natAbs < 2 ^ 2 ^ (e + 1) := by
  have h4 := four_le he
  have hs := sq_pow e
  have two : 2 * 2 ^ 2 ^ e ≤ 2 ^ 2 ^ (e + 1) := by rw [hs]; exact Nat.mul_le_mul_right _ (by omega)
  have one : 2 ^ 2 ^ e ≤ 2 ^ 2 ^ (e + 1) := by omega
  cases o with
  | add => cases h; have := Int.natAbs_add_le i j; omega
  | sub => cases h; have := Int.natAbs_sub_le i j; omega
  | mul =>
    cases h
    rw [Int.natAbs_mul, hs]
    exact Nat.mul_lt_mul'' hi hj
  | least => cases h; split <;> omega
  | most => cases h; split <;> omega
  | eq => cases h; unfold b2; split <;> simp <;> omega
  | lt => cases h; unfold b2; split <;> simp <;> omega
  | le => cases h; unfold b2; split <;> simp <;> omega
  | div =>
    have h : (if j < 1 then none else some (i / j)) = some v := h
    by_cases hj1 : j < 1
    · rw [if_pos hj1] at h; cases h
    · rw [if_neg hj1] at h
      cases h
      have z : (i / j).natAbs ≤ i.natAbs := Int.natAbs_ediv_le_natAbs i j
      omega
  | mod =>
    have h : (if j < 1 then none else some (i.fmod j)) = some v := h
    by_cases hj1 : j < 1
    · rw [if_pos hj1] at h; cases h
    · rw [if_neg hj1] at h
      cases h
      have e1 : i.fmod j = i % j := Int.fmod_eq_emod_of_nonneg _ (by omega)
      rw [e1]
      have z1 := Int.emod_nonneg i (b := j) (by omega)
      have z2 := Int.emod_lt_of_pos i (b := j) (by omega)
      omega
theorem mem_getD {c : List Int} {i : Nat} (h : i < c.length) : c.getD i 0 ∈ c := by
  rw [List.getD_eq_getElem?_getD, List.getElem?_eq_getElem h]
  exact List.getElem_mem h
theorem idx_lt {pl : List Nm} {n : Nm} {i : Nat} (h : idx pl n = some i) : i < pl.length := (List.findIdx?_eq_some_iff_getElem.mp h).1
theorem Bd.set {e : Nat} {m : Mc} {c : List Int} {r : Nat} {v : Int} (h : Bd e m c) (hv : v.natAbs < 2 ^ 2 ^ e) : Bd e { m with sl := setS m.sl r v } c := ⟨fun q => by
  show (setS m.sl r v q).natAbs < _
  unfold setS
  split
  · exact hv
  · exact h.1 q, h.2⟩

/-- one instruction: forward, within the code, bounds doubled -/
theorem stM_ok {pl : List Nm} {code : List Ins} {m : Mc} {c : List Int} {e : Nat} (ok : CodeOk pl code) (he : 1 ≤ e) (hb : Bd e m c) (hc : c.length = pl.length) (hp : m.pc < code.length) :
    m.pc < (stM pl code m c).1.pc ∧ (stM pl code m c).1.pc ≤ code.length ∧ Bd (e + 1) (stM pl code m c).1 (stM pl code m c).2.1 ∧ (stM pl code m c).2.1.length = pl.length := by
  obtain ⟨ins, hi⟩ : ∃ ins, code[m.pc]? = some ins := ⟨code[m.pc], List.getElem?_eq_getElem hp⟩
  have io := ok.2 _ _ hi
  have up := hb.mono (Nat.le_succ e)
  have h4 := four_le he
  unfold stM
  rw [hi]
  dsimp only
  have ld : ∀ n r, m.pc < (ldM pl n r { m with pc := m.pc + 1 } c).1.pc ∧ (ldM pl n r { m with pc := m.pc + 1 } c).1.pc ≤ code.length ∧ Bd (e + 1) (ldM pl n r { m with pc := m.pc + 1 } c).1 (ldM pl n r { m with pc := m.pc + 1 } c).2.1 ∧ (ldM pl n r { m with pc := m.pc + 1 } c).2.1.length = pl.length := fun n r => by
    unfold ldM
    split
    · rename_i i hidx
      exact ⟨Nat.lt_succ_self _, hp, Bd.set (m := { m with pc := m.pc + 1 }) ⟨up.1, up.2⟩ (up.2 _ (mem_getD (by rw [hc]; exact idx_lt hidx))), hc⟩
    · exact ⟨Nat.lt_succ_self _, hp, ⟨up.1, up.2⟩, hc⟩
  have sto : ∀ n r, m.pc < (stoM pl n r { m with pc := m.pc + 1 } c).1.pc ∧ (stoM pl n r { m with pc := m.pc + 1 } c).1.pc ≤ code.length ∧ Bd (e + 1) (stoM pl n r { m with pc := m.pc + 1 } c).1 (stoM pl n r { m with pc := m.pc + 1 } c).2.1 ∧ (stoM pl n r { m with pc := m.pc + 1 } c).2.1.length = pl.length := fun n r => by
    unfold stoM
    split
    · rename_i i hidx
      refine ⟨Nat.lt_succ_self _, hp, ⟨up.1, fun v hv => ?_⟩, by rw [List.length_set]; exact hc⟩
      rcases List.mem_or_eq_of_mem_set hv with q | q
      · exact up.2 _ q
      · rw [q]; exact up.1 r
    · exact ⟨Nat.lt_succ_self _, hp, ⟨up.1, up.2⟩, hc⟩
  cases ins with
  | load r n => exact ld n r
  | store n r => exact sto n r
  | loadat r t s => exact ld _ r
  | storeat t s r => exact sto _ r
  | const r v => exact ⟨Nat.lt_succ_self _, hp, Bd.set (m := { m with pc := m.pc + 1 }) ⟨up.1, up.2⟩ (pow_up (Nat.lt_of_lt_of_le io.2 h4)), hc⟩
  | op o r a b =>
    unfold insM
    dsimp only
    split
    · rename_i v hv
      exact ⟨Nat.lt_succ_self _, hp, Bd.set (m := { m with pc := m.pc + 1 }) ⟨up.1, up.2⟩ (Op.val_bd he (hb.1 a) (hb.1 b) hv), hc⟩
    · exact ⟨Nat.lt_succ_self _, hp, ⟨up.1, up.2⟩, hc⟩
  | «unless» s j =>
    unfold insM
    dsimp only
    split
    · exact ⟨io.2.1, io.2.2, ⟨up.1, up.2⟩, hc⟩
    · exact ⟨Nat.lt_succ_self _, hp, ⟨up.1, up.2⟩, hc⟩
  | jump j => exact ⟨io.1, io.2, ⟨up.1, up.2⟩, hc⟩
  | fin => exact ⟨Nat.lt_succ_self _, hp, ⟨up.1, up.2⟩, hc⟩
theorem stM_end {pl : List Nm} {code : List Ins} {m : Mc} {c : List Int} (hp : code.length ≤ m.pc) : stM pl code m c = ({ m with over := true }, c, false) := by
  unfold stM
  rw [List.getElem?_eq_none hp]

/-- an event -/
theorem evM_ok {pl : List Nm} {code : List Ins} (ok : CodeOk pl code) : ∀ (n : Nat) (m : Mc) (c : List Int) (e : Nat), 1 ≤ e → Bd e m c → c.length = pl.length → m.pc ≤ code.length →
    m.pc ≤ (evM pl code n m c).1.pc ∧ (evM pl code n m c).1.pc ≤ code.length ∧ Bd (e + ((evM pl code n m c).1.pc - m.pc)) (evM pl code n m c).1 (evM pl code n m c).2.1 ∧ (evM pl code n m c).2.1.length = pl.length ∧
      ((evM pl code n m c).2.2 = true → m.pc < (evM pl code n m c).1.pc) := by
  intro n
  induction n with
  | zero => intro m c e he hb hc hp; exact ⟨Nat.le_refl _, hp, by simpa [evM] using hb, hc, fun z => by cases z⟩
  | succ n ih =>
    intro m c e he hb hc hp
    rw [evM]
    split
    · exact ⟨Nat.le_refl _, hp, by simpa using hb, hc, fun z => by cases z⟩
    · rcases Nat.lt_or_ge m.pc code.length with q | q
      · obtain ⟨h1, h2, h3, h4⟩ := stM_ok ok he hb hc q
        dsimp only
        split
        · exact ⟨Nat.le_of_lt h1, h2, h3.mono (by omega), h4, fun _ => h1⟩
        · obtain ⟨g1, g2, g3, g4, g5⟩ := ih (stM pl code m c).1 (stM pl code m c).2.1 (e + 1) (by omega) h3 h4 h2
          exact ⟨by omega, g2, g3.mono (by omega), g4, fun z => by have := g5 z; omega⟩
      · rw [stM_end q]
        dsimp only
        rw [if_neg (by simp), evM_over rfl]
        exact ⟨Nat.le_refl _, hp, ⟨fun r => pow_mono (hb.1 r) (by omega), fun v hv => pow_mono (hb.2 v hv) (by omega)⟩, hc, fun z => by cases z⟩
end Ork
end
section
set_option Elab.async false
set_option linter.all false
set_option maxRecDepth 100000
/-! configurations, schedules; rows; their data; what is kept of a heap -/
namespace Ork
open PySem L2

/-- machines and cells -/
structure Cfg where
  ms : List Mc
  c : List Int
def fuel (code : List Ins) : Nat := code.length + 1
def evK (pl : List Nm) (codes : List (List Ins)) (k : Nat) (g : Cfg) : Cfg × Bool :=
  match codes[k]?, g.ms[k]? with
  | some code, some m => let r := evM pl code (fuel code) m g.c; (⟨g.ms.set k r.1, r.2.1⟩, r.2.2)
  | _, _ => (g, false)
def behind (pl : List Nm) (codes : List (List Ins)) : Nat → Cfg → List (List Nat)
  | 0, _ => [[]]
  | n + 1, g =>
    let ks := (List.range codes.length).filter fun k => (evK pl codes k g).2
    if ks = [] then [[]] else ks.flatMap fun k => (behind pl codes n (evK pl codes k g).1).map (k :: ·)
def runS (pl : List Nm) (codes : List (List Ins)) (g : Cfg) : List Nat → Cfg
  | [] => g
  | k :: ks => runS pl codes (evK pl codes k g).1 ks
theorem runS_snoc {pl codes} : ∀ (ks : List Nat) (g : Cfg) (k : Nat), runS pl codes g (ks ++ [k]) = (evK pl codes k (runS pl codes g ks)).1
  | [], _, _ => rfl
  | _ :: ks, g, k => runS_snoc ks _ k
def freshM : Mc := ⟨0, fun _ => 0, false⟩
def cfg0 (codes : List (List Ins)) (c : List Int) : Cfg := ⟨codes.map fun _ => freshM, c⟩
/-- what is left to run -/
def measL : List (List Ins) → List Mc → Nat
  | code :: cs, m :: ms => (code.length - m.pc) + measL cs ms
  | _, _ => 0
def meas (codes : List (List Ins)) (g : Cfg) : Nat := measL codes g.ms
structure CfgOk (pl : List Nm) (codes : List (List Ins)) (g : Cfg) : Prop where
  len : g.ms.length = codes.length
  pcs : ∀ (k : Nat) (code : List Ins) (m : Mc), codes[k]? = some code → g.ms[k]? = some m → m.pc ≤ code.length
  cells : g.c.length = pl.length
  small : meas codes g ≤ 11
  bd : ∀ m ∈ g.ms, Bd (12 - meas codes g) m g.c
  bc : ∀ v ∈ g.c, v.natAbs < 2 ^ 2 ^ (12 - meas codes g)
def CodesOk (pl : List Nm) (codes : List (List Ins)) : Prop := codes.length ≤ 3 ∧ (codes.map List.length).sum ≤ 10 ∧ ∀ code ∈ codes, CodeOk pl code

theorem measL_get : ∀ {codes : List (List Ins)} {ms : List Mc} {k : Nat} {code : List Ins} {m : Mc}, codes[k]? = some code → ms[k]? = some m → code.length - m.pc ≤ measL codes ms
  | _ :: _, _ :: _, 0, _, _, h1, h2 => by cases h1; cases h2; exact Nat.le_add_right _ _
  | _ :: cs, _ :: ms, k + 1, code, m, h1, h2 => Nat.le_trans (measL_get (codes := cs) (ms := ms) (k := k) (by simpa using h1) (by simpa using h2)) (Nat.le_add_left _ _)
  | [], _, _, _, _, h1, _ => by simp at h1
  | _ :: _, [], _, _, _, _, h2 => by simp at h2
theorem measL_set : ∀ {codes : List (List Ins)} {ms : List Mc} {k : Nat} {code : List Ins} {m m' : Mc}, codes[k]? = some code → ms[k]? = some m → measL codes (ms.set k m') + (code.length - m.pc) = measL codes ms + (code.length - m'.pc)
  | _ :: _, _ :: _, 0, _, _, _, h1, h2 => by cases h1; cases h2; simp [measL]; omega
  | _ :: cs, _ :: ms, k + 1, code, m, m', h1, h2 => by
    have z := measL_set (codes := cs) (ms := ms) (k := k) (code := code) (m := m) (m' := m') (by simpa using h1) (by simpa using h2)
    simp only [List.set_cons_succ, measL]
    omega
  | [], _, _, _, _, _, h1, _ => by simp at h1
  | _ :: _, [], _, _, _, _, _, h2 => by simp at h2

theorem evK_eq {pl codes k g code m} (h1 : codes[k]? = some code) (h2 : g.ms[k]? = some m) : evK pl codes k g = (⟨g.ms.set k (evM pl code (fuel code) m g.c).1, (evM pl code (fuel code) m g.c).2.1⟩, (evM pl code (fuel code) m g.c).2.2) := by
  unfold evK
  rw [h1, h2]
theorem evK_ok {pl : List Nm} {codes : List (List Ins)} {g : Cfg} {k : Nat} (co : CodesOk pl codes) (h : CfgOk pl codes g) (hk : k < codes.length) :
    CfgOk pl codes (evK pl codes k g).1 ∧ meas codes (evK pl codes k g).1 ≤ meas codes g ∧ ((evK pl codes k g).2 = true → meas codes (evK pl codes k g).1 < meas codes g) := by
  have h1 : codes[k]? = some codes[k] := List.getElem?_eq_getElem hk
  have hk2 : k < g.ms.length := by rw [h.len]; exact hk
  have h2 : g.ms[k]? = some g.ms[k] := List.getElem?_eq_getElem hk2
  have ok := co.2.2 _ (List.getElem_mem hk)
  have hle : codes[k].length - g.ms[k].pc ≤ meas codes g := measL_get h1 h2
  have hs := h.small
  obtain ⟨g1, g2, g3, g4, g5⟩ := evM_ok ok (fuel codes[k]) g.ms[k] g.c (12 - meas codes g) (by omega) (h.bd _ (List.getElem_mem hk2)) h.cells (h.pcs k _ _ h1 h2)
  rw [evK_eq h1 h2]
  generalize evM pl codes[k] (fuel codes[k]) g.ms[k] g.c = R at g1 g2 g3 g4 g5 ⊢
  have hm : meas codes (⟨g.ms.set k R.1, R.2.1⟩ : Cfg) + (codes[k].length - g.ms[k].pc) = meas codes g + (codes[k].length - R.1.pc) := measL_set h1 h2
  have hpc := h.pcs k _ _ h1 h2
  have e1 : 12 - meas codes g + (R.1.pc - g.ms[k].pc) = 12 - meas codes (⟨g.ms.set k R.1, R.2.1⟩ : Cfg) := by omega
  rw [e1] at g3
  dsimp only
  refine ⟨⟨by rw [List.length_set]; exact h.len, fun j code m hc hmj => ?_, g4, by omega, fun m hm' => ?_, g3.2⟩, by omega, fun z => by have := g5 z; omega⟩
  · by_cases e : k = j
    · subst e
      rw [List.getElem?_set_self hk2] at hmj
      cases hmj
      rw [h1] at hc
      cases hc
      exact g2
    · rw [List.getElem?_set_ne e] at hmj
      exact h.pcs j _ _ hc hmj
  · rcases List.mem_or_eq_of_mem_set hm' with q | q
    · exact ⟨fun r => pow_mono ((h.bd m q).1 r) (by omega), g3.2⟩
    · rw [q]; exact g3
theorem runS_ok {pl : List Nm} {codes : List (List Ins)} (co : CodesOk pl codes) : ∀ (ks : List Nat) (g : Cfg), CfgOk pl codes g → (∀ k ∈ ks, k < codes.length) → CfgOk pl codes (runS pl codes g ks)
  | [], _, h, _ => h
  | k :: ks, g, h, hk => runS_ok co ks _ (evK_ok co h (hk k (List.mem_cons_self ..))).1 fun j hj => hk j (List.mem_cons_of_mem _ hj)
theorem meas_zero {pl : List Nm} {codes : List (List Ins)} {g : Cfg} {k : Nat} (co : CodesOk pl codes) (h : CfgOk pl codes g) (z : meas codes g = 0) (hk : k < codes.length) : (evK pl codes k g).2 = false := by
  cases e : (evK pl codes k g).2 with
  | false => rfl
  | true => have := (evK_ok co h hk).2.2 e; omega
theorem measL_fresh : ∀ (codes : List (List Ins)), measL codes (codes.map fun _ => freshM) = (codes.map List.length).sum
  | [] => rfl
  | c :: cs => by
    simp only [List.map_cons, measL, List.sum_cons, measL_fresh cs]
    rfl
theorem cfg0_ok {pl : List Nm} {codes : List (List Ins)} {c : List Int} (co : CodesOk pl codes) (hc : c.length = pl.length) (hb : ∀ v ∈ c, v.natAbs < 4) : CfgOk pl codes (cfg0 codes c) := by
  have hm : meas codes (cfg0 codes c) ≤ 10 := by
    show measL codes (codes.map fun _ => freshM) ≤ 10
    rw [measL_fresh]
    exact co.2.1
  have h4 : 4 ≤ 2 ^ 2 ^ (12 - meas codes (cfg0 codes c)) := four_le (by omega)
  refine ⟨by simp [cfg0], fun k code m _ h2 => ?_, hc, by omega, fun m hm' => ⟨fun r => ?_, fun v hv => Nat.lt_of_lt_of_le (hb v hv) h4⟩, fun v hv => Nat.lt_of_lt_of_le (hb v hv) h4⟩
  · have : m = freshM := by
      have := List.mem_of_getElem? h2
      obtain ⟨_, _, e⟩ := List.mem_map.mp this
      exact e.symm
    subst this
    exact Nat.zero_le _
  · obtain ⟨_, _, e⟩ := List.mem_map.mp hm'
    subst e
    show (0 : Int).natAbs < _
    have : (0 : Int).natAbs = 0 := rfl
    omega

/-- rows -/
structure Row where
  name : Str
  size : Nat
  lo : Int
  hi : Int
  b1 : Bool
  b2 : Bool
  z : Int
def Row.places (r : Row) : List Nm := if r.size = 0 then [.sc r.name] else (List.range r.size).map fun i => .cell r.name (i : Nat)
def placesOf (rows : List Row) : List Nm := rows.flatMap Row.places

/-! ### as data -/
def Nm.toD : Nm → PyData
  | .sc x => .str x
  | .cell t i => .tuple [.str t, .int i]
def Ins.toD : Ins → PyData
  | .load r n => .tuple [.str "load", .int r, n.toD]
  | .store n r => .tuple [.str "store", n.toD, .int r]
  | .loadat r t s => .tuple [.str "loadat", .int r, .str t, .int s]
  | .storeat t s r => .tuple [.str "storeat", .str t, .int s, .int r]
  | .const r v => .tuple [.str "const", .int r, .int v]
  | .op o r a b => .tuple [.str "do", .str o.str, .int r, .int a, .int b]
  | .unless s j => .tuple [.str "unless", .int s, .int j]
  | .jump j => .tuple [.str "jump", .int j]
  | .fin => .tuple [.str "end"]
def codeD (code : List Ins) : PyData := .tuple (code.map Ins.toD)
def codesD (codes : List (List Ins)) : PyData := .tuple (codes.map codeD)
def Row.toD (r : Row) : PyData := .tuple [.str r.name, .int r.size, .int r.lo, .int r.hi, .bool r.b1, .bool r.b2, .int r.z]
def rowsD (rows : List Row) : PyData := .tuple (rows.map Row.toD)
def natsD (ks : List Nat) : PyData := .tuple (ks.map fun (k : Nat) => .int k)
def intsD (ks : List Int) : PyData := .tuple (ks.map .int)

/-! ### tuples in a heap -/
mutual
inductive Tp (H : Hp) : V → PyData → Prop
  | non : Tp H .non .none
  | bl (b : Bool) : Tp H (.bl b) (.bool b)
  | int (i : Int) : Tp H (.int i) (.int i)
  | str (x : Str) : Tp H (.str x) (.str x)
  | tup {a : Addr} {xs : List V} {ds : List PyData} : H a = some (.tup xs) → Tps H xs ds → Tp H (.ref a) (.tuple ds)
inductive Tps (H : Hp) : List V → List PyData → Prop
  | nil : Tps H [] []
  | cons {v : V} {vs : List V} {d : PyData} {ds : List PyData} : Tp H v d → Tps H vs ds → Tps H (v :: vs) (d :: ds)
end
def TK (H H' : Hp) : Prop := ∀ b xs, H b = some (.tup xs) → H' b = some (.tup xs)
mutual
theorem Tp.keep {H H' : Hp} (k : TK H H') : ∀ (d : PyData) (v : V), Tp H v d → Tp H' v d
  | .none, _, h => by cases h; exact .non
  | .bool _, _, h => by cases h; exact .bl _
  | .int _, _, h => by cases h; exact .int _
  | .str _, _, h => by cases h; exact .str _
  | .list _, _, h => by cases h
  | .dict _, _, h => by cases h
  | .tuple ds, _, h => by
    cases h with
    | tup a b => exact .tup (k _ _ a) (Tps.keep k ds _ b)
theorem Tps.keep {H H' : Hp} (k : TK H H') : ∀ (ds : List PyData) (vs : List V), Tps H vs ds → Tps H' vs ds
  | [], _, h => by cases h; exact .nil
  | d :: ds, _, h => by
    cases h with
    | cons a b => exact .cons (Tp.keep k d _ a) (Tps.keep k ds _ b)
end
mutual
theorem Tp.dp {K : PySem.W.Frag} {H : Hp} : ∀ (d : PyData) (v : V), Tp H v d → Dp K H v d
  | .none, _, h => by cases h; exact .non
  | .bool _, _, h => by cases h; exact .bl _
  | .int _, _, h => by cases h; exact .int _
  | .str _, _, h => by cases h; exact .str _
  | .list _, _, h => by cases h
  | .dict _, _, h => by cases h
  | .tuple ds, _, h => by
    cases h with
    | tup a b => exact .tup (.of a) (Tps.dp ds _ b)
theorem Tps.dp {K : PySem.W.Frag} {H : Hp} : ∀ (ds : List PyData) (vs : List V), Tps H vs ds → DpAll K H vs ds
  | [], _, h => by cases h; exact .nil
  | d :: ds, _, h => by
    cases h with
    | cons a b => exact .cons (Tp.dp d _ a) (Tps.dp ds _ b)
end
theorem Tps.length {H : Hp} : ∀ {vs : List V} {ds : List PyData}, Tps H vs ds → vs.length = ds.length
  | _, _, .nil => rfl
  | _, _, .cons _ h => congrArg Nat.succ h.length
theorem Tps.get {H : Hp} : ∀ {vs : List V} {ds : List PyData} {i : Nat} {d : PyData}, Tps H vs ds → ds[i]? = some d → ∃ v, vs[i]? = some v ∧ Tp H v d
  | _, _, _, _, .nil, no => by simp at no
  | _, _, 0, _, .cons a _, e => by simp at e; subst e; exact ⟨_, rfl, a⟩
  | _, _, i + 1, _, .cons _ b, e => by
    obtain ⟨v, h1, h2⟩ := Tps.get (i := i) b (by simpa using e)
    exact ⟨v, by simpa using h1, h2⟩
theorem Tps.append {H : Hp} : ∀ {vs us : List V} {ds es : List PyData}, Tps H vs ds → Tps H us es → Tps H (vs ++ us) (ds ++ es)
  | _, _, _, _, .nil, h => h
  | _, _, _, _, .cons a b, h => .cons a (b.append h)
theorem Tps.snoc {H : Hp} {vs : List V} {ds : List PyData} {v : V} {d : PyData} (h : Tps H vs ds) (a : Tp H v d) : Tps H (vs ++ [v]) (ds ++ [d]) := h.append (.cons a .nil)
theorem Tps.ints {H : Hp} : ∀ (l : List Int), Tps H (l.map V.int) (l.map PyData.int)
  | [] => .nil
  | i :: l => .cons (.int i) (Tps.ints l)
theorem Tps.toInts {H : Hp} : ∀ {l : List Int} {vs : List V}, Tps H vs (l.map PyData.int) → vs = l.map V.int
  | [], _, h => by cases h; rfl
  | i :: l, _, h => by
    cases h with
    | cons a b => cases a; rw [Tps.toInts b]; rfl

/-! ### what stays -/
structure Kp (S : List Addr) (H H' : Hp) : Prop where
  same : ∀ b o, H b = some o → b ∉ S → H' b = some o
  tk : TK H H'
  dom : ∀ b, H' b = none → H b = none
theorem Kp.refl (S : List Addr) (H : Hp) : Kp S H H := ⟨fun _ _ h _ => h, fun _ _ h => h, fun _ h => h⟩
theorem Kp.trans {S : List Addr} {H H1 H2 : Hp} (a : Kp S H H1) (b : Kp S H1 H2) : Kp S H H2 :=
  ⟨fun c o h n => b.same c o (a.same c o h n) n, fun c xs h => b.tk c xs (a.tk c xs h), fun c h => a.dom c (b.dom c h)⟩
theorem Kp.mono {S S' : List Addr} {H H' : Hp} (a : Kp S H H') (h : ∀ b, b ∈ S → b ∈ S') : Kp S' H H' := ⟨fun b o e n => a.same b o e fun z => n (h b z), a.tk, a.dom⟩
/-- a new object -/
theorem Kp.new {S : List Addr} {H H1 : Hp} {p : Addr} {o : HO} (a : Kp S H H1) (np : H1 p = none) : Kp S H (upd H1 p o) :=
  ⟨fun b u e n => by
    have z := a.same b u e n
    rw [upd_ne (fun q => by subst q; rw [np] at z; cases z)]
    exact z, fun b xs e => by
    have z := a.tk b xs e
    rw [upd_ne (fun q => by subst q; rw [np] at z; cases z)]
    exact z, fun b e => by
    by_cases q : b = p
    · subst q; rw [upd_same] at e; cases e
    · rw [upd_ne q] at e; exact a.dom b e⟩
/-- an object written -/
theorem Kp.put {S : List Addr} {H H1 : Hp} {p : Addr} {o u : HO} (a : Kp S H H1) (hp : p ∈ S) (e : H1 p = some u) (hu : ∀ xs, u ≠ .tup xs) : Kp S H (upd H1 p o) :=
  ⟨fun b w e' n => by
    have nb : b ≠ p := fun q => by subst q; exact n hp
    rw [upd_ne nb]
    exact a.same b w e' n, fun b xs e' => by
    have z := a.tk b xs e'
    rw [upd_ne (fun q => by subst q; rw [e] at z; exact hu xs (Option.some.inj z))]
    exact z, fun b e' => by
    by_cases q : b = p
    · subst q; rw [upd_same] at e'; cases e'
    · rw [upd_ne q] at e'; exact a.dom b e'⟩
/-- what was new may be forgotten -/
theorem Kp.drop {S T : List Addr} {H H' : Hp} (a : Kp S H H') (h : ∀ b ∈ S, b ∈ T ∨ H b = none) : Kp T H H' :=
  ⟨fun b o e n => a.same b o e fun z => by
    rcases h b z with q | q
    · exact n q
    · exact absurd (e.symm.trans q) (fun z => by cases z), a.tk, a.dom⟩
theorem Kp.lst {S : List Addr} {H H' : Hp} {a : Addr} {xs : List V} (k : Kp S H H') (h : H a = some (.lst xs)) (n : a ∉ S) : H' a = some (.lst xs) := k.same _ _ h n
theorem Kp.fresh {S : List Addr} {H H' : Hp} {a : Addr} (k : Kp S H H') (h : H' a = none) : H a = none := k.dom a h
end Ork
end
section
set_option Elab.async false
set_option linter.all false
set_option maxRecDepth 100000
set_option pp.maxSteps 600
/-! how a def of the module is had; the law's machine as data -/
namespace Ork
open PySem L2 PySem.Spec PyProof.Rows

/-- a def stands under its name -/
structure Def (K : PySem.W.Frag) (mg : Str → Option Value) (x : Str) (st : Stmt) (ps : List Str) (f : Addr) (fd : FuncData) : Prop where
  fn : Fun K x x st f fd
  nm : mg x = some (.ref f)
  bi : Binds K fd ps []
/-- a def that keeps a promise, under its name -/
def Has (P : Program) (w : World) (K : PySem.W.Frag) (mg : Str → Option Value) (base : Heap) (x : Str) (k : Nat) (ps : List Str) (sp : Sp) : Prop :=
  ∃ f fd, mg x = some (.ref f) ∧ PySem.W.keepIn K (.ref f) = true ∧ Binds K fd ps [] ∧ FnOk P w K mg base CX0 k f fd ps sp
section
variable {P : Program} {w : World} {base : Heap} {mg : Str → Option Value} {K : PySem.W.Frag}
theorem Def.has {x : Str} {st : Stmt} {ps : List Str} {f : Addr} {fd : FuncData} {k : Nat} {sp : Sp} (D : Def K mg x st ps f fd) (h : FnOk P w K mg base CX0 k f fd ps sp) : Has P w K mg base x k ps sp :=
  ⟨f, fd, D.nm, D.fn.kp, D.bi, h⟩
theorem Has.mono {x : Str} {ps : List Str} {j k : Nat} {sp : Sp} (h : Has P w K mg base x j ps sp) (l : j ≤ k) : Has P w K mg base x k ps sp := by
  obtain ⟨f, fd, a, b, c, d⟩ := h
  exact ⟨f, fd, a, b, c, d.mono l⟩
end
section
variable {X : Cx} {x : Str} {p pos : Pos} {e : Expr} {es : List Expr} {t : TA} {k : Nat} {ps : List Str} {sp : Sp}
theorem pe_has (h : Has X.prog X.w X.K X.mg X.base x k ps sp) (hr : Room k X.A) (hg : Gl X x) (ha : PA X (e :: es) t) (hdb : (x == ("__debug__" : Str)) = false := by decide) (he : starEach (e :: es) X.env = (false, eval e X.env) :: starEach es X.env := by rfl)
    (hpl : (backTo pos (starEach es X.env)).any (·.1) = false := by rfl) :
    PE X (.Call (.Name x p) (e :: es) [] pos) (tCall sp [] E0 t) := by
  obtain ⟨f, fd, a, b, c, d⟩ := h
  exact pe_call d hr hg a b c .nil pass0 ha hdb he hpl
end
/-- the built-ins that the text names -/
structure Bn (mg : Str → Option Value) : Prop where
  len : mg "len" = none
  range : mg "range" = none
  list : mg "list" = none
  tuple : mg "tuple" = none
  int : mg "int" = none
  min : mg "min" = none
  max : mg "max" = none
  dict : mg "dict" = none
  repr : mg "repr" = none

/-! ### the law's machine -/
def kAt : Key := .inr "at"
def kSlots : Key := .inr "slots"
def kOver : Key := .inr "over"
def kFault : Key := .inr "fault"
def ownK (pc : Int) (sl : Addr) (ov fl : Bool) : List (Key × V) := [(kAt, .int pc), (kSlots, .ref sl), (kOver, .bl ov), (kFault, .bl fl)]
theorem k12 : ¬ kAt = kSlots := by decide +kernel
theorem k13 : ¬ kAt = kOver := by decide +kernel
theorem k14 : ¬ kAt = kFault := by decide +kernel
theorem k21 : ¬ kSlots = kAt := by decide +kernel
theorem k23 : ¬ kSlots = kOver := by decide +kernel
theorem k24 : ¬ kSlots = kFault := by decide +kernel
theorem k31 : ¬ kOver = kAt := by decide +kernel
theorem k32 : ¬ kOver = kSlots := by decide +kernel
theorem k34 : ¬ kOver = kFault := by decide +kernel
theorem k41 : ¬ kFault = kAt := by decide +kernel
theorem k42 : ¬ kFault = kSlots := by decide +kernel
theorem k43 : ¬ kFault = kOver := by decide +kernel
section
variable {pc pc' : Int} {sl : Addr} {ov fl b : Bool}
theorem own_at : valV (ownK pc sl ov fl) kAt = some (.int pc) := valV_pos rfl
theorem own_slots : valV (ownK pc sl ov fl) kSlots = some (.ref sl) := (valV_neg k12).trans (valV_pos rfl)
theorem own_over : valV (ownK pc sl ov fl) kOver = some (.bl ov) := (valV_neg k13).trans ((valV_neg k23).trans (valV_pos rfl))
theorem own_fault : valV (ownK pc sl ov fl) kFault = some (.bl fl) := (valV_neg k14).trans ((valV_neg k24).trans ((valV_neg k34).trans (valV_pos rfl)))
theorem put_at : putK (ownK pc sl ov fl) kAt (.int pc') = ownK pc' sl ov fl := by
  unfold putK
  rw [if_pos (by rw [valV_any, own_at]; rfl)]
  unfold ownK
  simp only [List.map_cons, List.map_nil, if_neg k21, if_neg k31, if_neg k41, if_true]
theorem put_over : putK (ownK pc sl ov fl) kOver (.bl b) = ownK pc sl b fl := by
  unfold putK
  rw [if_pos (by rw [valV_any, own_over]; rfl)]
  unfold ownK
  simp only [List.map_cons, List.map_nil, if_neg k13, if_neg k23, if_neg k43, if_true]
theorem put_fault : putK (ownK pc sl ov fl) kFault (.bl b) = ownK pc sl ov b := by
  unfold putK
  rw [if_pos (by rw [valV_any, own_fault]; rfl)]
  unfold ownK
  simp only [List.map_cons, List.map_nil, if_neg k14, if_neg k24, if_neg k34, if_true]
end
/-- the law's machine in its two dicts -/
structure LM (H : Hp) (o sl : Addr) (m : Mc) (b : Nat) : Prop where
  own : ∃ fl, H o = some (.dK (ownK m.pc sl m.over fl))
  slots : ∃ kvs, H sl = some (.dK kvs) ∧ (m.over = false → (∀ r : Nat, ((valV kvs (Sum.inl (r : Int))).getD (.int 0)) = .int (m.sl r)) ∧ kvs.length ≤ b)
  ne : o ≠ sl
theorem LM.keep {H H' : Hp} {o sl : Addr} {m : Mc} {n : Nat} (h : LM H o sl m n) (h1 : H' o = H o) (h2 : H' sl = H sl) : LM H' o sl m n := by
  obtain ⟨⟨fl, a⟩, ⟨kvs, b, c⟩, n⟩ := h
  exact ⟨⟨fl, h1.trans a⟩, ⟨kvs, h2.trans b, c⟩, n⟩
theorem LM.mono {H : Hp} {o sl : Addr} {m : Mc} {b b' : Nat} (h : LM H o sl m b) (l : b ≤ b') : LM H o sl m b' := by
  obtain ⟨a, ⟨kvs, q, c⟩, n⟩ := h
  exact ⟨a, ⟨kvs, q, fun z => ⟨(c z).1, Nat.le_trans (c z).2 l⟩⟩, n⟩
theorem MixD.kp {P : Program} {w : World} {H H' : Hp} {d : Addr} {kvs : List (Nm × Int)} {S : List Addr} (h : MixD P w H d kvs) (k : Kp S H H') (n : d ∉ S) : MixD P w H' d kvs := by
  have h' := h
  obtain ⟨xs, e, _⟩ := h'
  exact h.keep ((k.same _ _ e n).trans e.symm) k.tk
theorem LM.kp {H H' : Hp} {o sl : Addr} {m : Mc} {n : Nat} {S : List Addr} (h : LM H o sl m n) (k : Kp S H H') (n1 : o ∉ S) (n2 : sl ∉ S) : LM H' o sl m n := by
  obtain ⟨⟨fl, a⟩, ⟨kvs, b, c⟩, n⟩ := h
  exact ⟨⟨fl, k.same _ _ a n1⟩, ⟨kvs, k.same _ _ b n2, c⟩, n⟩

/-- names with their places -/
def enumN (pl : List Nm) : List (Nm × Int) := (pl.zipIdx).map fun p => (p.1, (p.2 : Int))
theorem valN_from (n : Nm) : ∀ (pl : List Nm) (b : Nat), ((pl.zipIdx b).map fun p => (p.1, (p.2 : Int))).find? (fun p => decide (p.1 = n)) = ((pl.findIdx? fun x => decide (x = n))).map fun i => (n, ((i + b : Nat) : Int))
  | [], b => rfl
  | x :: pl, b => by
    rw [List.zipIdx_cons, List.map_cons, List.findIdx?_cons]
    by_cases e : x = n
    · rw [List.find?_cons_of_pos (by simpa using e)]
      simp [e]
    · rw [List.find?_cons_of_neg (by simpa using e), valN_from n pl (b + 1)]
      simp only [decide_eq_false e, Bool.false_eq_true, if_false, Option.map_map]
      congr 1
      funext i
      show (n, ((i + (b + 1) : Nat) : Int)) = (n, ((i + 1 + b : Nat) : Int))
      rw [show i + (b + 1) = i + 1 + b by omega]
theorem valN_enum (pl : List Nm) (n : Nm) : valN (enumN pl) n = (idx pl n).map fun (i : Nat) => (i : Int) := by
  unfold valN enumN idx
  rw [valN_from n pl 0, Option.map_map]
  rfl
end Ork
end
section
set_option Elab.async false
set_option linter.all false
set_option maxRecDepth 100000
set_option maxHeartbeats 1200000
namespace Ork
open PySem L2 PySem.Spec PyProof.Rows

def GHas (P : Program) (w : World) (K : PySem.W.Frag) (mg : Str → Option Value) (base : Heap) (x : Str) (k cn : Nat) (ps : List Str) (sp : SpJ) : Prop :=
  ∃ f fd, mg x = some (.ref f) ∧ PySem.W.keepIn K (.ref f) = true ∧ Binds K fd ps [] ∧ GFnJ P w K mg base k cn f fd ps sp
section
variable {P : Program} {w : World} {base : Heap} {mg : Str → Option Value} {K : PySem.W.Frag}
theorem Def.ghas {x : Str} {st : Stmt} {ps : List Str} {f : Addr} {fd : FuncData} {k cn : Nat} {sp : SpJ} (D : Def K mg x st ps f fd) (h : GFnJ P w K mg base k cn f fd ps sp) : GHas P w K mg base x k cn ps sp :=
  ⟨f, fd, D.nm, D.fn.kp, D.bi, h⟩
end
section
variable {Y : Cx} {k cn : Nat} {ps : List Str} {sp : SpJ} {x : Str} {p pos : Pos} {e : Expr} {es : List Expr} {t : TA} {S : Addr} {HW : Hp}
theorem pgs_has (h : GHas Y.prog Y.w Y.K Y.mg Y.base x k cn ps sp) (hr : Room k Y.A) (hg : Gl Y x) (ha : PA Y (e :: es) t) (hdb : (x == ("__debug__" : Str)) = false := by decide)
    (he : starEach (e :: es) Y.env = (false, eval e Y.env) :: starEach es Y.env := by rfl) (hpl : (backTo pos (starEach es Y.env)).any (·.1) = false := by rfl) :
    PGenS Y S HW k cn (.Call (.Name x p) (e :: es) [] pos) (fun σ H Q => ∀ xs, H S = some (.lst xs) → t σ H fun vs H1 => H1 S = some (.lst xs) ∧ SameBut S HW H1 ∧ sp vs H1 (Q H1)) := by
  obtain ⟨f, fd, a, b, c, d⟩ := h
  exact pgs_call d hr hg a b c ha hdb he hpl
theorem pgj_has (h : GHas Y.prog Y.w Y.K Y.mg Y.base x k cn ps sp) (hr : Room k Y.A) (hg : Gl Y x) (ha : PA Y (e :: es) t) (hdb : (x == ("__debug__" : Str)) = false := by decide)
    (he : starEach (e :: es) Y.env = (false, eval e Y.env) :: starEach es Y.env := by rfl) (hpl : (backTo pos (starEach es Y.env)).any (·.1) = false := by rfl) :
    PGenJ Y k cn (.Call (.Name x p) (e :: es) [] pos) (fun σ H Q => t σ H fun vs H1 => sp vs H1 (Q H1)) := by
  obtain ⟨f, fd, a, b, c, d⟩ := h
  exact pgj_call d hr hg a b c ha hdb he hpl
end
theorem kp_same {S : Addr} {H H' : Hp} {xs ys : List V} (h : SameBut S H H') (a : H S = some (.lst xs)) (b : H' S = some (.lst ys)) : Kp [S] H H' where
  same := fun c o e n => h c o (by simpa using n) e
  tk := fun c zs e => h c _ (fun z => by rw [z, a] at e; cases e) e
  dom := fun c e => by
    cases q : H c with
    | none => rfl
    | some o =>
      by_cases z : c = S
      · rw [z, b] at e; cases e
      · rw [h c o z q] at e; cases e
theorem same_kp {S : Addr} {H H' : Hp} (h : Kp [S] H H') : SameBut S H H' := fun c o n e => h.same c o e (by simpa using n)

/-- the turns of a range in a generator -/
theorem forG_range {S : Addr} {lo : Int} {n : Nat} {g : TG} {tb : TS} {D : Ends} {σ : L2.St} {H : Hp} (Pv : Nat → L2.St → Hp → Prop) (h0 : Pv 0 σ H)
    (hs : ∀ i σ H xs, i < n → H S = some (.lst xs) → Pv i σ H → g (.int (lo + (i : Nat))) σ H fun σ2 H2 => H2 S = some (.lst xs) ∧ tb { D with nx := Pv (i + 1), ct := Pv (i + 1), bk := D.nx } σ2 H2) (hd : ∀ σ H, Pv n σ H → D.nx σ H) :
    ∃ W : Nat → Nat → L2.St → Hp → Prop, (∃ m, W 0 m σ H) ∧ ∀ i m σ H xs, H S = some (.lst xs) → W i m σ H →
      ((Itr lo n).stop i H ∧ D.nx σ H) ∨ ((Itr lo n).go i H ∧ ∃ N : L2.St → Hp → Prop, (∀ σ' H', N σ' H' → ∃ m', m' < m ∧ W (i + 1) m' σ' H') ∧
        ∀ x H', (Itr lo n).yld i H x H' → H' S = some (.lst xs) ∧ g x σ H' fun σ2 H2 => H2 S = some (.lst xs) ∧ tb { D with nx := N, ct := N, bk := D.nx } σ2 H2) := by
  refine ⟨fun i m σ H => i ≤ n ∧ m = n - i ∧ Pv i σ H, ⟨n, Nat.zero_le _, by simp, h0⟩, ?_⟩
  rintro i m σ H xs hS ⟨hi, rfl, p⟩
  by_cases hlt : i < n
  · refine .inr ⟨hlt, Pv (i + 1), fun σ' H' nx => ⟨n - (i + 1), by omega, hlt, rfl, nx⟩, fun x H' y => ?_⟩
    obtain ⟨e, y⟩ := y
    subst e y
    exact ⟨hS, hs i σ _ xs hlt hS p⟩
  · have e : i = n := by omega
    subst e
    exact .inl ⟨Nat.le_refl _, hd _ _ p⟩
theorem forG_list {S : Addr} {K : PySem.W.Frag} {a : Addr} {zs : List V} {g : TG} {tb : TS} {D : Ends} {σ : L2.St} {H : Hp} (Pv : Nat → L2.St → Hp → Prop) (h0 : Pv 0 σ H) (hl : ∀ i σ H, i ≤ zs.length → Pv i σ H → SqL K H a zs)
    (hs : ∀ i x σ H xs, zs[i]? = some x → H S = some (.lst xs) → Pv i σ H → g x σ H fun σ2 H2 => H2 S = some (.lst xs) ∧ tb { D with nx := Pv (i + 1), ct := Pv (i + 1), bk := D.nx } σ2 H2) (hd : ∀ σ H, Pv zs.length σ H → D.nx σ H) :
    ∃ W : Nat → Nat → L2.St → Hp → Prop, (∃ m, W 0 m σ H) ∧ ∀ i m σ H xs, H S = some (.lst xs) → W i m σ H →
      ((Itl K a).stop i H ∧ D.nx σ H) ∨ ((Itl K a).go i H ∧ ∃ N : L2.St → Hp → Prop, (∀ σ' H', N σ' H' → ∃ m', m' < m ∧ W (i + 1) m' σ' H') ∧
        ∀ x H', (Itl K a).yld i H x H' → H' S = some (.lst xs) ∧ g x σ H' fun σ2 H2 => H2 S = some (.lst xs) ∧ tb { D with nx := N, ct := N, bk := D.nx } σ2 H2) := by
  refine ⟨fun i m σ H => m = zs.length - i ∧ i ≤ zs.length ∧ Pv i σ H, ⟨zs.length, by simp, Nat.zero_le _, h0⟩, ?_⟩
  rintro i m σ H xs hS ⟨rfl, hi, p⟩
  have q := hl i σ H hi p
  by_cases hlt : i < zs.length
  · refine .inr ⟨⟨zs, zs[i], q, by simp [hlt]⟩, Pv (i + 1), fun σ' H' p' => ⟨zs.length - (i + 1), by omega, rfl, hlt, p'⟩, fun x H' y => ?_⟩
    obtain ⟨e, y⟩ := y
    subst e
    exact ⟨hS, hs i x σ _ xs (y zs q) hS p⟩
  · have e : i = zs.length := by omega
    subst e
    exact .inl ⟨⟨zs, q, Nat.le_refl _⟩, hd σ H p⟩
end Ork
end
section
set_option Elab.async false
set_option linter.all false
set_option maxRecDepth 100000
set_option pp.maxSteps 3000
/-! the law's machine: its defs -/
namespace Ork
open PySem L2 PySem.Spec PyProof.Rows

def Ins.word : Ins → Str
  | .load .. => "load" | .store .. => "store" | .loadat .. => "loadat" | .storeat .. => "storeat" | .const .. => "const" | .op .. => "do" | .unless .. => "unless" | .jump .. => "jump" | .fin => "end"
def Ins.vs (x : V) : Ins → List V
  | .load r _ => [.str "load", .int r, x]
  | .store _ r => [.str "store", x, .int r]
  | .loadat r t s => [.str "loadat", .int r, .str t, .int s]
  | .storeat t s r => [.str "storeat", .str t, .int s, .int r]
  | .const r v => [.str "const", .int r, .int v]
  | .op o r a b => [.str "do", .str o.str, .int r, .int a, .int b]
  | .unless s j => [.str "unless", .int s, .int j]
  | .jump j => [.str "jump", .int j]
  | .fin => [.str "end"]
def Ins.nm? : Ins → Option Nm
  | .load _ n => some n
  | .store n _ => some n
  | _ => none
theorem nmV_of {H : Hp} {n : Nm} {v : V} (h : Tp H v n.toD) : NmV H v n := by
  cases n with
  | sc x => cases h; rfl
  | cell t i =>
    cases h with
    | tup a b =>
      cases b with
      | cons b1 b =>
        cases b with
        | cons b2 b =>
          cases b
          cases b1
          cases b2
          exact ⟨_, rfl, a⟩
theorem nm_to {H : Hp} {n : Nm} {v : V} (h : NmV H v n) : Tp H v n.toD := by
  cases n with
  | sc x => cases h; exact .str x
  | cell t i =>
    obtain ⟨b, rfl, e⟩ := h
    exact .tup e (.cons (.str t) (.cons (.int i) .nil))
theorem ins_of {H : Hp} {ins : Ins} {v : V} (h : Tp H v ins.toD) : ∃ a x, v = .ref a ∧ H a = some (.tup (ins.vs x)) ∧ ∀ n, ins.nm? = some n → NmV H x n := by
  cases ins with
  | load r n =>
    cases h with
    | tup a b =>
      cases b with
      | cons b1 b =>
        cases b with
        | cons b2 b =>
          cases b with
          | cons b3 b =>
            cases b
            cases b1
            cases b2
            exact ⟨_, _, rfl, a, fun n' e => by cases e; exact nmV_of b3⟩
  | store n r =>
    cases h with
    | tup a b =>
      cases b with
      | cons b1 b =>
        cases b with
        | cons b2 b =>
          cases b with
          | cons b3 b =>
            cases b
            cases b1
            cases b3
            exact ⟨_, _, rfl, a, fun n' e => by cases e; exact nmV_of b2⟩
  | loadat r t s =>
    cases h with
    | tup a b =>
      cases b with
      | cons b1 b =>
        cases b with
        | cons b2 b =>
          cases b with
          | cons b3 b =>
            cases b with
            | cons b4 b =>
              cases b
              cases b1
              cases b2
              cases b3
              cases b4
              exact ⟨_, .non, rfl, a, fun n' e => by cases e⟩
  | storeat t s r =>
    cases h with
    | tup a b =>
      cases b with
      | cons b1 b =>
        cases b with
        | cons b2 b =>
          cases b with
          | cons b3 b =>
            cases b with
            | cons b4 b =>
              cases b
              cases b1
              cases b2
              cases b3
              cases b4
              exact ⟨_, .non, rfl, a, fun n' e => by cases e⟩
  | const r w =>
    cases h with
    | tup a b =>
      cases b with
      | cons b1 b =>
        cases b with
        | cons b2 b =>
          cases b with
          | cons b3 b =>
            cases b
            cases b1
            cases b2
            cases b3
            exact ⟨_, .non, rfl, a, fun n' e => by cases e⟩
  | op o r x y =>
    cases h with
    | tup a b =>
      cases b with
      | cons b1 b =>
        cases b with
        | cons b2 b =>
          cases b with
          | cons b3 b =>
            cases b with
            | cons b4 b =>
              cases b with
              | cons b5 b =>
                cases b
                cases b1
                cases b2
                cases b3
                cases b4
                cases b5
                exact ⟨_, .non, rfl, a, fun n' e => by cases e⟩
  | «unless» s j =>
    cases h with
    | tup a b =>
      cases b with
      | cons b1 b =>
        cases b with
        | cons b2 b =>
          cases b with
          | cons b3 b =>
            cases b
            cases b1
            cases b2
            cases b3
            exact ⟨_, .non, rfl, a, fun n' e => by cases e⟩
  | jump j =>
    cases h with
    | tup a b =>
      cases b with
      | cons b1 b =>
        cases b with
        | cons b2 b =>
          cases b
          cases b1
          cases b2
          exact ⟨_, .non, rfl, a, fun n' e => by cases e⟩
  | fin =>
    cases h with
    | tup a b =>
      cases b with
      | cons b1 b =>
        cases b
        cases b1
        exact ⟨_, .non, rfl, a, fun n' e => by cases e⟩
/-- the cell that an instruction of memory names -/
def tgt (m : Mc) : Ins → Option Nm
  | .load _ n => some n
  | .store n _ => some n
  | .loadat _ t s => some (.cell t (m.sl s))
  | .storeat t s _ => some (.cell t (m.sl s))
  | _ => none
def optV : Option Nat → V
  | some i => .int i
  | none => .non
theorem dget {H : Hp} {o : Addr} {kvs : List (Key × V)} {k : Key} {v : V} (e : H o = some (.dK kvs)) (l : valV kvs k = some v) : DGet H o (kV k) (some v) := l ▸ DGet.k e
/-- _law_spot -/
def spSpot (P : Program) (w : World) : Sp := fun vs H Q _ => ∃ d o sl pv pl m b ins n, vs = [.ref d, .ref o, pv] ∧ MixD P w H d (enumN pl) ∧ LM H o sl m b ∧ m.over = false ∧ Tp H pv ins.toD ∧ tgt m ins = some n ∧
  (∀ n, ins.nm? = some n → (idx pl n).isSome = true) ∧ ∀ H', Kp [] H H' → Q (optV (idx pl n)) H'
section
variable {P : Program} {w : World} {base : Heap} {mg : Str → Option Value} {K : PySem.W.Frag}
theorem ok_spot {f : Addr} {fd : FuncData} (D : Def K mg "_law_spot" sLSpot ["_law_places_here", "_law_own", "_law_part_here"] f fd) :
    Has P w K mg base "_law_spot" 1 ["_law_places_here", "_law_own", "_law_part_here"] (spSpot P w) := by
  refine D.has (D.fn.ok scLSpot (fun vs H Q E h => ?_) (fun cdv A outer s H vs Q E hr h => ?_))
  · obtain ⟨_, _, _, _, _, _, _, _, _, rfl, _⟩ := h
    rfl
  · obtain ⟨d, o, sl, pv_, pl, m, b0, ins, n, rfl, md, lm, ho, tp, ht, hin, k⟩ := h
    have hu := hu_of hr
    have nd := scLSpot.nd
    refine ⟨_, pss_cons (ps_if (pt_cmpR op_in_seq (pe_ix ix_tup (pv 2) pe_int (fun _ _ => rfl)) (pe_tup (pa_cons pe_str (pa_cons pe_str pa_nil))) rfl)
        (pss_one (ps_ret (pe_mix hu (pv 0) (pe_ifExp (pt_cmpR op_eq (pe_ix ix_tup (pv 2) pe_int (fun _ _ => rfl)) pe_str (nomark _)) (pe_ix ix_tup (pv 2) pe_int (fun _ _ => rfl)) (pe_ix ix_tup (pv 2) pe_int (fun _ _ => rfl))) (fun _ _ => rfl)))) pss_nil)
      (pss_cons (ps_asg (pe_slice sl_tup (pv 2) (po_some pe_int) (po_some pe_int)) (pg_tup rfl (pgs_cons (pg_name (i := 3) nd rfl (.inl rfl)) (pgs_cons (pg_name (i := 4) nd rfl (.inl rfl)) pgs_nil))))
      (pss_cons (ps_if (pt_cmpR op_eq (pe_ix ix_tup (pv 2) pe_int (fun _ _ => rfl)) pe_str (nomark _))
        (pss_one (ps_asg (pe_slice sl_tup (pv 2) (po_some pe_int) (po_some pe_int)) (pg_tup rfl (pgs_cons (pg_name (i := 3) nd rfl (.inl rfl)) (pgs_cons (pg_name (i := 4) nd rfl (.inl rfl)) pgs_nil))))) pss_nil)
      (pss_one (ps_ret (pe_mget hu (pv 0) (pe_tup (pa_cons (pv 3) (pa_cons (pe_dget2 hu (pe_dget hu (pv 1) pe_str (fun _ _ => rfl)) (pv 4) pe_int ⟨rfl, rfl, rfl, rfl⟩) pa_nil))) ⟨rfl, rfl, rfl, rfl⟩))))), ?_⟩
    obtain ⟨a, x, rfl, ha, hx⟩ := ins_of tp
    refine ⟨_, rfl, a, _, 0, .str ins.word, rfl, rfl, .of ha, ?_, ?_⟩
    · cases ins <;> rfl
    refine ⟨(by show 2 ≤ sizeLine; decide), fun t nt => ⟨t, _, rfl, .inr (.of upd_same), rfl, rfl, _, rfl, ?_⟩⟩
    have kt : Kp [] H (upd H t (.tup [.str "load", .str "store"])) := (Kp.refl [] H).new nt
    have ha' : upd H t (.tup [.str "load", .str "store"]) a = some (.tup (ins.vs x)) := kt.tk _ _ ha
    have md' : MixD P w (upd H t (.tup [.str "load", .str "store"])) d (enumN pl) := md.kp kt (by simp)
    cases ins with
    | load r n' =>
      obtain rfl : n' = n := by cases ht; rfl
      refine iteT ?_
      obtain ⟨j, hj⟩ := Option.isSome_iff_exists.mp (hin _ rfl)
      rw [hj] at k
      refine ⟨_, rfl, ⟨_, rfl, a, _, 0, .str "load", rfl, rfl, .of ha', rfl, rfl, _, rfl, iteT ?_⟩⟩
      refine ⟨_, rfl, a, _, 2, x, rfl, rfl, .of ha', rfl, d, _, n', (j : Int), rfl, md', (hx _ rfl).keep kt.tk, by rw [valN_enum, hj]; rfl, ?_⟩
      exact k _ kt
    | store n' r =>
      obtain rfl : n' = n := by cases ht; rfl
      refine iteT ?_
      obtain ⟨j, hj⟩ := Option.isSome_iff_exists.mp (hin _ rfl)
      rw [hj] at k
      refine ⟨_, rfl, ⟨_, rfl, a, _, 0, .str "store", rfl, rfl, .of ha', rfl, rfl, _, rfl, iteF ?_⟩⟩
      refine ⟨_, rfl, a, _, 1, x, rfl, rfl, .of ha', rfl, d, _, n', (j : Int), rfl, md', (hx _ rfl).keep kt.tk, by rw [valN_enum, hj]; rfl, ?_⟩
      exact k _ kt
    | loadat r tn s' =>
      refine iteF ?_
      refine ⟨_, rfl, _, rfl, _, rfl, a, _, rfl, .of ha', ?_, fun q nq => ?_⟩
      · show ¬ (HT.sIx 4 0 (some 1) = 0 ∧ HT.sIx 4 4 (some 3) = 4)
        decide
      have kq : Kp [] H _ := kt.new (p := q) (o := .tup [.int r, .str tn]) nq
      have ha2 := kq.tk _ _ ha
      refine ⟨q, _, rfl, .of upd_same, rfl, _, _, rfl, _, _, rfl, rfl, ?_⟩
      refine ⟨_, rfl, a, _, 0, .str "loadat", rfl, rfl, .of ha2, rfl, rfl, _, rfl, iteT ?_⟩
      refine ⟨_, rfl, _, rfl, _, rfl, a, _, rfl, .of ha2, ?_, fun q2 nq2 => ?_⟩
      · show ¬ (HT.sIx 4 0 (some 2) = 0 ∧ HT.sIx 4 4 (some 4) = 4)
        decide
      have kq2 : Kp [] H _ := kq.new (p := q2) (o := .tup [.str tn, .int s']) nq2
      refine ⟨q2, _, rfl, .of upd_same, rfl, _, _, rfl, _, _, rfl, rfl, ?_⟩
      obtain ⟨⟨fl, e1⟩, ⟨kvs, e2, e3⟩, _⟩ := lm.kp kq2 (by simp) (by simp)
      have e4 := (e3 ho).1 s'
      refine ⟨_, rfl, d, _, rfl, md.kp kq2 (by simp), ?_⟩
      refine ⟨_, rfl, ⟨_, rfl, o, _, rfl, dget (k := kSlots) e1 own_slots, sl, rfl, .inl ⟨kvs, .inl e2⟩, _, rfl, _, DGet.k (k := Sum.inl (s' : Int)) e2, (by show 2 ≤ sizeLine; decide), fun z nz => ?_⟩⟩
      rw [e4]
      have kz : Kp [] H _ := kq2.new (p := z) (o := .tup [.str tn, .int (m.sl s')]) nz
      obtain rfl : Nm.cell tn (m.sl s') = n := by cases ht; rfl
      refine ⟨.cell tn (m.sl s'), md.kp kz (by simp), ⟨z, rfl, upd_same⟩, ?_⟩
      rw [valN_enum]
      have kk := k _ kz
      cases hj : idx pl (.cell tn (m.sl s')) with
      | some j => rw [hj] at kk; exact kk
      | none => rw [hj] at kk; exact kk
    | storeat tn s' r =>
      refine iteF ?_
      refine ⟨_, rfl, _, rfl, _, rfl, a, _, rfl, .of ha', ?_, fun q nq => ?_⟩
      · show ¬ (HT.sIx 4 0 (some 1) = 0 ∧ HT.sIx 4 4 (some 3) = 4)
        decide
      have kq : Kp [] H _ := kt.new (p := q) (o := .tup [.str tn, .int s']) nq
      have ha2 := kq.tk _ _ ha
      refine ⟨q, _, rfl, .of upd_same, rfl, _, _, rfl, _, _, rfl, rfl, ?_⟩
      refine ⟨_, rfl, a, _, 0, .str "storeat", rfl, rfl, .of ha2, rfl, rfl, _, rfl, iteF ?_⟩
      obtain ⟨⟨fl, e1⟩, ⟨kvs, e2, e3⟩, _⟩ := lm.kp kq (by simp) (by simp)
      have e4 := (e3 ho).1 s'
      refine ⟨_, rfl, d, _, rfl, md.kp kq (by simp), ?_⟩
      refine ⟨_, rfl, ⟨_, rfl, o, _, rfl, dget (k := kSlots) e1 own_slots, sl, rfl, .inl ⟨kvs, .inl e2⟩, _, rfl, _, DGet.k (k := Sum.inl (s' : Int)) e2, (by show 2 ≤ sizeLine; decide), fun z nz => ?_⟩⟩
      rw [e4]
      have kz : Kp [] H _ := kq.new (p := z) (o := .tup [.str tn, .int (m.sl s')]) nz
      obtain rfl : Nm.cell tn (m.sl s') = n := by cases ht; rfl
      refine ⟨.cell tn (m.sl s'), md.kp kz (by simp), ⟨z, rfl, upd_same⟩, ?_⟩
      rw [valN_enum]
      have kk := k _ kz
      cases hj : idx pl (.cell tn (m.sl s')) with
      | some j => rw [hj] at kk; exact kk
      | none => rw [hj] at kk; exact kk
    | _ => cases ht
end
end Ork
end
section
set_option Elab.async false
set_option linter.all false
set_option maxRecDepth 100000
set_option pp.maxSteps 3000
namespace Ork
open PySem L2 PySem.Spec PyProof.Rows

theorem getM {c : List Int} {i : Nat} (h : i < c.length) : (c.map V.int)[i]? = some (.int (c.getD i 0)) := by
  rw [List.getElem?_map, List.getD_eq_getElem?_getD, List.getElem?_eq_getElem h]
  rfl
theorem sl_put {kvs : List (Key × V)} {f : Nat → Int} {r : Nat} {v : Int} (h : ∀ q : Nat, ((valV kvs (Sum.inl (q : Int))).getD (.int 0)) = .int (f q)) :
    ∀ q : Nat, ((valV (putK kvs (Sum.inl (r : Int)) (.int v)) (Sum.inl (q : Int))).getD (.int 0)) = .int (setS f r v q) := by
  intro q
  rw [valV_put]
  unfold setS
  by_cases e : q = r
  · subst e
    rw [if_pos rfl, if_pos rfl]
    rfl
  · rw [if_neg e, if_neg (fun z => e (by cases z; rfl))]
    exact h q
theorem insM_none {pl : List Nm} {ins : Ins} {m : Mc} {c : List Int} {n : Nm} (ht : tgt m ins = some n) (hj : idx pl n = none) : insM pl ins m c = ({ m with over := true }, c, false) := by
  cases ins <;> cases ht <;> simp only [insM, ldM, stoM, hj]
/-- what a load, a store leaves -/
theorem insM_load {pl : List Nm} {m : Mc} {c : List Int} {r j : Nat} {n : Nm} (hj : idx pl n = some j) : ldM pl n r m c = ({ m with sl := setS m.sl r (c.getD j 0) }, c, true) := by
  unfold ldM
  rw [hj]
theorem insM_store {pl : List Nm} {m : Mc} {c : List Int} {r j : Nat} {n : Nm} (hj : idx pl n = some j) : stoM pl n r m c = (m, c.set j (m.sl r), true) := by
  unfold stoM
  rw [hj]
/-- _law_touch -/
def spTouch (P : Program) (w : World) : Sp := fun vs H Q _ => ∃ d o sl pv vl pl m b c ins n, vs = [.ref d, .ref o, pv, .ref vl] ∧ MixD P w H d (enumN pl) ∧ LM H o sl m b ∧ b ≤ 900 ∧ m.over = false ∧ Tp H pv ins.toD ∧ tgt m ins = some n ∧
  (∀ n, ins.nm? = some n → (idx pl n).isSome = true) ∧ H vl = some (.lst (c.map V.int)) ∧ c.length = pl.length ∧
  ∀ H' v, Kp [o, sl, vl] H H' → LM H' o sl (insM pl ins m c).1 (b + 1) → H' vl = some (.lst ((insM pl ins m c).2.1.map V.int)) → ((insM pl ins m c).2.2 = true → ∃ t, v = .ref t) → ((insM pl ins m c).2.2 = false → v = .non) → Q v H'
section
variable {P : Program} {w : World} {base : Heap} {mg : Str → Option Value} {K : PySem.W.Frag}
theorem ok_touch {f : Addr} {fd : FuncData} (D : Def K mg "_law_touch" sLTouch ["_law_places_here", "_law_own", "_law_part_here", "_law_values"] f fd)
    (hS : Has P w K mg base "_law_spot" 1 ["_law_places_here", "_law_own", "_law_part_here"] (spSpot P w)) :
    Has P w K mg base "_law_touch" 2 ["_law_places_here", "_law_own", "_law_part_here", "_law_values"] (spTouch P w) := by
  refine D.has (D.fn.ok scLTouch (fun vs H Q E h => ?_) (fun cdv A outer s H vs Q E hr h => ?_))
  · obtain ⟨_, _, _, _, _, _, _, _, _, _, _, rfl, _⟩ := h
    rfl
  · obtain ⟨d, o, sl, pv_, vl, pl, m, b, c, ins, n, rfl, md, lm, hb, ho, tp, ht, hin, hv, hc, k⟩ := h
    have hu := hu_of hr
    have nd := scLTouch.nd
    refine ⟨_, pss_cons (ps_par (i := 4) (j := 5) (by rfl) nd rfl rfl (by decide) rfl rfl (pa_cons (pe_has hS hr rfl (pa_cons (pv 0) (pa_cons (pv 1) (pa_cons (pv 2) pa_nil)))) (pa_cons (pe_dget hu (pv 1) pe_str (fun _ _ => rfl)) pa_nil)) (by rfl))
      (pss_cons (ps_if (pt_cmpR op_isN (pv 4) pe_non (nomark _))
        (pss_cons (ps_asg (pe_tup (pa_cons pe_bl (pa_cons pe_bl pa_nil))) (pg_tup rfl (pgs_cons (pg_sub (pv 1) pe_str (set_dict hu)) (pgs_cons (pg_sub (pv 1) pe_str (set_dict hu)) pgs_nil))))
          (pss_one (ps_ret pe_non))) pss_nil)
      (pss_cons (ps_if (pt_cmpR op_in_seq (pe_ix ix_tup (pv 2) pe_int (fun _ _ => rfl)) (pe_tup (pa_cons pe_str (pa_cons pe_str pa_nil))) rfl)
        (pss_cons (ps_dput hu (pv 5) (pe_ix ix_tup (pv 2) pe_int (fun _ _ => rfl)) (pe_ix ix_list (pv 3) (pv 4) (fun _ _ => rfl)) rfl)
          (pss_one (ps_ret (pe_tup (pa_cons pe_str (pa_cons (pv 4) (pa_cons (pe_ix ix_list (pv 3) (pv 4) (fun _ _ => rfl)) pa_nil))))))) pss_nil)
      (pss_cons (ps_asg (pe_dget2 hu (pv 5) (pe_ix ix_tup (pv 2) (pe_un un_neg pe_int) (fun _ _ => rfl)) pe_int ⟨rfl, rfl, rfl, rfl⟩) (pg_sub (pv 3) (pv 4) set_list))
      (pss_one (ps_ret (pe_tup (pa_cons pe_str (pa_cons (pv 4) (pa_cons (pe_ix ix_list (pv 3) (pv 4) (fun _ _ => rfl)) pa_nil))))))))), ?_⟩
    refine ⟨_, rfl, _, rfl, _, rfl, d, o, sl, _, pl, m, b, ins, n, rfl, md, lm, ho, tp, ht, hin, fun H1 k1 => ?_⟩
    obtain ⟨⟨fl, e1⟩, ⟨kvs, e2, e3⟩, ne⟩ := lm.kp k1 (by simp) (by simp)
    have hv1 := k1.lst hv (by simp)
    refine ⟨_, rfl, o, _, rfl, dget (k := kSlots) e1 own_slots, _, _, rfl, _, rfl, rfl, ?_⟩
    obtain ⟨a, x, rfl, ha0, hx⟩ := ins_of tp
    have ha := k1.tk _ _ ha0
    cases hj : idx pl n with
    | none =>
      refine ⟨_, rfl, iteT ⟨(by show 2 ≤ sizeLine; decide), fun t nt => ?_⟩⟩
      have kt := k1.new (o := .tup [.bl true, .bl true]) nt
      have e1t := (upd_ne (ne_of_none e1 nt) : (upd H1 t (.tup [.bl true, .bl true]) : Hp) o = _).trans e1
      have e2t := (upd_ne (ne_of_none e2 nt) : (upd H1 t (.tup [.bl true, .bl true]) : Hp) sl = _).trans e2
      have hvt := (upd_ne (ne_of_none hv1 nt) : (upd H1 t (.tup [.bl true, .bl true]) : Hp) vl = _).trans hv1
      refine ⟨t, _, rfl, .of upd_same, rfl, _, _, rfl, ⟨_, rfl, o, _, rfl, DPut.k (k := kOver) e1t (by show 4 < sizeLine; decide), ?_⟩⟩
      rw [put_over]
      refine ⟨_, _, rfl, ⟨_, rfl, o, _, rfl, DPut.k (k := kFault) upd_same (by show 4 < sizeLine; decide), rfl, ?_⟩⟩
      rw [put_fault, upd_upd]
      have kw := (kt.mono (S' := [o, sl, vl]) (by simp)).put (o := .dK (ownK m.pc sl true true)) (p := o) (by simp) e1t (fun _ z => by cases z)
      rw [insM_none ht hj] at k
      exact k _ _ kw ⟨⟨true, upd_same⟩, ⟨kvs, (upd_ne ne.symm).trans e2t, fun z => by cases z⟩, ne⟩ ((upd_ne (ne_of hvt e1t (fun z => by cases z))).trans hvt) (fun z => by cases z) (fun _ => rfl)
    | some j =>
      refine ⟨_, rfl, iteF ?_⟩
      have hi0 := hj
      cases ins with
      | load r n' =>
        obtain rfl : n' = n := by cases ht; rfl
        refine ⟨_, rfl, a, _, 0, .str "load", rfl, rfl, .of ha, rfl, (by show 2 ≤ sizeLine; decide), fun t nt => ⟨t, _, rfl, .inr (.of upd_same), rfl, rfl, _, rfl, ?_⟩⟩
        have kt := k1.new (o := .tup [.str "load", .str "loadat"]) nt
        have e1t := (upd_ne (ne_of_none e1 nt) : (upd H1 t (.tup [.str "load", .str "loadat"]) : Hp) o = _).trans e1
        have e2t := (upd_ne (ne_of_none e2 nt) : (upd H1 t (.tup [.str "load", .str "loadat"]) : Hp) sl = _).trans e2
        refine iteT ?_
        have hvt := kt.lst hv (by simp)
        have hi := getM (c := c) (i := j) (by rw [hc]; exact idx_lt hj)
        refine ⟨_, rfl, ⟨_, rfl, vl, _, _, _, rfl, rfl, .of hvt, atI_nat hi, ?_⟩⟩
        refine ⟨_, rfl, _, rfl, a, _, 1, _, rfl, rfl, .of (kt.tk _ _ ha0), rfl, sl, _, rfl, DPut.k (k := Sum.inl (r : Int)) e2t (small1000 (Nat.le_trans (e3 ho).2 (by omega))), ?_⟩
        have kw := (kt.mono (S' := [o, sl, vl]) (by simp)).put (o := .dK (putK kvs (Sum.inl (r : Int)) (.int (c.getD j 0)))) (p := sl) (by simp) e2t (fun _ z => by cases z)
        have hvw : (upd _ sl (.dK (putK kvs (Sum.inl (r : Int)) (.int (c.getD j 0)))) : Hp) vl = _ := (upd_ne (ne_of hvt e2t (fun z => by cases z))).trans hvt
        refine ⟨_, rfl, _, rfl, _, rfl, vl, _, _, _, rfl, rfl, .of hvw, atI_nat hi, (by show 3 ≤ sizeLine; decide), fun t2 nt2 => ?_⟩
        have kz := kw.new (o := .tup [.str "load", .int j, .int (c.getD j 0)]) nt2
        have nsl : sl ≠ t2 := ne_of_none upd_same nt2
        have nvl : vl ≠ t2 := ne_of_none hvw nt2
        have eo := (upd_ne (ne) : (upd _ sl (.dK (putK kvs (Sum.inl (r : Int)) (.int (c.getD j 0)))) : Hp) o = _).trans e1t
        have no : o ≠ t2 := ne_of_none eo nt2
        have R : insM pl (.load r n') m c = ({ m with sl := setS m.sl r (c.getD j 0) }, c, true) := insM_load hj
        rw [R] at k
        refine k _ _ kz ⟨⟨fl, (upd_ne no).trans eo⟩, ⟨_, (upd_ne nsl).trans upd_same, fun _ => ⟨sl_put (e3 ho).1, Nat.le_trans (length_putK _ _ _) (Nat.succ_le_succ (e3 ho).2)⟩⟩, ne⟩ ((upd_ne nvl).trans hvw) (fun _ => ⟨t2, rfl⟩) (fun z => by cases z)
      | loadat r tn s' =>
        obtain rfl : Nm.cell tn (m.sl s') = n := by cases ht; rfl
        refine ⟨_, rfl, a, _, 0, .str "loadat", rfl, rfl, .of ha, rfl, (by show 2 ≤ sizeLine; decide), fun t nt => ⟨t, _, rfl, .inr (.of upd_same), rfl, rfl, _, rfl, ?_⟩⟩
        have kt := k1.new (o := .tup [.str "load", .str "loadat"]) nt
        have e1t := (upd_ne (ne_of_none e1 nt) : (upd H1 t (.tup [.str "load", .str "loadat"]) : Hp) o = _).trans e1
        have e2t := (upd_ne (ne_of_none e2 nt) : (upd H1 t (.tup [.str "load", .str "loadat"]) : Hp) sl = _).trans e2
        refine iteT ?_
        have hvt := kt.lst hv (by simp)
        have hi := getM (c := c) (i := j) (by rw [hc]; exact idx_lt hj)
        refine ⟨_, rfl, ⟨_, rfl, vl, _, _, _, rfl, rfl, .of hvt, atI_nat hi, ?_⟩⟩
        refine ⟨_, rfl, _, rfl, a, _, 1, _, rfl, rfl, .of (kt.tk _ _ ha0), rfl, sl, _, rfl, DPut.k (k := Sum.inl (r : Int)) e2t (small1000 (Nat.le_trans (e3 ho).2 (by omega))), ?_⟩
        have kw := (kt.mono (S' := [o, sl, vl]) (by simp)).put (o := .dK (putK kvs (Sum.inl (r : Int)) (.int (c.getD j 0)))) (p := sl) (by simp) e2t (fun _ z => by cases z)
        have hvw : (upd _ sl (.dK (putK kvs (Sum.inl (r : Int)) (.int (c.getD j 0)))) : Hp) vl = _ := (upd_ne (ne_of hvt e2t (fun z => by cases z))).trans hvt
        refine ⟨_, rfl, _, rfl, _, rfl, vl, _, _, _, rfl, rfl, .of hvw, atI_nat hi, (by show 3 ≤ sizeLine; decide), fun t2 nt2 => ?_⟩
        have kz := kw.new (o := .tup [.str "load", .int j, .int (c.getD j 0)]) nt2
        have nsl : sl ≠ t2 := ne_of_none upd_same nt2
        have nvl : vl ≠ t2 := ne_of_none hvw nt2
        have eo := (upd_ne (ne) : (upd _ sl (.dK (putK kvs (Sum.inl (r : Int)) (.int (c.getD j 0)))) : Hp) o = _).trans e1t
        have no : o ≠ t2 := ne_of_none eo nt2
        have R : insM pl (.loadat r tn s') m c = ({ m with sl := setS m.sl r (c.getD j 0) }, c, true) := insM_load hj
        rw [R] at k
        refine k _ _ kz ⟨⟨fl, (upd_ne no).trans eo⟩, ⟨_, (upd_ne nsl).trans upd_same, fun _ => ⟨sl_put (e3 ho).1, Nat.le_trans (length_putK _ _ _) (Nat.succ_le_succ (e3 ho).2)⟩⟩, ne⟩ ((upd_ne nvl).trans hvw) (fun _ => ⟨t2, rfl⟩) (fun z => by cases z)
      | store n' r =>
        obtain rfl : n' = n := by cases ht; rfl
        refine ⟨_, rfl, a, _, 0, .str "store", rfl, rfl, .of ha, rfl, (by show 2 ≤ sizeLine; decide), fun t nt => ⟨t, _, rfl, .inr (.of upd_same), rfl, rfl, _, rfl, ?_⟩⟩
        have kt := k1.new (o := .tup [.str "load", .str "loadat"]) nt
        have e1t := (upd_ne (ne_of_none e1 nt) : (upd H1 t (.tup [.str "load", .str "loadat"]) : Hp) o = _).trans e1
        have e2t := (upd_ne (ne_of_none e2 nt) : (upd H1 t (.tup [.str "load", .str "loadat"]) : Hp) sl = _).trans e2
        refine iteF ?_
        have hvt := kt.lst hv (by simp)
        have hjl : j < c.length := by rw [hc]; exact idx_lt hj
        refine ⟨_, rfl, sl, rfl, .inl ⟨kvs, .inl e2t⟩, ⟨_, rfl, _, rfl, a, _, (-1), .int r, rfl, rfl, .of (kt.tk _ _ ha0), rfl, _, DGet.k (k := Sum.inl (r : Int)) e2t, ?_⟩⟩
        rw [(e3 ho).1 r]
        refine ⟨_, rfl, _, rfl, vl, _, _, j, rfl, rfl, hvt, ?_, ?_⟩
        · have e : (c.map V.int).length = c.length := List.length_map ..
          unfold ixN
          rw [if_pos (by omega)]; rw [if_pos (by omega)]
          simp
        have kw := (kt.mono (S' := [o, sl, vl]) (by simp)).put (o := .lst ((c.map V.int).set j (.int (m.sl r)))) (p := vl) (by simp) hvt (fun _ z => by cases z)
        have hs : (c.map V.int).set j (.int (m.sl r)) = (c.set j (m.sl r)).map V.int := by rw [List.map_set]
        have hvw : (upd (upd H1 t (.tup [.str "load", .str "loadat"])) vl (.lst ((c.map V.int).set j (.int (m.sl r)))) : Hp) vl = some (.lst ((c.set j (m.sl r)).map V.int)) := by rw [upd_same, hs]
        refine ⟨_, rfl, _, rfl, _, rfl, vl, _, _, _, rfl, rfl, .of hvw, atI_nat (getM (by rw [List.length_set]; exact hjl)), (by show 3 ≤ sizeLine; decide), fun t2 nt2 => ?_⟩
        have kz := kw.new (o := .tup [.str "store", .int j, .int ((c.set j (m.sl r)).getD j 0)]) nt2
        have esl := (upd_ne (ne_of e2t hvt (fun z => by cases z)) : (upd (upd H1 t (.tup [.str "load", .str "loadat"])) vl (.lst ((c.map V.int).set j (.int (m.sl r)))) : Hp) sl = _).trans e2t
        have eo := (upd_ne (ne_of e1t hvt (fun z => by cases z)) : (upd (upd H1 t (.tup [.str "load", .str "loadat"])) vl (.lst ((c.map V.int).set j (.int (m.sl r)))) : Hp) o = _).trans e1t
        have nsl : sl ≠ t2 := ne_of_none esl nt2
        have nvl : vl ≠ t2 := ne_of_none hvw nt2
        have no : o ≠ t2 := ne_of_none eo nt2
        have R : insM pl (.store n' r) m c = (m, c.set j (m.sl r), true) := insM_store hj
        rw [R] at k
        refine k _ _ kz ⟨⟨fl, (upd_ne no).trans eo⟩, ⟨_, (upd_ne nsl).trans esl, fun _ => ⟨(e3 ho).1, Nat.le_trans (e3 ho).2 (Nat.le_succ _)⟩⟩, ne⟩ ((upd_ne nvl).trans hvw) (fun _ => ⟨t2, rfl⟩) (fun z => by cases z)
      | storeat tn s' r =>
        obtain rfl : Nm.cell tn (m.sl s') = n := by cases ht; rfl
        refine ⟨_, rfl, a, _, 0, .str "storeat", rfl, rfl, .of ha, rfl, (by show 2 ≤ sizeLine; decide), fun t nt => ⟨t, _, rfl, .inr (.of upd_same), rfl, rfl, _, rfl, ?_⟩⟩
        have kt := k1.new (o := .tup [.str "load", .str "loadat"]) nt
        have e1t := (upd_ne (ne_of_none e1 nt) : (upd H1 t (.tup [.str "load", .str "loadat"]) : Hp) o = _).trans e1
        have e2t := (upd_ne (ne_of_none e2 nt) : (upd H1 t (.tup [.str "load", .str "loadat"]) : Hp) sl = _).trans e2
        refine iteF ?_
        have hvt := kt.lst hv (by simp)
        have hjl : j < c.length := by rw [hc]; exact idx_lt hj
        refine ⟨_, rfl, sl, rfl, .inl ⟨kvs, .inl e2t⟩, ⟨_, rfl, _, rfl, a, _, (-1), .int r, rfl, rfl, .of (kt.tk _ _ ha0), rfl, _, DGet.k (k := Sum.inl (r : Int)) e2t, ?_⟩⟩
        rw [(e3 ho).1 r]
        refine ⟨_, rfl, _, rfl, vl, _, _, j, rfl, rfl, hvt, ?_, ?_⟩
        · have e : (c.map V.int).length = c.length := List.length_map ..
          unfold ixN
          rw [if_pos (by omega)]; rw [if_pos (by omega)]
          simp
        have kw := (kt.mono (S' := [o, sl, vl]) (by simp)).put (o := .lst ((c.map V.int).set j (.int (m.sl r)))) (p := vl) (by simp) hvt (fun _ z => by cases z)
        have hs : (c.map V.int).set j (.int (m.sl r)) = (c.set j (m.sl r)).map V.int := by rw [List.map_set]
        have hvw : (upd (upd H1 t (.tup [.str "load", .str "loadat"])) vl (.lst ((c.map V.int).set j (.int (m.sl r)))) : Hp) vl = some (.lst ((c.set j (m.sl r)).map V.int)) := by rw [upd_same, hs]
        refine ⟨_, rfl, _, rfl, _, rfl, vl, _, _, _, rfl, rfl, .of hvw, atI_nat (getM (by rw [List.length_set]; exact hjl)), (by show 3 ≤ sizeLine; decide), fun t2 nt2 => ?_⟩
        have kz := kw.new (o := .tup [.str "store", .int j, .int ((c.set j (m.sl r)).getD j 0)]) nt2
        have esl := (upd_ne (ne_of e2t hvt (fun z => by cases z)) : (upd (upd H1 t (.tup [.str "load", .str "loadat"])) vl (.lst ((c.map V.int).set j (.int (m.sl r)))) : Hp) sl = _).trans e2t
        have eo := (upd_ne (ne_of e1t hvt (fun z => by cases z)) : (upd (upd H1 t (.tup [.str "load", .str "loadat"])) vl (.lst ((c.map V.int).set j (.int (m.sl r)))) : Hp) o = _).trans e1t
        have nsl : sl ≠ t2 := ne_of_none esl nt2
        have nvl : vl ≠ t2 := ne_of_none hvw nt2
        have no : o ≠ t2 := ne_of_none eo nt2
        have R : insM pl (.storeat tn s' r) m c = (m, c.set j (m.sl r), true) := insM_store hj
        rw [R] at k
        refine k _ _ kz ⟨⟨fl, (upd_ne no).trans eo⟩, ⟨_, (upd_ne nsl).trans esl, fun _ => ⟨(e3 ho).1, Nat.le_trans (e3 ho).2 (Nat.le_succ _)⟩⟩, ne⟩ ((upd_ne nvl).trans hvw) (fun _ => ⟨t2, rfl⟩) (fun z => by cases z)
      | _ => cases ht
end
end Ork
end
section
set_option Elab.async false
set_option linter.all false
set_option maxRecDepth 100000
set_option pp.maxSteps 3000
namespace Ork
open PySem L2 PySem.Spec PyProof.Rows

theorem m3 {k1 k2 k3 : Key} {a b c : V} (j : Key) : valV (mergeK [] [(k1, a), (k2, b), (k3, c)]) j = if j = k3 then some c else if j = k2 then some b else if j = k1 then some a else none := by
  unfold mergeK
  simp only [List.foldl_cons, List.foldl_nil, valV_put, valV_nil]
def optI : Option Int → V
  | some i => .int i
  | none => .non
def spRes : Sp := fun vs H Q _ => ∃ (o : Op) (i j : Int), vs = [.str o.str, .int i, .int j] ∧ i.natAbs < 2 ^ 4096 ∧ j.natAbs < 2 ^ 4096 ∧ ∀ H', Kp [] H H' → Q (optI (o.val i j)) H'
section
variable {P : Program} {w : World} {base : Heap} {mg : Str → Option Value} {K : PySem.W.Frag}
theorem ok_lres {f : Addr} {fd : FuncData} (B : Bn mg) (D : Def K mg "_law_result_of" sLRes ["_law_op", "_law_one", "_law_other"] f fd) :
    Has P w K mg base "_law_result_of" 1 ["_law_op", "_law_one", "_law_other"] spRes := by
  refine D.has (D.fn.ok scLRes (fun vs H Q E h => ?_) (fun cdv A outer s H vs Q E hr h => ?_))
  · obtain ⟨_, _, _, rfl, _⟩ := h
    rfl
  · obtain ⟨o, i, j, rfl, hi, hj, k⟩ := h
    have hu := hu_of hr
    have nd := scLRes.nd
    refine ⟨_, pss_cons (ps_if (pt_cmpR op_in_seq (pv 0) (pe_tup (pa_cons pe_str (pa_cons pe_str pa_nil))) rfl)
        (pss_cons (ps_if (pt_cmpR op_lt (pv 2) pe_int (nomark _)) (pss_one (ps_ret pe_non)) pss_nil)
          (pss_one (ps_ret (pe_ifExp (pt_cmpR op_eq (pv 0) pe_str (nomark _)) (pe_op op_fdivW (pv 1) (pv 2)) (pe_op op_modN (pe_callTy call_int1 (by rfl) B.int (by decide +kernel) (pa_cons (pv 1) pa_nil)) (pv 2)))))) pss_nil)
      (pss_cons (ps_set (i := 3) nd rfl (.inl rfl) (pe_disp (pps_cons pe_str (pe_cmpR op_eq (pv 1) (pv 2) (nomark _)) (pps_cons pe_str (pe_cmpR op_lt (pv 1) (pv 2) (nomark _)) (pps_cons pe_str (pe_cmpR op_le (pv 1) (pv 2) (nomark _)) pps_nil))) (by rfl) (by rfl) (fun z => by cases z) (by decide)))
      (pss_cons (ps_if (pt_cmp (pc_din hu (pv 0) (pv 3))) (pss_one (ps_ret (pe_callTy call_int1 (by rfl) B.int (by decide +kernel) (pa_cons (pe_dget hu (pv 3) (pv 0) (fun _ _ => rfl)) pa_nil)))) pss_nil)
      (pss_cons (ps_set (i := 4) nd rfl (.inl rfl) (pe_disp (pps_cons pe_str (pe_op op_add (pv 1) (pv 2)) (pps_cons pe_str (pe_op op_sub (pv 1) (pv 2)) (pps_cons pe_str (pe_op op_mulW (pv 1) (pv 2)) pps_nil))) (by rfl) (by rfl) (fun z => by cases z) (by decide)))
      (pss_cons (ps_asg (pe_tup (pa_cons (pe_callB (call_min2 rfl) (by rfl) B.min (by decide +kernel) (pa_cons (pv 1) (pa_cons (pv 2) pa_nil))) (pa_cons (pe_callB (call_max2 rfl) (by rfl) B.max (by decide +kernel) (pa_cons (pv 1) (pa_cons (pv 2) pa_nil))) pa_nil)))
        (pg_tup rfl (pgs_cons (pg_sub (pv 4) pe_str (set_dict hu)) (pgs_cons (pg_sub (pv 4) pe_str (set_dict hu)) pgs_nil))))
      (pss_one (ps_ret (pe_dget hu (pv 4) (pv 0) (fun _ _ => rfl)))))))), ?_⟩
    by_cases hdm : o = .div ∨ o = .mod
    · have hin : inV (.str o.str) [.str "div", .str "mod"] = true := by
        rcases hdm with e | e <;> subst e <;> decide +kernel
      refine ⟨_, rfl, (by show 2 ≤ sizeLine; decide), fun t nt => ⟨t, _, rfl, .inr (.of upd_same), rfl, rfl, true, congrArg V.bl hin, iteT ?_⟩⟩
      have kt : Kp [] H _ := (Kp.refl [] H).new (o := .tup [.str "div", .str "mod"]) nt
      have kk := k _ kt
      refine ⟨_, rfl, _, _, rfl, rfl, _, rfl, ite2 (fun q => ?_) (fun q => ?_)⟩
      · have q := of_decide_eq_true q
        rcases hdm with e | e <;> subst e
        · have e : Op.val .div i j = none := if_pos q
          rw [e] at kk
          exact kk
        · have e : Op.val .mod i j = none := if_pos q
          rw [e] at kk
          exact kk
      · have q : ¬ j < 1 := fun z => q (decide_eq_true z)
        rcases hdm with e | e <;> subst e
        · have e : Op.val .div i j = some (i / j) := if_neg q
          rw [e] at kk
          exact ⟨_, rfl, rfl, _, rfl, iteT ⟨_, rfl, _, rfl, _, _, rfl, rfl, wide_div (by omega) hj (by decide) (by decide), kk⟩⟩
        · have e : Op.val .mod i j = some (i.fmod j) := if_neg q
          rw [e] at kk
          exact ⟨_, rfl, rfl, _, rfl, iteF ⟨_, rfl, .inl ⟨_, rfl, _, rfl, _, _, rfl, rfl, by omega, kk⟩⟩⟩
    · have hin : inV (.str o.str) [.str "div", .str "mod"] = false := by
        cases o <;> first | exact absurd (.inl rfl) hdm | exact absurd (.inr rfl) hdm | decide +kernel
      refine ⟨_, rfl, (by show 2 ≤ sizeLine; decide), fun t nt => ⟨t, _, rfl, .inr (.of upd_same), rfl, rfl, false, congrArg V.bl hin, iteF ?_⟩⟩
      have kt : Kp [] H _ := (Kp.refl [] H).new (o := .tup [.str "div", .str "mod"]) nt
      intro p np
      have kp := kt.new (o := .dK []) np
      refine ⟨_, rfl, _, rfl, rfl, _, rfl, _, rfl, _, _, rfl, rfl, _, rfl, _, rfl, _, _, rfl, rfl, upd_same, [(Sum.inr "=", _), (Sum.inr "<", _), (Sum.inr "<=", _)], rfl, (by show 3 ≤ 15; decide), ?_⟩
      rw [upd_upd]
      have kp := kt.new (o := .dK (mergeK [] [(Sum.inr "=", .bl (decide (V.int i = V.int j))), (Sum.inr "<", .bl (decide (i < j))), (Sum.inr "<=", .bl (decide (i ≤ j)))])) np
      by_cases htr : o = .eq ∨ o = .lt ∨ o = .le
      · obtain ⟨b, hb, hv⟩ : ∃ b, valV (mergeK [] [(Sum.inr "=", V.bl (decide (V.int i = V.int j))), (Sum.inr "<", .bl (decide (i < j))), (Sum.inr "<=", .bl (decide (i ≤ j)))]) (Sum.inr o.str) = some (.bl b) ∧ o.val i j = some (b2 b) := by
          rw [m3]
          rcases htr with e | e | e <;> subst e
          · exact ⟨decide (i = j), by rw [if_neg (by decide +kernel), if_neg (by decide +kernel), if_pos (by decide +kernel)]; congr 2; rw [dec_int]; rfl, rfl⟩
          · exact ⟨decide (i < j), by rw [if_neg (by decide +kernel), if_pos (by decide +kernel)], rfl⟩
          · exact ⟨decide (i ≤ j), by rw [if_pos (by decide +kernel)], rfl⟩
        have kk := k _ kp
        rw [hv] at kk
        have g := dget (k := Sum.inr o.str) (upd_same (H := upd H t (.tup [.str "div", .str "mod"])) (a := p)) hb
        exact ⟨_, rfl, _, rfl, p, _, rfl, g, true, rfl, iteT ⟨_, rfl, _, rfl, p, _, rfl, g, .inr ⟨b, rfl, kk⟩⟩⟩
      · have hb : valV (mergeK [] [(Sum.inr "=", V.bl (decide (V.int i = V.int j))), (Sum.inr "<", .bl (decide (i < j))), (Sum.inr "<=", .bl (decide (i ≤ j)))]) (Sum.inr o.str) = none := by
          rw [m3]
          cases o <;> first | exact absurd (.inl rfl) hdm | exact absurd (.inr rfl) hdm | exact absurd (.inl rfl) htr | exact absurd (.inr (.inl rfl)) htr | exact absurd (.inr (.inr rfl)) htr | rw [if_neg (by decide +kernel), if_neg (by decide +kernel), if_neg (by decide +kernel)]
        refine ⟨_, rfl, _, rfl, p, none, rfl, hb ▸ DGet.k (k := Sum.inr o.str) upd_same, false, rfl, iteF ?_⟩
        intro p2 np2
        refine ⟨_, rfl, _, rfl, _, _, rfl, rfl, _, rfl, _, rfl, _, _, rfl, rfl, _, rfl, _, rfl, _, _, rfl, rfl, wide_mul hi hj (by decide) (by decide) (by decide), upd_same, [(Sum.inr "+", _), (Sum.inr "-", _), (Sum.inr "*", _)], rfl, (by show 3 ≤ 15; decide), ?_⟩
        rw [upd_upd]
        have kp2 := kp.new (o := .dK (mergeK [] [(Sum.inr "+", .int (i + j)), (Sum.inr "-", .int (i - j)), (Sum.inr "*", .int (i * j))])) np2
        refine ⟨_, rfl, _, rfl, _, _, rfl, _, rfl, _, rfl, _, _, rfl, (by show 2 ≤ sizeLine; decide), fun t2 nt2 => ?_⟩
        have kp3 := kp2.new (o := .tup [.int (if j < i then j else i), .int (if j > i then j else i)]) nt2
        have e2 : (upd (upd (upd (upd H t (.tup [.str "div", .str "mod"])) p (.dK (mergeK [] [(Sum.inr "=", V.bl (decide (V.int i = V.int j))), (Sum.inr "<", .bl (decide (i < j))), (Sum.inr "<=", .bl (decide (i ≤ j)))]))) p2 (.dK (mergeK [] [(Sum.inr "+", .int (i + j)), (Sum.inr "-", .int (i - j)), (Sum.inr "*", .int (i * j))])))
            t2 (.tup [.int (if j < i then j else i), .int (if j > i then j else i)]) : Hp) p2 = some (.dK (mergeK [] [(Sum.inr "+", .int (i + j)), (Sum.inr "-", .int (i - j)), (Sum.inr "*", .int (i * j))])) :=
          (upd_ne (ne_of_none upd_same nt2)).trans upd_same
        have l2 : (mergeK [] [((Sum.inr "+" : Key), V.int (i + j)), (Sum.inr "-", .int (i - j)), (Sum.inr "*", .int (i * j))]).length ≤ 3 := Nat.le_trans (length_mergeK _ _) (Nat.le_refl 3)
        refine ⟨t2, _, rfl, .of upd_same, rfl, _, _, rfl, ⟨_, rfl, p2, _, rfl, DPut.k (k := Sum.inr "least") e2 (small1000 (by omega)), ?_⟩⟩
        have l3 := length_putK (mergeK [] [((Sum.inr "+" : Key), V.int (i + j)), (Sum.inr "-", .int (i - j)), (Sum.inr "*", .int (i * j))]) (Sum.inr "least") (.int (if j < i then j else i))
        refine ⟨_, _, rfl, ⟨_, rfl, p2, _, rfl, DPut.k (k := Sum.inr "most") upd_same (small1000 (by omega)), rfl, ?_⟩⟩
        rw [upd_upd]
        have hv : ∃ v, o.val i j = some v ∧ valV (putK (putK (mergeK [] [((Sum.inr "+" : Key), V.int (i + j)), (Sum.inr "-", .int (i - j)), (Sum.inr "*", .int (i * j))]) (Sum.inr "least") (.int (if j < i then j else i))) (Sum.inr "most") (.int (if j > i then j else i))) (Sum.inr o.str) = some (.int v) := by
          rw [valV_put, valV_put, m3]
          cases o with
          | div => exact absurd (.inl rfl) hdm
          | mod => exact absurd (.inr rfl) hdm
          | eq => exact absurd (.inl rfl) htr
          | lt => exact absurd (.inr (.inl rfl)) htr
          | le => exact absurd (.inr (.inr rfl)) htr
          | add => exact ⟨_, rfl, by rw [if_neg (by decide +kernel), if_neg (by decide +kernel), if_neg (by decide +kernel), if_neg (by decide +kernel), if_pos (by decide +kernel)]⟩
          | sub => exact ⟨_, rfl, by rw [if_neg (by decide +kernel), if_neg (by decide +kernel), if_neg (by decide +kernel), if_pos (by decide +kernel)]⟩
          | mul => exact ⟨_, rfl, by rw [if_neg (by decide +kernel), if_neg (by decide +kernel), if_pos (by decide +kernel)]⟩
          | least => exact ⟨_, rfl, by rw [if_neg (by decide +kernel), if_pos (by decide +kernel)]⟩
          | most => exact ⟨_, rfl, by rw [if_pos (by decide +kernel)]⟩
        obtain ⟨v, h1, h2⟩ := hv
        have kp4 := (kp3.mono (S' := [p2]) (by simp)).put (o := .dK (putK (putK (mergeK [] [((Sum.inr "+" : Key), V.int (i + j)), (Sum.inr "-", .int (i - j)), (Sum.inr "*", .int (i * j))]) (Sum.inr "least") (.int (if j < i then j else i))) (Sum.inr "most") (.int (if j > i then j else i)))) (p := p2) (by simp) e2 (fun _ z => by cases z)
        have kk := k _ (kp4.drop (T := []) (fun b hb => .inr (by rw [List.mem_singleton.mp hb]; exact kp.dom _ np2)))
        rw [h1] at kk
        exact ⟨_, rfl, _, rfl, p2, _, rfl, dget (k := Sum.inr o.str) upd_same h2, kk⟩
end
end Ork
end
section
set_option Elab.async false
set_option linter.all false
set_option maxRecDepth 100000
set_option pp.maxSteps 3000
namespace Ork
open PySem L2 PySem.Spec PyProof.Rows
section
variable {P : Program} {w : World} {base : Heap} {mg : Str → Option Value} {K : PySem.W.Frag}
theorem ok_computed {f : Addr} {fd : FuncData} (B : Bn mg) (D : Def K mg "computed" sComputed ["operator", "one", "other"] f fd) :
    Has P w K mg base "computed" 1 ["operator", "one", "other"] spRes := by
  refine D.has (D.fn.ok scComputed (fun vs H Q E h => ?_) (fun cdv A outer s H vs Q E hr h => ?_))
  · obtain ⟨_, _, _, rfl, _⟩ := h
    rfl
  · obtain ⟨o, i, j, rfl, hi, hj, k⟩ := h
    have hu := hu_of hr
    have nd := scComputed.nd
    refine ⟨_, pss_cons (ps_if (pt_cmpR op_in_seq (pv 0) (pe_tup (pa_cons pe_str (pa_cons pe_str pa_nil))) rfl)
        (pss_cons (ps_if (pt_cmpR op_lt (pv 2) pe_int (nomark _)) (pss_one (ps_ret pe_non)) pss_nil)
          (pss_one (ps_ret (pe_ifExp (pt_cmpR op_eq (pv 0) pe_str (nomark _)) (pe_op op_fdivW (pv 1) (pv 2)) (pe_op op_modN (pv 1) (pv 2)))))) pss_nil)
      (pss_cons (ps_set (i := 3) nd rfl (.inl rfl) (pe_disp (pps_cons pe_str (pe_op op_add (pv 1) (pv 2)) (pps_cons pe_str (pe_op op_sub (pv 1) (pv 2)) (pps_cons pe_str (pe_op op_mulW (pv 1) (pv 2)) pps_nil))) (by rfl) (by rfl) (fun z => by cases z) (by decide)))
      (pss_cons (ps_if (pt_cmp (pc_din hu (pv 0) (pv 3))) (pss_one (ps_ret (pe_dget hu (pv 3) (pv 0) (fun _ _ => rfl)))) pss_nil)
      (pss_cons (ps_if (pt_cmpR op_in_seq (pv 0) (pe_tup (pa_cons pe_str (pa_cons pe_str pa_nil))) rfl)
        (pss_one (ps_ret (pe_ifExp (pt_cmpR op_eq (pv 0) pe_str (nomark _)) (pe_callB (call_min2 rfl) (by rfl) B.min (by decide +kernel) (pa_cons (pv 1) (pa_cons (pv 2) pa_nil))) (pe_callB (call_max2 rfl) (by rfl) B.max (by decide +kernel) (pa_cons (pv 1) (pa_cons (pv 2) pa_nil)))))) pss_nil)
      (pss_cons (ps_set (i := 4) nd rfl (.inl rfl) (pe_disp (pps_cons pe_str (pe_cmpR op_eq (pv 1) (pv 2) (nomark _)) (pps_cons pe_str (pe_cmpR op_lt (pv 1) (pv 2) (nomark _)) (pps_cons pe_str (pe_cmpR op_le (pv 1) (pv 2) (nomark _)) pps_nil))) (by rfl) (by rfl) (fun z => by cases z) (by decide)))
      (pss_one (ps_ret (pe_callTy call_int1 (by rfl) B.int (by decide +kernel) (pa_cons (pe_dget hu (pv 4) (pv 0) (fun _ _ => rfl)) pa_nil)))))))), ?_⟩
    by_cases hdm : o = .div ∨ o = .mod
    · have hin : inV (.str o.str) [.str "div", .str "mod"] = true := by
        rcases hdm with e | e <;> subst e <;> decide +kernel
      refine ⟨_, rfl, (by show 2 ≤ sizeLine; decide), fun t nt => ⟨t, _, rfl, .inr (.of upd_same), rfl, rfl, true, congrArg V.bl hin, iteT ?_⟩⟩
      have kt : Kp [] H _ := (Kp.refl [] H).new (o := .tup [.str "div", .str "mod"]) nt
      have kk := k _ kt
      refine ⟨_, rfl, _, _, rfl, rfl, _, rfl, ite2 (fun q => ?_) (fun q => ?_)⟩
      · have q := of_decide_eq_true q
        rcases hdm with e | e <;> subst e
        · have e : Op.val .div i j = none := if_pos q
          rw [e] at kk
          exact kk
        · have e : Op.val .mod i j = none := if_pos q
          rw [e] at kk
          exact kk
      · have q : ¬ j < 1 := fun z => q (decide_eq_true z)
        rcases hdm with e | e <;> subst e
        · have e : Op.val .div i j = some (i / j) := if_neg q
          rw [e] at kk
          exact ⟨_, rfl, rfl, _, rfl, iteT ⟨_, rfl, _, rfl, _, _, rfl, rfl, wide_div (by omega) hj (by decide) (by decide), kk⟩⟩
        · have e : Op.val .mod i j = some (i.fmod j) := if_neg q
          rw [e] at kk
          exact ⟨_, rfl, rfl, _, rfl, iteF ⟨_, rfl, _, rfl, _, _, rfl, rfl, by omega, kk⟩⟩
    · have hin : inV (.str o.str) [.str "div", .str "mod"] = false := by
        cases o <;> first | exact absurd (.inl rfl) hdm | exact absurd (.inr rfl) hdm | decide +kernel
      refine ⟨_, rfl, (by show 2 ≤ sizeLine; decide), fun t nt => ⟨t, _, rfl, .inr (.of upd_same), rfl, rfl, false, congrArg V.bl hin, iteF ?_⟩⟩
      have kt : Kp [] H _ := (Kp.refl [] H).new (o := .tup [.str "div", .str "mod"]) nt
      intro p np
      refine ⟨_, rfl, _, rfl, _, _, rfl, rfl, _, rfl, _, rfl, _, _, rfl, rfl, _, rfl, _, rfl, _, _, rfl, rfl, wide_mul hi hj (by decide) (by decide) (by decide), upd_same, [(Sum.inr "+", _), (Sum.inr "-", _), (Sum.inr "*", _)], rfl, (by show 3 ≤ 15; decide), ?_⟩
      rw [upd_upd]
      have kp := kt.new (o := .dK (mergeK [] [(Sum.inr "+", .int (i + j)), (Sum.inr "-", .int (i - j)), (Sum.inr "*", .int (i * j))])) np
      by_cases hs : o = .add ∨ o = .sub ∨ o = .mul
      · obtain ⟨v, hb, hv⟩ : ∃ v, valV (mergeK [] [(Sum.inr "+", V.int (i + j)), (Sum.inr "-", .int (i - j)), (Sum.inr "*", .int (i * j))]) (Sum.inr o.str) = some (.int v) ∧ o.val i j = some v := by
          rw [m3]
          rcases hs with e | e | e <;> subst e
          · exact ⟨_, by rw [if_neg (by decide +kernel), if_neg (by decide +kernel), if_pos (by decide +kernel)], rfl⟩
          · exact ⟨_, by rw [if_neg (by decide +kernel), if_pos (by decide +kernel)], rfl⟩
          · exact ⟨_, by rw [if_pos (by decide +kernel)], rfl⟩
        have kk := k _ kp
        rw [hv] at kk
        have g := dget (k := Sum.inr o.str) (upd_same (H := upd H t (.tup [.str "div", .str "mod"])) (a := p)) hb
        exact ⟨_, rfl, _, rfl, p, _, rfl, g, true, rfl, iteT ⟨_, rfl, _, rfl, p, _, rfl, g, kk⟩⟩
      · have hb : valV (mergeK [] [(Sum.inr "+", V.int (i + j)), (Sum.inr "-", .int (i - j)), (Sum.inr "*", .int (i * j))]) (Sum.inr o.str) = none := by
          rw [m3]
          cases o <;> first | exact absurd (.inl rfl) hdm | exact absurd (.inr rfl) hdm | exact absurd (.inl rfl) hs | exact absurd (.inr (.inl rfl)) hs | exact absurd (.inr (.inr rfl)) hs | rw [if_neg (by decide +kernel), if_neg (by decide +kernel), if_neg (by decide +kernel)]
        refine ⟨_, rfl, _, rfl, p, none, rfl, hb ▸ DGet.k (k := Sum.inr o.str) upd_same, false, rfl, iteF ?_⟩
        by_cases hlm : o = .least ∨ o = .most
        · have hin : inV (.str o.str) [.str "least", .str "most"] = true := by
            rcases hlm with e | e <;> subst e <;> decide +kernel
          refine ⟨_, rfl, (by show 2 ≤ sizeLine; decide), fun t2 nt2 => ⟨t2, _, rfl, .inr (.of upd_same), rfl, rfl, true, congrArg V.bl hin, iteT ?_⟩⟩
          have kk := k _ (kp.new (o := .tup [.str "least", .str "most"]) nt2)
          rcases hlm with e | e <;> subst e
          · exact ⟨_, rfl, rfl, _, rfl, iteT ⟨_, rfl, _, rfl, _, _, rfl, kk⟩⟩
          · exact ⟨_, rfl, rfl, _, rfl, iteF ⟨_, rfl, _, rfl, _, _, rfl, kk⟩⟩
        · have hin : inV (.str o.str) [.str "least", .str "most"] = false := by
            cases o <;> first | exact absurd (.inl rfl) hlm | exact absurd (.inr rfl) hlm | decide +kernel
          refine ⟨_, rfl, (by show 2 ≤ sizeLine; decide), fun t2 nt2 => ⟨t2, _, rfl, .inr (.of upd_same), rfl, rfl, false, congrArg V.bl hin, iteF ?_⟩⟩
          have kt2 := kp.new (o := .tup [.str "least", .str "most"]) nt2
          intro p2 np2
          refine ⟨_, rfl, _, rfl, rfl, _, rfl, _, rfl, _, _, rfl, rfl, _, rfl, _, rfl, _, _, rfl, rfl, upd_same, [(Sum.inr "=", _), (Sum.inr "<", _), (Sum.inr "<=", _)], rfl, (by show 3 ≤ 15; decide), ?_⟩
          rw [upd_upd]
          have kp2 := kt2.new (o := .dK (mergeK [] [(Sum.inr "=", .bl (decide (V.int i = V.int j))), (Sum.inr "<", .bl (decide (i < j))), (Sum.inr "<=", .bl (decide (i ≤ j)))])) np2
          obtain ⟨b, hb, hv⟩ : ∃ b, valV (mergeK [] [(Sum.inr "=", V.bl (decide (V.int i = V.int j))), (Sum.inr "<", .bl (decide (i < j))), (Sum.inr "<=", .bl (decide (i ≤ j)))]) (Sum.inr o.str) = some (.bl b) ∧ o.val i j = some (b2 b) := by
            rw [m3]
            cases o with
            | eq => exact ⟨decide (i = j), by rw [if_neg (by decide +kernel), if_neg (by decide +kernel), if_pos (by decide +kernel)]; congr 2; rw [dec_int]; rfl, rfl⟩
            | lt => exact ⟨decide (i < j), by rw [if_neg (by decide +kernel), if_pos (by decide +kernel)], rfl⟩
            | le => exact ⟨decide (i ≤ j), by rw [if_pos (by decide +kernel)], rfl⟩
            | div => exact absurd (.inl rfl) hdm
            | mod => exact absurd (.inr rfl) hdm
            | least => exact absurd (.inl rfl) hlm
            | most => exact absurd (.inr rfl) hlm
            | add => exact absurd (.inl rfl) hs
            | sub => exact absurd (.inr (.inl rfl)) hs
            | mul => exact absurd (.inr (.inr rfl)) hs
          have kk := k _ kp2
          rw [hv] at kk
          exact ⟨_, rfl, _, rfl, p2, _, rfl, dget (k := Sum.inr o.str) upd_same hb, .inr ⟨b, rfl, kk⟩⟩
end
end Ork
end
section
set_option Elab.async false
set_option linter.all false
set_option maxRecDepth 100000
set_option pp.maxSteps 3000
namespace Ork
open PySem L2 PySem.Spec PyProof.Rows

/-- _law_do -/
def spDo (P : Program) (w : World) : Sp := fun vs H Q _ => ∃ d o sl lv vl pl m b c code e, vs = [.ref d, lv, .ref o, .ref vl] ∧ MixD P w H d (enumN pl) ∧ LM H o sl m b ∧ b ≤ 900 ∧ m.over = false ∧ Tp H lv (codeD code) ∧ CodeOk pl code ∧
  H vl = some (.lst (c.map V.int)) ∧ c.length = pl.length ∧ Bd e m c ∧ e ≤ 12 ∧
  ∀ H' v, Kp [o, sl, vl] H H' → LM H' o sl (stM pl code m c).1 (b + 1) → H' vl = some (.lst ((stM pl code m c).2.1.map V.int)) → ((stM pl code m c).2.2 = true → ∃ t, v = .ref t) → ((stM pl code m c).2.2 = false → v = .non) → Q v H'
section
variable {P : Program} {w : World} {base : Heap} {mg : Str → Option Value} {K : PySem.W.Frag}
theorem ok_do {f : Addr} {fd : FuncData} (B : Bn mg) (D : Def K mg "_law_do" sLDo ["_law_places_here", "_law_lines", "_law_own", "_law_values"] f fd)
    (hT : Has P w K mg base "_law_touch" 2 ["_law_places_here", "_law_own", "_law_part_here", "_law_values"] (spTouch P w))
    (hR : Has P w K mg base "_law_result_of" 1 ["_law_op", "_law_one", "_law_other"] spRes) :
    Has P w K mg base "_law_do" 3 ["_law_places_here", "_law_lines", "_law_own", "_law_values"] (spDo P w) := by
  refine D.has (D.fn.ok scLDo (fun vs H Q E h => ?_) (fun cdv A outer s H vs Q E hr h => ?_))
  · obtain ⟨_, _, _, _, _, _, _, _, _, _, _, rfl, _⟩ := h
    rfl
  · obtain ⟨d, o, sl, lv, vl, pl, m, b, c, code, e, rfl, md, lm, hb, ho, tp, co, hv, hc, bd, he, k⟩ := h
    have hu := hu_of hr
    have nd := scLDo.nd
    refine ⟨_, pss_cons (ps_if (pt_cmpR op_ge (pe_dget hu (pv 2) pe_str (fun _ _ => rfl)) (pe_callB call_len_seq (by rfl) B.len PySem.boot_len (pa_cons (pv 1) pa_nil)) (nomark _))
        (pss_cons (ps_dput hu (pv 2) pe_str pe_bl rfl) (pss_one (ps_ret pe_non))) pss_nil)
      (pss_cons (ps_par (i := 4) (j := 5) (by rfl) nd rfl rfl (by decide) rfl rfl (pa_cons (pe_ix ix_tup (pv 1) (pe_dget hu (pv 2) pe_str (fun _ _ => rfl)) (fun _ _ => rfl)) (pa_cons (pe_dget hu (pv 2) pe_str (fun _ _ => rfl)) pa_nil)) (by rfl))
      (pss_cons (ps_dput hu (pv 2) pe_str (pe_op op_add (pe_dget hu (pv 2) pe_str (fun _ _ => rfl)) pe_int) rfl)
      (pss_cons (ps_if (pt_cmpR op_in_seq (pe_ix ix_tup (pv 4) pe_int (fun _ _ => rfl)) (pe_tup (pa_cons pe_str (pa_cons pe_str (pa_cons pe_str (pa_cons pe_str pa_nil))))) rfl)
        (pss_one (ps_ret (pe_has hT (hr.mono (by decide)) rfl (pa_cons (pv 0) (pa_cons (pv 2) (pa_cons (pv 4) (pa_cons (pv 3) pa_nil))))))) pss_nil)
      (pss_cons (ps_if (pt_cmpR op_eq (pe_ix ix_tup (pv 4) pe_int (fun _ _ => rfl)) pe_str (nomark _))
        (pss_one (ps_dput hu (pv 5) (pe_ix ix_tup (pv 4) pe_int (fun _ _ => rfl)) (pe_ix ix_tup (pv 4) pe_int (fun _ _ => rfl)) rfl))
        (pss_one (ps_if (pt_cmpR op_eq (pe_ix ix_tup (pv 4) pe_int (fun _ _ => rfl)) pe_str (nomark _))
          (pss_cons (ps_set (i := 6) nd rfl (.inl rfl) (pe_has hR (hr.mono (by decide)) rfl (pa_cons (pe_ix ix_tup (pv 4) pe_int (fun _ _ => rfl)) (pa_cons (pe_dget2 hu (pv 5) (pe_ix ix_tup (pv 4) pe_int (fun _ _ => rfl)) pe_int ⟨rfl, rfl, rfl, rfl⟩) (pa_cons (pe_dget2 hu (pv 5) (pe_ix ix_tup (pv 4) pe_int (fun _ _ => rfl)) pe_int ⟨rfl, rfl, rfl, rfl⟩) pa_nil)))))
          (pss_cons (ps_dput hu (pv 5) (pe_ix ix_tup (pv 4) pe_int (fun _ _ => rfl)) (pv 6) rfl)
          (pss_one (ps_asg (pe_tup (pa_cons (pe_cmpR op_isN (pv 6) pe_non (nomark _)) (pa_cons (pe_cmpR op_isN (pv 6) pe_non (nomark _)) pa_nil))) (pg_tup rfl (pgs_cons (pg_sub (pv 2) pe_str (set_dict hu)) (pgs_cons (pg_sub (pv 2) pe_str (set_dict hu)) pgs_nil)))))))
          (pss_one (ps_if (pt_cmpR op_eq (pe_ix ix_tup (pv 4) pe_int (fun _ _ => rfl)) pe_str (nomark _))
            (pss_one (ps_dput hu (pv 2) pe_str pe_bl rfl))
            (pss_one (ps_if (PW.pt (pw_or (pt_cmpR op_eq (pe_ix ix_tup (pv 4) pe_int (fun _ _ => rfl)) pe_str (nomark _)) (pw_or1 (pt_cmpR op_eq (pe_dget2 hu (pv 5) (pe_ix ix_tup (pv 4) pe_int (fun _ _ => rfl)) pe_int ⟨rfl, rfl, rfl, rfl⟩) pe_int (nomark _)))))
              (pss_one (ps_dput hu (pv 2) pe_str (pe_ix ix_tup (pv 4) (pe_un un_neg pe_int) (fun _ _ => rfl)) rfl)) pss_nil)))))))
      (pss_one (ps_ret pe_non)))))), ?_⟩
    obtain ⟨⟨fl, e1⟩, ⟨kvs, e2, e3⟩, ne⟩ := id lm
    obtain ⟨lc, cvs, rfl, hl, hcs⟩ : ∃ lc cvs, lv = .ref lc ∧ H lc = some (.tup cvs) ∧ Tps H cvs (code.map Ins.toD) := by
      cases tp with
      | tup a b => exact ⟨_, _, rfl, a, b⟩
    have hlen : cvs.length = code.length := by rw [hcs.length, List.length_map]
    refine ⟨_, rfl, o, _, rfl, dget (k := kAt) e1 own_at, _, rfl, lc, _, rfl, .inr (.of hl), _, _, rfl, rfl, _, rfl, ite2 (fun q => ?_) (fun q => ?_)⟩
    · -- behind the last instruction
      have q := of_decide_eq_true q
      have q' : code.length ≤ m.pc := by omega
      refine ⟨_, rfl, o, _, rfl, DPut.k (k := kOver) e1 (by show 4 < sizeLine; decide), ?_⟩
      rw [put_over]
      have kw := (Kp.refl [o, sl, vl] H).put (o := .dK (ownK m.pc sl true fl)) (p := o) (by simp) e1 (fun _ z => by cases z)
      rw [stM_end q'] at k
      exact k _ _ kw ⟨⟨fl, upd_same⟩, ⟨kvs, (upd_ne ne.symm).trans e2, fun z => by cases z⟩, ne⟩ ((upd_ne (ne_of hv e1 (fun z => by cases z))).trans hv) (fun z => by cases z) (fun _ => rfl)
    · have q' : m.pc < code.length := by
        have : ¬ (cvs.length : Int) ≤ m.pc := fun z => q (decide_eq_true z)
        omega
      obtain ⟨ins, hins⟩ : ∃ ins, code[m.pc]? = some ins := ⟨code[m.pc], List.getElem?_eq_getElem q'⟩
      have io := co.2 _ _ hins
      obtain ⟨iv, hiv, tpi⟩ := hcs.get (i := m.pc) (d := ins.toD) (by rw [List.getElem?_map, hins]; rfl)
      have R : stM pl code m c = insM pl ins { m with pc := m.pc + 1 } c := by
        unfold stM
        rw [hins]
      rw [R] at k
      have hin : ∀ n, ins.nm? = some n → (idx pl n).isSome = true := by
        intro n hn
        cases ins <;> cases hn <;> exact io.2
      refine ⟨_, rfl, _, rfl, o, _, rfl, dget (k := kAt) e1 own_at, lc, _, _, _, rfl, rfl, .of hl, atI_nat hiv, _, rfl, o, _, rfl, dget (k := kSlots) e1 own_slots, _, _, rfl, ?_⟩
      refine ⟨_, rfl, o, _, rfl, dget (k := kAt) e1 own_at, _, _, rfl, rfl, _, rfl, o, _, rfl, DPut.k (k := kAt) e1 (by show 4 < sizeLine; decide), ?_⟩
      rw [put_at]
      have kA := (Kp.refl [o, sl, vl] H).put (o := .dK (ownK ((m.pc : Int) + 1) sl m.over fl)) (p := o) (by simp) e1 (fun _ z => by cases z)
      have e1A : (upd H o (.dK (ownK ((m.pc : Int) + 1) sl m.over fl)) : Hp) o = some (.dK (ownK ((m.pc : Int) + 1) sl m.over fl)) := upd_same
      have e2A := (upd_ne ne.symm : (upd H o (.dK (ownK ((m.pc : Int) + 1) sl m.over fl)) : Hp) sl = _).trans e2
      have hvA := (upd_ne (ne_of hv e1 (fun z => by cases z)) : (upd H o (.dK (ownK ((m.pc : Int) + 1) sl m.over fl)) : Hp) vl = _).trans hv
      generalize (upd H o (.dK (ownK ((m.pc : Int) + 1) sl m.over fl)) : Hp) = HA at kA e1A e2A hvA ⊢
      have tpA := Tp.keep kA.tk _ _ tpi
      obtain ⟨a, x, rfl, ha, hx⟩ := ins_of tpA
      have hd : d ∉ [o, sl, vl] := by
        obtain ⟨xs, ed, _⟩ := md
        have n1 : d ≠ o := ne_of ed e1 (fun z => by cases z)
        have n2 : d ≠ sl := ne_of ed e2 (fun z => by cases z)
        have n3 : d ≠ vl := ne_of ed hv (fun z => by cases z)
        simp [n1, n2, n3]
      refine ⟨_, rfl, a, _, 0, .str ins.word, rfl, rfl, .of ha, (by cases ins <;> rfl), (by show 4 ≤ sizeLine; decide), fun t nt => ?_⟩
      have kT := kA.new (o := .tup [.str "load", .str "loadat", .str "store", .str "storeat"]) nt
      have e1T := (upd_ne (ne_of_none e1A nt) : (upd HA t (.tup [.str "load", .str "loadat", .str "store", .str "storeat"]) : Hp) o = _).trans e1A
      have e2T := (upd_ne (ne_of_none e2A nt) : (upd HA t (.tup [.str "load", .str "loadat", .str "store", .str "storeat"]) : Hp) sl = _).trans e2A
      have hvT := (upd_ne (ne_of_none hvA nt) : (upd HA t (.tup [.str "load", .str "loadat", .str "store", .str "storeat"]) : Hp) vl = _).trans hvA
      have haT := (upd_ne (ne_of_none ha nt) : (upd HA t (.tup [.str "load", .str "loadat", .str "store", .str "storeat"]) : Hp) a = _).trans ha
      have eT : (upd HA t (.tup [.str "load", .str "loadat", .str "store", .str "storeat"]) : Hp) t = some (.tup [.str "load", .str "loadat", .str "store", .str "storeat"]) := upd_same
      have tpT := Tp.keep kT.tk _ _ tpi
      generalize (upd HA t (.tup [.str "load", .str "loadat", .str "store", .str "storeat"]) : Hp) = HT0 at kT e1T e2T hvT haT eT tpT ⊢
      cases hmem : tgt { m with pc := m.pc + 1 } ins with
      | some n =>
        have hw : inV (.str ins.word) [.str "load", .str "loadat", .str "store", .str "storeat"] = true := by
          cases ins <;> first | (cases hmem; done) | rfl
        refine ⟨t, _, rfl, .inr (.of eT), (by cases ins <;> rfl), rfl, true, congrArg V.bl hw, iteT ?_⟩
        refine ⟨_, rfl, _, rfl, _, rfl, _, rfl, d, o, sl, .ref a, vl, pl, { m with pc := m.pc + 1 }, b, c, ins, n, rfl, md.kp kT hd, ⟨⟨fl, e1T⟩, ⟨kvs, e2T, e3⟩, ne⟩, hb, ho, tpT, hmem, hin, hvT, hc, fun H' v k1 l1 h1 r1 r2 => ?_⟩
        exact k _ _ (kT.trans k1) l1 h1 r1 r2
      | none =>
        have hw : inV (.str ins.word) [.str "load", .str "loadat", .str "store", .str "storeat"] = false := by
          cases ins <;> first | (cases hmem; done) | rfl
        refine ⟨t, _, rfl, .inr (.of eT), (by cases ins <;> rfl), rfl, false, congrArg V.bl hw, iteF ?_⟩
        cases ins with
        | load r n => cases hmem
        | store n r => cases hmem
        | loadat r tn s' => cases hmem
        | storeat tn s' r => cases hmem
        | const r v =>
          refine ⟨_, rfl, a, _, 0, .str "const", rfl, rfl, .of haT, rfl, rfl, _, rfl, iteT ?_⟩
          refine ⟨_, rfl, a, _, 2, _, rfl, rfl, .of haT, rfl, _, rfl, _, rfl, a, _, 1, _, rfl, rfl, .of haT, rfl, sl, _, rfl, DPut.k (k := Sum.inl (r : Int)) e2T (small1000 (Nat.le_trans (e3 ho).2 (by omega))), ?_⟩
          have kw := kT.put (o := .dK (putK kvs (Sum.inl (r : Int)) (.int v))) (p := sl) (by simp) e2T (fun _ z => by cases z)
          exact k _ _ kw ⟨⟨fl, (upd_ne ne).trans e1T⟩, ⟨_, upd_same, fun _ => ⟨sl_put (e3 ho).1, Nat.le_trans (length_putK _ _ _) (Nat.succ_le_succ (e3 ho).2)⟩⟩, ne⟩ ((upd_ne (ne_of hvT e2T (fun z => by cases z))).trans hvT) (fun z => by cases z) (fun _ => rfl)
        | op o' r x' y' =>
          refine ⟨_, rfl, a, _, 0, .str "do", rfl, rfl, .of haT, rfl, rfl, _, rfl, iteF ?_⟩
          refine ⟨_, rfl, a, _, 0, .str "do", rfl, rfl, .of haT, rfl, rfl, _, rfl, iteT ?_⟩
          refine ⟨_, rfl, a, _, 1, _, rfl, rfl, .of haT, rfl, _, rfl, sl, rfl, .inl ⟨kvs, .inl e2T⟩, _, rfl, a, _, 3, .int x', rfl, rfl, .of haT, rfl, _, DGet.k (k := Sum.inl (x' : Int)) e2T,
            _, rfl, sl, rfl, .inl ⟨kvs, .inl e2T⟩, _, rfl, a, _, 4, .int y', rfl, rfl, .of haT, rfl, _, DGet.k (k := Sum.inl (y' : Int)) e2T, ?_⟩
          rw [(e3 ho).1 x', (e3 ho).1 y']
          refine ⟨o', _, _, rfl, pow_mono (bd.1 x') he, pow_mono (bd.1 y') he, fun H3 k3 => ?_⟩
          have kO : Kp [o, sl, vl] H H3 := kT.trans (k3.mono (by simp))
          have e1O := k3.same _ _ e1T (by simp)
          have e2O := k3.same _ _ e2T (by simp)
          have hvO := k3.same _ _ hvT (by simp)
          have haO := k3.tk _ _ haT
          have sz : kvs.length < sizeLine := small1000 (Nat.le_trans (e3 ho).2 (by omega))
          have RV : insM pl (.op o' r x' y') { m with pc := m.pc + 1 } c = match o'.val (m.sl x') (m.sl y') with
            | some v => ({ m with pc := m.pc + 1, sl := setS m.sl r v }, c, false)
            | none => ({ m with pc := m.pc + 1, over := true }, c, false) := rfl
          rw [RV] at k
          cases hval : o'.val (m.sl x') (m.sl y') with
          | some v =>
            rw [hval] at k
            refine ⟨_, rfl, _, rfl, _, rfl, a, _, 2, .int r, rfl, rfl, .of haO, rfl, sl, _, rfl, DPut.k (k := Sum.inl (r : Int)) e2O sz, ?_⟩
            have kw := kO.put (o := .dK (putK kvs (Sum.inl (r : Int)) (.int v))) (p := sl) (by simp) e2O (fun _ z => by cases z)
            have e1w := (upd_ne ne : (upd H3 sl (.dK (putK kvs (Sum.inl (r : Int)) (.int v))) : Hp) o = _).trans e1O
            have e2w : (upd H3 sl (.dK (putK kvs (Sum.inl (r : Int)) (.int v))) : Hp) sl = some (.dK (putK kvs (Sum.inl (r : Int)) (.int v))) := upd_same
            have hvw := (upd_ne (ne_of hvO e2O (fun z => by cases z)) : (upd H3 sl (.dK (putK kvs (Sum.inl (r : Int)) (.int v))) : Hp) vl = _).trans hvO
            refine ⟨_, rfl, rfl, _, rfl, rfl, (by show 2 ≤ sizeLine; decide), fun t2 nt2 => ?_⟩
            have kz := kw.new (o := .tup [.bl (decide (V.int v = .non)), .bl (decide (V.int v = .non))]) nt2
            have e1z := (upd_ne (ne_of_none e1w nt2) : (upd _ t2 (.tup [.bl (decide (V.int v = .non)), .bl (decide (V.int v = .non))]) : Hp) o = _).trans e1w
            have e2z := (upd_ne (ne_of_none e2w nt2) : (upd _ t2 (.tup [.bl (decide (V.int v = .non)), .bl (decide (V.int v = .non))]) : Hp) sl = _).trans e2w
            have hvz := (upd_ne (ne_of_none hvw nt2) : (upd _ t2 (.tup [.bl (decide (V.int v = .non)), .bl (decide (V.int v = .non))]) : Hp) vl = _).trans hvw
            refine ⟨t2, _, rfl, .of upd_same, rfl, _, _, rfl, ⟨_, rfl, o, _, rfl, DPut.k (k := kOver) e1z (by show 4 < sizeLine; decide), ?_⟩⟩
            rw [put_over]
            refine ⟨_, _, rfl, ⟨_, rfl, o, _, rfl, DPut.k (k := kFault) upd_same (by show 4 < sizeLine; decide), rfl, ?_⟩⟩
            rw [put_fault, upd_upd]
            have kf := kz.put (o := .dK (ownK ((m.pc : Int) + 1) sl (decide (V.int v = .non)) (decide (V.int v = .non)))) (p := o) (by simp) e1z (fun _ z => by cases z)
            refine k _ _ kf ⟨⟨decide (V.int v = .non), upd_same.trans ?_⟩, ⟨_, (upd_ne ne.symm).trans e2z, fun _ => ⟨sl_put (e3 ho).1, Nat.le_trans (length_putK _ _ _) (Nat.succ_le_succ (e3 ho).2)⟩⟩, ne⟩ ((upd_ne (ne_of hvz e1z (fun z => by cases z))).trans hvz) (fun z => by cases z) (fun _ => rfl)
            show some (HO.dK (ownK ((m.pc : Int) + 1) sl (decide (V.int v = .non)) (decide (V.int v = .non)))) = some (HO.dK (ownK ((m.pc + 1 : Nat) : Int) sl m.over (decide (V.int v = .non))))
            rw [ho]
            rfl
          | none =>
            rw [hval] at k
            refine ⟨_, rfl, _, rfl, _, rfl, a, _, 2, .int r, rfl, rfl, .of haO, rfl, sl, _, rfl, DPut.k (k := Sum.inl (r : Int)) e2O sz, ?_⟩
            have kw := kO.put (o := .dK (putK kvs (Sum.inl (r : Int)) .non)) (p := sl) (by simp) e2O (fun _ z => by cases z)
            have e1w := (upd_ne ne : (upd H3 sl (.dK (putK kvs (Sum.inl (r : Int)) .non)) : Hp) o = _).trans e1O
            have e2w : (upd H3 sl (.dK (putK kvs (Sum.inl (r : Int)) .non)) : Hp) sl = some (.dK (putK kvs (Sum.inl (r : Int)) .non)) := upd_same
            have hvw := (upd_ne (ne_of hvO e2O (fun z => by cases z)) : (upd H3 sl (.dK (putK kvs (Sum.inl (r : Int)) .non)) : Hp) vl = _).trans hvO
            refine ⟨_, rfl, rfl, _, rfl, rfl, (by show 2 ≤ sizeLine; decide), fun t2 nt2 => ?_⟩
            have kz := kw.new (o := .tup [.bl (decide (V.non = .non)), .bl (decide (V.non = .non))]) nt2
            have e1z := (upd_ne (ne_of_none e1w nt2) : (upd _ t2 (.tup [.bl (decide (V.non = .non)), .bl (decide (V.non = .non))]) : Hp) o = _).trans e1w
            have e2z := (upd_ne (ne_of_none e2w nt2) : (upd _ t2 (.tup [.bl (decide (V.non = .non)), .bl (decide (V.non = .non))]) : Hp) sl = _).trans e2w
            have hvz := (upd_ne (ne_of_none hvw nt2) : (upd _ t2 (.tup [.bl (decide (V.non = .non)), .bl (decide (V.non = .non))]) : Hp) vl = _).trans hvw
            refine ⟨t2, _, rfl, .of upd_same, rfl, _, _, rfl, ⟨_, rfl, o, _, rfl, DPut.k (k := kOver) e1z (by show 4 < sizeLine; decide), ?_⟩⟩
            rw [put_over]
            refine ⟨_, _, rfl, ⟨_, rfl, o, _, rfl, DPut.k (k := kFault) upd_same (by show 4 < sizeLine; decide), rfl, ?_⟩⟩
            rw [put_fault, upd_upd]
            have kf := kz.put (o := .dK (ownK ((m.pc : Int) + 1) sl (decide (V.non = .non)) (decide (V.non = .non)))) (p := o) (by simp) e1z (fun _ z => by cases z)
            exact k _ _ kf ⟨⟨_, upd_same⟩, ⟨_, (upd_ne ne.symm).trans e2z, fun z => by cases z⟩, ne⟩ ((upd_ne (ne_of hvz e1z (fun z => by cases z))).trans hvz) (fun z => by cases z) (fun _ => rfl)
        | fin =>
          refine ⟨_, rfl, a, _, 0, .str "end", rfl, rfl, .of haT, rfl, rfl, _, rfl, iteF ?_⟩
          refine ⟨_, rfl, a, _, 0, .str "end", rfl, rfl, .of haT, rfl, rfl, _, rfl, iteF ?_⟩
          refine ⟨_, rfl, a, _, 0, .str "end", rfl, rfl, .of haT, rfl, rfl, _, rfl, iteT ?_⟩
          refine ⟨_, rfl, o, _, rfl, DPut.k (k := kOver) e1T (by show 4 < sizeLine; decide), ?_⟩
          rw [put_over]
          have kw := kT.put (o := .dK (ownK ((m.pc : Int) + 1) sl true fl)) (p := o) (by simp) e1T (fun _ z => by cases z)
          exact k _ _ kw ⟨⟨fl, upd_same⟩, ⟨kvs, (upd_ne ne.symm).trans e2T, fun z => by cases z⟩, ne⟩ ((upd_ne (ne_of hvT e1T (fun z => by cases z))).trans hvT) (fun z => by cases z) (fun _ => rfl)
        | jump j =>
          refine ⟨_, rfl, a, _, 0, .str "jump", rfl, rfl, .of haT, rfl, rfl, _, rfl, iteF ?_⟩
          refine ⟨_, rfl, a, _, 0, .str "jump", rfl, rfl, .of haT, rfl, rfl, _, rfl, iteF ?_⟩
          refine ⟨_, rfl, a, _, 0, .str "jump", rfl, rfl, .of haT, rfl, rfl, _, rfl, iteF ?_⟩
          refine ⟨_, rfl, a, _, 0, .str "jump", rfl, rfl, .of haT, rfl, rfl, _, rfl, iteT ?_⟩
          refine ⟨_, rfl, _, rfl, a, _, (-1), .int j, rfl, rfl, .of haT, rfl, _, rfl, o, _, rfl, DPut.k (k := kAt) e1T (by show 4 < sizeLine; decide), ?_⟩
          rw [put_at]
          have kw := kT.put (o := .dK (ownK (j : Int) sl m.over fl)) (p := o) (by simp) e1T (fun _ z => by cases z)
          exact k _ _ kw ⟨⟨fl, upd_same⟩, ⟨kvs, (upd_ne ne.symm).trans e2T, fun z => ⟨(e3 z).1, Nat.le_trans (e3 z).2 (Nat.le_succ _)⟩⟩, ne⟩ ((upd_ne (ne_of hvT e1T (fun z => by cases z))).trans hvT) (fun z => by cases z) (fun _ => rfl)
        | «unless» s' j =>
          refine ⟨_, rfl, a, _, 0, .str "unless", rfl, rfl, .of haT, rfl, rfl, _, rfl, iteF ?_⟩
          refine ⟨_, rfl, a, _, 0, .str "unless", rfl, rfl, .of haT, rfl, rfl, _, rfl, iteF ?_⟩
          refine ⟨_, rfl, a, _, 0, .str "unless", rfl, rfl, .of haT, rfl, rfl, _, rfl, iteF ?_⟩
          refine ⟨_, rfl, a, _, 0, .str "unless", rfl, rfl, .of haT, rfl, rfl, _, rfl, iteF ?_⟩
          refine ⟨_, rfl, sl, rfl, .inl ⟨kvs, .inl e2T⟩, _, rfl, a, _, 1, .int s', rfl, rfl, .of haT, rfl, _, DGet.k (k := Sum.inl (s' : Int)) e2T, ?_⟩
          rw [(e3 ho).1 s']
          have RV : insM pl (.unless s' j) { m with pc := m.pc + 1 } c = (if m.sl s' = 0 then { m with pc := j } else { m with pc := m.pc + 1 }, c, false) := rfl
          rw [RV] at k
          refine ⟨rfl, _, rfl, ite2 (fun q => ?_) (fun q => ?_)⟩
          · have q := of_decide_eq_true q
            have q : m.sl s' = 0 := by injection q
            rw [if_pos q] at k
            refine ⟨_, rfl, _, rfl, a, _, (-1), .int j, rfl, rfl, .of haT, rfl, _, rfl, o, _, rfl, DPut.k (k := kAt) e1T (by show 4 < sizeLine; decide), ?_⟩
            rw [put_at]
            have kw := kT.put (o := .dK (ownK (j : Int) sl m.over fl)) (p := o) (by simp) e1T (fun _ z => by cases z)
            exact k _ _ kw ⟨⟨fl, upd_same⟩, ⟨kvs, (upd_ne ne.symm).trans e2T, fun z => ⟨(e3 z).1, Nat.le_trans (e3 z).2 (Nat.le_succ _)⟩⟩, ne⟩ ((upd_ne (ne_of hvT e1T (fun z => by cases z))).trans hvT) (fun z => by cases z) (fun _ => rfl)
          · have q : ¬ m.sl s' = 0 := fun z => q (decide_eq_true (by rw [z]))
            rw [if_neg q] at k
            exact k _ _ kT ⟨⟨fl, e1T⟩, ⟨kvs, e2T, fun z => ⟨(e3 z).1, Nat.le_trans (e3 z).2 (Nat.le_succ _)⟩⟩, ne⟩ hvT (fun z => by cases z) (fun _ => rfl)
end
end Ork
end
section
set_option Elab.async false
set_option linter.all false
set_option maxRecDepth 100000
set_option pp.maxSteps 3000
namespace Ork
open PySem L2 PySem.Spec PyProof.Rows

theorem LM.done {H : Hp} {o sl : Addr} {m : Mc} {b : Nat} (h : LM H o sl m b) (ho : m.over = true) (b' : Nat) : LM H o sl m b' := by
  obtain ⟨a, ⟨kvs, q, c⟩, n⟩ := h
  exact ⟨a, ⟨kvs, q, fun z => by rw [ho] at z; cases z⟩, n⟩
/-- _law_event -/
def spEvent (P : Program) (w : World) : Sp := fun vs H Q _ => ∃ d o sl lv vl pl m c code e, vs = [.ref d, lv, .ref o, .ref vl] ∧ MixD P w H d (enumN pl) ∧ LM H o sl m m.pc ∧ Tp H lv (codeD code) ∧ CodeOk pl code ∧
  H vl = some (.lst (c.map V.int)) ∧ c.length = pl.length ∧ Bd e m c ∧ 1 ≤ e ∧ e + (code.length - m.pc) ≤ 12 ∧ m.pc ≤ code.length ∧
  ∀ H' v, Kp [o, sl, vl] H H' → LM H' o sl (evM pl code (fuel code) m c).1 (evM pl code (fuel code) m c).1.pc → H' vl = some (.lst ((evM pl code (fuel code) m c).2.1.map V.int)) →
    ((evM pl code (fuel code) m c).2.2 = true → ∃ t, v = .ref t) → ((evM pl code (fuel code) m c).2.2 = false → v = .non) → Q v H'
section
variable {P : Program} {w : World} {base : Heap} {mg : Str → Option Value} {K : PySem.W.Frag}
theorem ok_event {f : Addr} {fd : FuncData} (D : Def K mg "_law_event" sLEvent ["_law_places_here", "_law_lines", "_law_own", "_law_values"] f fd)
    (hD : Has P w K mg base "_law_do" 3 ["_law_places_here", "_law_lines", "_law_own", "_law_values"] (spDo P w)) :
    Has P w K mg base "_law_event" 4 ["_law_places_here", "_law_lines", "_law_own", "_law_values"] (spEvent P w) := by
  refine D.has (D.fn.ok scLEvent (fun vs H Q E h => ?_) (fun cdv A outer s H vs Q E hr h => ?_))
  · obtain ⟨_, _, _, _, _, _, _, _, _, _, rfl, _⟩ := h
    rfl
  · obtain ⟨d, o, sl, lv, vl, pl, m, c, code, e, rfl, md, lm, tp, co, hv, hc, bd, he1, he, hp, k⟩ := h
    have hu := hu_of hr
    have nd := scLEvent.nd
    have hd : d ∉ [o, sl, vl] := by
      obtain ⟨xs, ed, _⟩ := md
      obtain ⟨⟨fl, e1⟩, ⟨kvs, e2, e3⟩, ne⟩ := id lm
      have n1 : d ≠ o := ne_of ed e1 (fun z => by cases z)
      have n2 : d ≠ sl := ne_of ed e2 (fun z => by cases z)
      have n3 : d ≠ vl := ne_of ed hv (fun z => by cases z)
      simp [n1, n2, n3]
    refine ⟨_, pss_cons (ps_set (i := 4) nd rfl (.inl rfl) pe_non)
      (pss_cons (ps_while PassesOwn.never (PW.pt (pw_and (pt_cmpR op_isN (pv 4) pe_non (nomark _)) (pw_and1 (pt_not (pt_val (pe_dget hu (pv 2) pe_str (fun _ _ => rfl)))))))
        (pss_one (ps_set (i := 4) nd rfl (.inl rfl) (pe_has hD (hr.mono (by decide)) rfl (pa_cons (pv 0) (pa_cons (pv 1) (pa_cons (pv 2) (pa_cons (pv 3) pa_nil))))))))
      (pss_one (ps_ret (pv 4)))), ?_⟩
    refine ⟨fun n σ H' => ∃ m' c' e' v, σ = [some (.ref d), some lv, some (.ref o), some (.ref vl), some v] ∧ Kp [o, sl, vl] H H' ∧ LM H' o sl m' m'.pc ∧ H' vl = some (.lst (c'.map V.int)) ∧ c'.length = pl.length ∧ Bd e' m' c' ∧ 1 ≤ e' ∧
      e' + (code.length - m'.pc) ≤ 12 ∧ m'.pc ≤ code.length ∧ ((v = .non ∧ evM pl code n m' c' = evM pl code (fuel code) m c ∧ (m'.over = false → code.length - m'.pc < n)) ∨ ∃ t, v = .ref t ∧ evM pl code (fuel code) m c = (m', c', true)),
      ⟨fuel code, m, c, e, .non, rfl, Kp.refl _ _, lm, hv, hc, bd, he1, he, hp, .inl ⟨rfl, rfl, fun _ => by unfold fuel; omega⟩⟩, ?_⟩
    rintro n σ H' ⟨m', c', e', v, rfl, kp, lm', hv', hc', bd', he1', he', hp', hcase⟩
    obtain ⟨⟨fl, e1⟩, _⟩ := id lm'
    rcases hcase with ⟨rfl, hR, hn⟩ | ⟨t, rfl, hR⟩
    · refine ⟨_, rfl, rfl, _, rfl, iteT ?_⟩
      refine ⟨_, rfl, o, _, rfl, dget (k := kOver) e1 own_over, _, rfl, ?_⟩
      cases ho : m'.over with
      | true =>
        refine iteF ?_
        rw [evM_over ho] at hR
        rw [← hR] at k
        exact ⟨_, rfl, k _ _ kp lm' hv' (fun z => by cases z) (fun _ => rfl)⟩
      | false =>
        refine iteT ?_
        obtain ⟨g, rfl⟩ : ∃ g, n = g + 1 := ⟨n - 1, by have := hn ho; omega⟩
        refine ⟨fun σ' H2 => ∃ m2, m2 < g + 1 ∧ ∃ m' c' e' v, σ' = [some (.ref d), some lv, some (.ref o), some (.ref vl), some v] ∧ Kp [o, sl, vl] H H2 ∧ LM H2 o sl m' m'.pc ∧ H2 vl = some (.lst (c'.map V.int)) ∧ c'.length = pl.length ∧ Bd e' m' c' ∧ 1 ≤ e' ∧
          e' + (code.length - m'.pc) ≤ 12 ∧ m'.pc ≤ code.length ∧ ((v = .non ∧ evM pl code m2 m' c' = evM pl code (fuel code) m c ∧ (m'.over = false → code.length - m'.pc < m2)) ∨ ∃ t, v = .ref t ∧ evM pl code (fuel code) m c = (m', c', true)), fun σ' H2 h => h, ?_⟩
        refine ⟨_, rfl, _, rfl, _, rfl, _, rfl, d, o, sl, lv, vl, pl, m', m'.pc, c', code, e', rfl, md.kp kp hd, lm', by have := co.1; omega, ho, Tp.keep kp.tk _ _ tp, co, hv', hc', bd', by omega, fun H3 v k3 l3 h3 r1 r2 => ?_⟩
        rw [evM, if_neg (by rw [ho]; exact Bool.false_ne_true)] at hR
        dsimp only at hR
        rcases Nat.lt_or_ge m'.pc code.length with q | q
        · obtain ⟨g1, g2, g3, g4⟩ := stM_ok co he1' bd' hc' q
          generalize stM pl code m' c' = S at hR l3 h3 r1 r2 g1 g2 g3 g4
          refine ⟨g, Nat.lt_succ_self g, S.1, S.2.1, e' + 1, v, rfl, kp.trans k3, l3.mono g1, h3, g4, g3, by omega, by omega, g2, ?_⟩
          cases hS : S.2.2 with
          | true =>
            rw [if_pos hS] at hR
            obtain ⟨t, rfl⟩ := r1 hS
            refine .inr ⟨t, rfl, hR.symm.trans ?_⟩
            rw [← hS]
          | false =>
            rw [if_neg (by rw [hS]; exact Bool.false_ne_true)] at hR
            exact .inl ⟨r2 hS, hR, fun _ => by have := hn ho; omega⟩
        · rw [stM_end q] at hR l3 h3 r1 r2
          rw [if_neg Bool.false_ne_true] at hR
          exact ⟨g, Nat.lt_succ_self g, { m' with over := true }, c', e', v, rfl, kp.trans k3, l3.done rfl _, h3, hc', ⟨bd'.1, bd'.2⟩, he1', he', hp', .inl ⟨r2 rfl, hR, fun z => by cases z⟩⟩
    · refine ⟨_, rfl, rfl, _, rfl, iteF (iteF ?_)⟩
      rw [hR] at k
      exact ⟨_, rfl, k _ _ kp lm' hv' (fun _ => ⟨t, rfl⟩) (fun z => by cases z)⟩
end
end Ork
end
section
set_option Elab.async false
set_option linter.all false
set_option maxRecDepth 100000
set_option pp.maxSteps 3000
namespace Ork
open PySem L2 PySem.Spec PyProof.Rows

theorem m4 {a b c d : V} : mergeK [] [(kAt, a), (kSlots, b), (kOver, c), (kFault, d)] = [(kAt, a), (kSlots, b), (kOver, c), (kFault, d)] := by
  unfold mergeK
  simp only [List.foldl_cons, List.foldl_nil]
  rw [putK_new a valV_nil]
  rw [putK_new b (by show valV [(kAt, a)] kSlots = none; rw [valV_neg k12, valV_nil])]
  rw [putK_new c (by show valV [(kAt, a), (kSlots, b)] kOver = none; rw [valV_neg k13, valV_neg k23, valV_nil])]
  rw [putK_new d (by show valV [(kAt, a), (kSlots, b), (kOver, c)] kFault = none; rw [valV_neg k14, valV_neg k24, valV_neg k34, valV_nil])]
  rfl
def spFresh : Sp := fun vs H Q _ => vs = [] ∧ ∀ o sl H', Kp [] H H' → H o = none → H sl = none → LM H' o sl freshM 0 → Q (.ref o) H'
def spCopied : Sp := fun vs H Q _ => ∃ o sl m b, vs = [.ref o] ∧ LM H o sl m b ∧ b ≤ 900 ∧ ∀ o2 sl2 H', Kp [] H H' → H o2 = none → H sl2 = none → LM H' o2 sl2 m b → Q (.ref o2) H'
section
variable {X : Cx} {x : Str} {p pos : Pos} {k : Nat} {ps : List Str} {sp : Sp}
theorem pe_has0 (h : Has X.prog X.w X.K X.mg X.base x k ps sp) (hr : Room k X.A) (hg : Gl X x) (hdb : (x == ("__debug__" : Str)) = false := by decide)
    (hst : starEach [] X.env = [] := by rfl) :
    PE X (.Call (.Name x p) [] [] pos) (tCall sp [] E0 tNil) := by
  obtain ⟨f, fd, a, b, c, d⟩ := h
  exact pe_call0 d hr hg a b c .nil pass0 hdb
end
section
variable {P : Program} {w : World} {base : Heap} {mg : Str → Option Value} {K : PySem.W.Frag}
theorem ok_fresh {f : Addr} {fd : FuncData} (D : Def K mg "_law_fresh" sLFresh [] f fd) : Has P w K mg base "_law_fresh" 1 [] spFresh := by
  refine D.has (D.fn.ok scLFresh (fun vs H Q E h => ?_) (fun cdv A outer s H vs Q E hr h => ?_))
  · obtain ⟨rfl, _⟩ := h
    rfl
  · obtain ⟨rfl, k⟩ := h
    refine ⟨_, pss_one (ps_ret (pe_disp (pps_cons pe_str pe_int (pps_cons pe_str pe_dnewK (pps_cons pe_str pe_bl (pps_cons pe_str pe_bl pps_nil)))) (by rfl) (by rfl) (fun z => by cases z) (by decide))), ?_⟩
    intro p np
    have kp := (Kp.refl [] H).new (o := .dK []) np
    intro sl nsl
    have n1 : p ≠ sl := ne_of_none upd_same nsl
    have ks := kp.new (o := .dK []) nsl
    refine ⟨(upd_ne n1).trans upd_same, [(kAt, .int 0), (kSlots, .ref sl), (kOver, .bl false), (kFault, .bl false)], rfl, (by show 4 ≤ 15; decide), ?_⟩
    rw [m4]
    have ko := (ks.mono (S' := [p]) (by simp)).put (o := .dK (ownK 0 sl false false)) (p := p) (by simp) ((upd_ne n1).trans upd_same) (fun _ z => by cases z)
    exact k p sl _ (ko.drop (T := []) (fun b hb => .inr (by rw [List.mem_singleton.mp hb]; exact np))) np (kp.dom _ nsl) ⟨⟨false, upd_same⟩, ⟨[], (upd_ne n1.symm).trans upd_same, fun _ => ⟨fun r => rfl, Nat.le_refl _⟩⟩, n1⟩
theorem ok_copied {f : Addr} {fd : FuncData} (B : Bn mg) (D : Def K mg "_law_copied" sLCopied ["_law_own"] f fd) : Has P w K mg base "_law_copied" 1 ["_law_own"] spCopied := by
  refine D.has (D.fn.ok scLCopied (fun vs H Q E h => ?_) (fun cdv A outer s H vs Q E hr h => ?_))
  · obtain ⟨_, _, _, _, rfl, _⟩ := h
    rfl
  · obtain ⟨o, sl, m, b, rfl, lm, hb, k⟩ := h
    have hu := hu_of hr
    obtain ⟨⟨fl, e1⟩, ⟨kvs, e2, e3⟩, ne⟩ := id lm
    refine ⟨_, pss_one (ps_ret (pe_disp (pps_cons pe_str (pe_dget hu (pv 0) pe_str (fun _ _ => rfl)) (pps_cons pe_str (pe_callTy call_dictD (by rfl) B.dict (by decide +kernel) (pa_cons (pe_dget hu (pv 0) pe_str (fun _ _ => rfl)) pa_nil)) (pps_cons pe_str (pe_dget hu (pv 0) pe_str (fun _ _ => rfl)) (pps_cons pe_str (pe_dget hu (pv 0) pe_str (fun _ _ => rfl)) pps_nil)))) (by rfl) (by rfl) (fun z => by cases z) (by decide))), ?_⟩
    intro p np
    have kp := (Kp.refl [] H).new (o := .dK []) np
    have e1p := kp.same _ _ e1 (by simp)
    have e2p := kp.same _ _ e2 (by simp)
    refine ⟨_, rfl, o, _, rfl, dget (k := kAt) e1p own_at, _, rfl, o, _, rfl, dget (k := kSlots) e1p own_slots, sl, kvs, rfl, .inl e2p, fun q nq => ?_⟩
    have n1 : p ≠ q := ne_of_none upd_same nq
    have kq := kp.new (o := .dK kvs) nq
    have e1q := kq.same _ _ e1 (by simp)
    refine ⟨_, rfl, o, _, rfl, dget (k := kOver) e1q own_over, _, rfl, o, _, rfl, dget (k := kFault) e1q own_fault, (upd_ne n1).trans upd_same, [(kAt, .int m.pc), (kSlots, .ref q), (kOver, .bl m.over), (kFault, .bl fl)], rfl, (by show 4 ≤ 15; decide), ?_⟩
    rw [m4]
    have ko := (kq.mono (S' := [p]) (by simp)).put (o := .dK (ownK m.pc q m.over fl)) (p := p) (by simp) ((upd_ne n1).trans upd_same) (fun _ z => by cases z)
    exact k p q _ (ko.drop (T := []) (fun b hb => .inr (by rw [List.mem_singleton.mp hb]; exact np))) np (kp.dom _ nq) ⟨⟨fl, upd_same⟩, ⟨kvs, (upd_ne n1.symm).trans upd_same, e3⟩, n1⟩
end
end Ork
end
section
set_option Elab.async false
set_option linter.all false
set_option maxRecDepth 100000
namespace Ork
open PySem L2

def evs (pl : List Nm) (codes : List (List Ins)) (g : Cfg) (n : Nat) : List Nat := (List.range n).filter fun k => (evK pl codes k g).2
def parts (pl : List Nm) (codes : List (List Ins)) (f : Cfg → List (List Nat)) (g : Cfg) (n : Nat) : List (List Nat) := (evs pl codes g n).flatMap fun k => (f (evK pl codes k g).1).map (k :: ·)
theorem parts_succ {pl codes f g n} : parts pl codes f g (n + 1) = parts pl codes f g n ++ if (evK pl codes n g).2 = true then (f (evK pl codes n g).1).map (n :: ·) else [] := by
  unfold parts evs
  rw [List.range_succ, List.filter_append, List.flatMap_append]
  congr 1
  by_cases h : (evK pl codes n g).2 = true
  · rw [if_pos h]
    simp [h]
  · rw [if_neg h]
    simp [h]
theorem behind_succ {pl codes n g} : behind pl codes (n + 1) g = if evs pl codes g codes.length = [] then [[]] else parts pl codes (behind pl codes n) g codes.length := rfl
theorem behind_ne {pl codes} : ∀ (n : Nat) (g : Cfg), behind pl codes n g ≠ []
  | 0, g => by simp [behind]
  | n + 1, g => by
    rw [behind_succ]
    split
    · simp
    · rename_i h
      obtain ⟨k, hk⟩ := List.exists_mem_of_ne_nil _ h
      obtain ⟨r, hr⟩ := List.exists_mem_of_ne_nil _ (behind_ne n (evK pl codes k g).1)
      intro z
      have : (k :: r) ∈ parts pl codes (behind pl codes n) g codes.length := List.mem_flatMap.mpr ⟨k, hk, List.mem_map.mpr ⟨r, hr, rfl⟩⟩
      rw [z] at this
      cases this
theorem parts_nil {pl codes n g m} : parts pl codes (behind pl codes n) g m = [] ↔ evs pl codes g m = [] := by
  constructor
  · intro h
    cases e : evs pl codes g m with
    | nil => rfl
    | cons k ks =>
      exfalso
      obtain ⟨r, hr⟩ := List.exists_mem_of_ne_nil _ (behind_ne (pl := pl) (codes := codes) n (evK pl codes k g).1)
      have : (k :: r) ∈ parts pl codes (behind pl codes n) g m := List.mem_flatMap.mpr ⟨k, by rw [e]; exact List.mem_cons_self .., List.mem_map.mpr ⟨r, hr, rfl⟩⟩
      rw [h] at this
      cases this
  · intro h
    unfold parts
    rw [h]
    rfl
/-- with enough fuel the first step shows -/
theorem behind_step {pl : List Nm} {codes : List (List Ins)} {n : Nat} {g : Cfg} (co : CodesOk pl codes) (ok : CfgOk pl codes g) (h : meas codes g ≤ n) :
    behind pl codes n g = if parts pl codes (behind pl codes (n - 1)) g codes.length = [] then [[]] else parts pl codes (behind pl codes (n - 1)) g codes.length := by
  cases n with
  | zero =>
    have e : evs pl codes g codes.length = [] := by
      unfold evs
      rw [List.filter_eq_nil_iff]
      intro k hk
      rw [meas_zero co ok (by omega) (List.mem_range.mp hk)]
      exact Bool.false_ne_true
    rw [if_pos (parts_nil.mpr e)]
    rfl
  | succ n =>
    rw [behind_succ]
    show _ = if parts pl codes (behind pl codes n) g codes.length = [] then _ else parts pl codes (behind pl codes n) g codes.length
    by_cases e : evs pl codes g codes.length = []
    · rw [if_pos e, if_pos (parts_nil.mpr e)]
    · rw [if_neg e, if_neg (fun z => e (parts_nil.mp z))]
theorem sum_le {α : Type} (f : α → Nat) (b : Nat) : ∀ (l : List α), (∀ x ∈ l, f x ≤ b) → (l.map f).sum ≤ l.length * b
  | [], _ => by simp
  | x :: l, h => by
    have hx := h x (List.mem_cons_self ..)
    have h2 := sum_le f b l fun y hy => h y (List.mem_cons_of_mem _ hy)
    simp only [List.map_cons, List.sum_cons, List.length_cons, Nat.add_mul]
    omega
theorem parts_len {pl codes f g n b} (h : ∀ g, (f g).length ≤ b) : (parts pl codes f g n).length ≤ n * b := by
  unfold parts
  rw [List.length_flatMap]
  refine Nat.le_trans (sum_le _ b _ fun k _ => by rw [List.length_map]; exact h _) (Nat.mul_le_mul_right _ ?_)
  unfold evs
  exact Nat.le_trans (List.length_filter_le _ _) (by simp)
theorem behind_len {pl : List Nm} {codes : List (List Ins)} (hc : codes.length ≤ 3) : ∀ (n : Nat) (g : Cfg), (behind pl codes n g).length ≤ 3 ^ n
  | 0, g => by simp [behind]
  | n + 1, g => by
    rw [behind_succ]
    split
    · exact Nat.one_le_pow _ _ (by decide)
    · refine Nat.le_trans (parts_len (b := 3 ^ n) fun g => behind_len hc n g) ?_
      rw [Nat.pow_succ, Nat.mul_comm]
      exact Nat.mul_le_mul_left _ hc
theorem behind_in {pl : List Nm} {codes : List (List Ins)} : ∀ (n : Nat) (g : Cfg) (r : List Nat), r ∈ behind pl codes n g → r.length ≤ n ∧ ∀ k ∈ r, k < codes.length
  | 0, g, r, h => by
    simp only [behind, List.mem_singleton] at h
    subst h
    exact ⟨Nat.le_refl _, fun k hk => nomatch hk⟩
  | n + 1, g, r, h => by
    rw [behind_succ] at h
    split at h
    · rw [List.mem_singleton.mp h]
      exact ⟨Nat.zero_le _, fun k hk => nomatch hk⟩
    · obtain ⟨k, hk, h⟩ := List.mem_flatMap.mp h
      obtain ⟨q, hq, rfl⟩ := List.mem_map.mp h
      obtain ⟨h1, h2⟩ := behind_in n _ q hq
      refine ⟨Nat.succ_le_succ h1, fun j hj => ?_⟩
      rcases List.mem_cons.mp hj with e | hj
      · subst e
        exact List.mem_range.mp (List.mem_filter.mp hk).1
      · exact h2 j hj

/-! ### shapes -/
theorem ints_lay : ∀ l : List Int, PyData.canLayAll0 (l.map PyData.int) = true
  | .nil => by simp [PyData.canLayAll0]
  | i :: l => by simp [PyData.canLayAll0, PyData.canLay0, ints_lay l]
theorem ints_depth : ∀ l : List Int, PyData.depthAll (l.map PyData.int) ≤ 1
  | .nil => by simp [PyData.depthAll]
  | i :: l => by
    have := ints_depth l
    simp only [PyData.depth, PyData.depthAll, List.map_cons]
    omega
theorem natsD_eq (ks : List Nat) : natsD ks = intsD (ks.map fun (k : Nat) => (k : Int)) := by
  unfold natsD intsD
  rw [List.map_map]
  rfl
theorem intsD_lay (l : List Int) : (intsD l).canLay0 = true := by simp [intsD, PyData.canLay0, ints_lay]
theorem intsD_depth (l : List Int) : (intsD l).depth ≤ 2 := by
  have := ints_depth l
  simp only [intsD, PyData.depth]
  omega
theorem lst_lay : ∀ l : List (List Int), PyData.canLayAll0 (l.map intsD) = true
  | .nil => by simp [PyData.canLayAll0]
  | i :: l => by simp [PyData.canLayAll0, intsD_lay, lst_lay l]
theorem lst_depth : ∀ l : List (List Int), PyData.depthAll (l.map intsD) ≤ 2
  | .nil => by simp [PyData.depthAll]
  | i :: l => by
    have h1 := lst_depth l
    have h2 := intsD_depth i
    simp only [PyData.depthAll, List.map_cons]
    omega
theorem lst_shaped (l : List (List Int)) : SeqAt.shaped (.list (l.map intsD)) = true := by
  have h1 := lst_depth l
  show (PyData.canLay0 (.list (l.map intsD)) && decide (PyData.depth (.list (l.map intsD)) ≤ 64)) = true
  rw [Bool.and_eq_true]
  refine ⟨by simp only [PyData.canLay0]; exact lst_lay l, decide_eq_true ?_⟩
  simp only [PyData.depth]
  omega
theorem nats_map (l : List (List Nat)) : l.map natsD = (l.map fun ks => ks.map fun (k : Nat) => (k : Int)).map intsD := by
  rw [List.map_map]
  exact List.map_congr_left fun ks _ => natsD_eq ks
theorem nats_shaped (l : List (List Nat)) : SeqAt.shaped (.list (l.map natsD)) = true := by
  rw [nats_map]
  exact lst_shaped _
theorem list_eqv_nil (ds : List PyData) : PyData.eqv (.list ds) (.list []) = ds.isEmpty := by
  cases ds <;> simp [PyData.eqv, PyData.eqvAll]
end Ork
end
section
set_option Elab.async false
set_option linter.all false
set_option maxRecDepth 100000
set_option pp.maxSteps 3000
namespace Ork
open PySem L2 PySem.Spec PyProof.Rows

/-- the machines stand, each in its two dicts -/
structure MsAt (H : Hp) (fp : List (Addr × Addr)) (ms : List Mc) : Prop where
  len : fp.length = ms.length
  at_ : ∀ (i : Nat) (p : Addr × Addr) (m : Mc), fp[i]? = some p → ms[i]? = some m → LM H p.1 p.2 m m.pc
theorem MsAt.kp {H H' : Hp} {fp : List (Addr × Addr)} {ms : List Mc} (h : MsAt H fp ms) (k : Kp [] H H') : MsAt H' fp ms := ⟨h.len, fun i p m h1 h2 => (h.at_ i p m h1 h2).kp k (by simp) (by simp)⟩
def spAll (P : Program) (w : World) (n : Nat) : Sp := fun vs H Q _ => ∃ d sv ml vl pl codes g fp, vs = [.ref d, sv, .ref ml, .ref vl] ∧ MixD P w H d (enumN pl) ∧ Tp H sv (codesD codes) ∧ CodesOk pl codes ∧ CfgOk pl codes g ∧ meas codes g < n ∧
  H ml = some (.lst (fp.map fun p => V.ref p.1)) ∧ MsAt H fp g.ms ∧ H vl = some (.lst (g.c.map V.int)) ∧
  ∀ p xs H', Kp [] H H' → H p = none → H' p = some (.lst xs) → Tps H' xs ((behind pl codes (n - 1) g).map natsD) → Q (.ref p) H'

def flat (fp : List (Addr × Addr)) : List Addr := fp.flatMap fun p => [p.1, p.2]
theorem mem_flat {fp : List (Addr × Addr)} {a : Addr} : a ∈ flat fp ↔ ∃ p ∈ fp, a = p.1 ∨ a = p.2 := by
  unfold flat
  simp [List.mem_flatMap]
theorem flat_snoc (fp : List (Addr × Addr)) (p : Addr × Addr) : flat (fp ++ [p]) = flat fp ++ [p.1, p.2] := by simp [flat]

/-- [_law_copied(own) for own in machines] -/
theorem copies {K : PySem.W.Frag} {a0 a1 a3 a4 a5 a6 a7 a8 a9 : Option V} {ml : Addr} {fp : List (Addr × Addr)} {ms : List Mc} {Hs : Hp} {Q : V → Hp → Prop} (hml : Hs ml = some (.lst (fp.map fun p => V.ref p.1))) (hms : MsAt Hs fp ms) (hpc : ∀ m ∈ ms, m.pc ≤ 900) (hl : fp.length ≤ 1000)
    (k : ∀ (D : Addr) (fps : List (Addr × Addr)) (H' : Hp), Kp [] Hs H' → Hs D = none → H' D = some (.lst (fps.map fun p => V.ref p.1)) → MsAt H' fps ms → (flat fps).Nodup → (∀ a ∈ flat fps, Hs a = none) → Q (.ref D) H') :
    tLc (iList K (tVar 2)) (gName 8) tYes (tCall spCopied [] E0 (tCons (tVar 8) tNil)) [8] [a0, a1, some (.ref ml), a3, a4, a5, a6, a7, a8, a9] Hs Q := by
  refine ⟨_, rfl, ml, rfl, ⟨_, .of hml⟩, fun D nD => ?_⟩
  have kD : Kp [] Hs (upd Hs D (.lst [])) := (Kp.refl [] Hs).new nD
  refine lc_list (xs := fp.map fun p => V.ref p.1) (fun i H' => ∃ fps : List (Addr × Addr), fps.length = i ∧ Kp [D] (upd Hs D (.lst [])) H' ∧ H' D = some (.lst (fps.map fun p => V.ref p.1)) ∧
    (∀ (j : Nat) (p : Addr × Addr) (m : Mc), fps[j]? = some p → ms[j]? = some m → LM H' p.1 p.2 m m.pc) ∧ (flat fps).Nodup ∧ ∀ a ∈ flat fps, (upd Hs D (.lst []) : Hp) a = none ∧ H' a ≠ none) ⟨[], rfl, Kp.refl _ _, upd_same, fun j p m h => by simp at h, List.nodup_nil, fun a h => by simp [flat] at h⟩ (fun i H' _ h => ?_) (fun i x H' hx h => ?_) (fun H' h => ?_)
  · obtain ⟨fps, e, kk, hD, _⟩ := h
    have nml : ml ≠ D := ne_of_none hml nD
    exact .of (kk.same _ _ ((upd_ne nml).trans hml) (by simpa using nml))
  · obtain ⟨fps, e, kk, hD, hl', nd, fr⟩ := h
    obtain ⟨p, hp, rfl⟩ : ∃ p, fp[i]? = some p ∧ x = V.ref p.1 := by
      rw [List.getElem?_map] at hx
      obtain ⟨p, hp, e⟩ := Option.map_eq_some_iff.mp hx
      exact ⟨p, hp, e.symm⟩
    have hi : i < fp.length := (List.getElem?_eq_some_iff.mp hp).1
    have hm2 : i < ms.length := by rw [← hms.len]; exact hi
    have hm : ms[i]? = some ms[i] := List.getElem?_eq_getElem hm2
    have k0 : Kp [] Hs H' := (kD.mono (S' := [D]) (by simp)).trans kk |>.drop (fun b hb => .inr (by rw [List.mem_singleton.mp hb]; exact nD))
    refine ⟨rfl, _, rfl, p.1, p.2, ms[i], ms[i].pc, rfl, (hms.at_ _ _ _ hp hm).kp k0 (by simp) (by simp), hpc _ (List.getElem_mem hm2), fun o2 sl2 H2 k2 n1 n2 l2 => ?_⟩
    have hD2 := k2.same _ _ hD (by simp)
    refine ⟨_, hD2, by rw [List.length_map]; exact small1000 (by omega), fps ++ [(o2, sl2)], by rw [List.length_append]; simp [e], ?_, ?_, ?_, ?_, ?_⟩
    · exact (kk.trans (k2.mono (by simp))).put (by simp) hD2 (fun _ z => by cases z)
    · rw [upd_same, List.map_append]
      rfl
    · intro j q m hq hmj
      have eD : ∀ a, (upd Hs D (.lst []) : Hp) a = none → a ≠ D := fun a z e => by subst e; rw [upd_same] at z; cases z
      rcases Nat.lt_or_ge j fps.length with hjl | hjl
      · rw [List.getElem?_append_left hjl] at hq
        have hmem := List.mem_of_getElem? hq
        have f1 := (fr q.1 (mem_flat.mpr ⟨q, hmem, .inl rfl⟩)).1
        have f2 := (fr q.2 (mem_flat.mpr ⟨q, hmem, .inr rfl⟩)).1
        exact ((hl' j q m hq hmj).kp k2 (by simp) (by simp)).keep (upd_ne (eD _ f1)) (upd_ne (eD _ f2))
      · have ej : j = i := by
          have := (List.getElem?_eq_some_iff.mp hq).1
          rw [List.length_append] at this
          simp at this
          omega
        subst ej
        rw [hm] at hmj
        cases hmj
        rw [List.getElem?_append_right (by omega), e] at hq
        simp at hq
        subst hq
        exact l2.keep (upd_ne (eD _ (kk.dom _ n1))) (upd_ne (eD _ (kk.dom _ n2)))
    · rw [flat_snoc, List.nodup_append]
      refine ⟨nd, by simpa using l2.ne, fun a ha b hb z => ?_⟩
      subst z
      have := (fr a ha).2
      simp at hb
      rcases hb with rfl | rfl
      · exact this n1
      · exact this n2
    · intro a ha
      rw [flat_snoc, List.mem_append] at ha
      have eD : (upd Hs D (.lst []) : Hp) a = none → a ≠ D := fun z e => by subst e; rw [upd_same] at z; cases z
      rcases ha with ha | ha
      · obtain ⟨f1, f2⟩ := fr a ha
        refine ⟨f1, ?_⟩
        rw [upd_ne (eD f1)]
        intro z
        exact f2 (k2.dom _ z)
      · simp at ha
        obtain ⟨⟨fl, g1⟩, ⟨kvs, g2, _⟩, _⟩ := id l2
        rcases ha with rfl | rfl
        · have f1 := kk.dom _ n1
          refine ⟨f1, ?_⟩
          rw [upd_ne (eD f1), g1]
          exact fun z => by cases z
        · have f1 := kk.dom _ n2
          refine ⟨f1, ?_⟩
          rw [upd_ne (eD f1), g2]
          exact fun z => by cases z
  · obtain ⟨fps, e, kk, hD, hl', nd, fr⟩ := h
    have k0 : Kp [] Hs H' := (kD.mono (S' := [D]) (by simp)).trans kk |>.drop (fun b hb => .inr (by rw [List.mem_singleton.mp hb]; exact nD))
    exact k D fps H' k0 nD hD ⟨by rw [e, List.length_map]; exact hms.len, hl'⟩ nd fun a ha => by
      have z := (fr a ha).1
      by_cases q : a = D
      · rw [q]; exact nD
      · rw [upd_ne q] at z; exact z
end Ork
end
section
set_option Elab.async false
set_option linter.all false
set_option maxRecDepth 100000
set_option pp.maxSteps 3000
namespace Ork
open PySem L2 PySem.Spec PyProof.Rows

theorem nats_of {H : Hp} {r : List Nat} {v : V} (h : Tp H v (natsD r)) : ∃ b, v = .ref b ∧ H b = some (.tup (r.map fun (k : Nat) => V.int k)) := by
  rw [natsD_eq] at h
  cases h with
  | tup a b =>
    have e := Tps.toInts b
    subst e
    exact ⟨_, rfl, by rw [a, List.map_map]; rfl⟩
theorem nats_to {H : Hp} {r : List Nat} {b : Addr} (h : H b = some (.tup (r.map fun (k : Nat) => V.int k))) : Tp H (.ref b) (natsD r) := by
  rw [natsD_eq]
  have e : (r.map fun (k : Nat) => V.int k) = (r.map fun (k : Nat) => (k : Int)).map V.int := by rw [List.map_map]; rfl
  rw [e] at h
  exact .tup h (Tps.ints _)
/-- [(k,) + rest for rest in _law_all(..)] -/
theorem rests {K : PySem.W.Frag} {a2 a3 a4 a8 a9 : Option V} {v0 v1 v6 v7 : V} {kk : Nat} {sp : Sp} {L : List (List Nat)} {Hs : Hp} {Q : V → Hp → Prop} (hL : ∀ r ∈ L, r.length ≤ 1000) (hn : L.length < sizeLine)
    (hsp : ∀ Q' : V → Hp → Prop, (∀ p xs H', Kp [] Hs H' → Hs p = none → H' p = some (.lst xs) → Tps H' xs (L.map natsD) → Q' (.ref p) H') → sp [v0, v1, v6, v7] Hs Q' E0)
    (k : ∀ (D : Addr) (acc : List V) (H' : Hp), Kp [] Hs H' → Hs D = none → H' D = some (.lst acc) → Tps H' acc ((L.map (kk :: ·)).map natsD) → Q (.ref D) H') :
    tLc (iList K (tCall sp [] E0 (tCons (tVar 0) (tCons (tVar 1) (tCons (tVar 6) (tCons (tVar 7) tNil)))))) (gName 9) tYes (tOp (rCatT K) (tTup (tCons (tVar 5) tNil)) (tVar 9)) [9] [some v0, some v1, a2, a3, a4, some (.int kk), some v6, some v7, a8, a9] Hs Q := by
  refine ⟨_, rfl, _, rfl, _, rfl, _, rfl, hsp _ fun p xs H1 k1 np hp tps => ⟨p, rfl, ⟨_, .of hp⟩, fun D nD => ?_⟩⟩
  have kD : Kp [] H1 (upd H1 D (.lst [])) := (Kp.refl [] H1).new nD
  have hlen : xs.length = L.length := by rw [tps.length, List.length_map]
  refine lc_list (xs := xs) (fun i H' => ∃ acc : List V, acc.length = i ∧ Kp [D] (upd H1 D (.lst [])) H' ∧ H' D = some (.lst acc) ∧ Tps H' acc (((L.take i).map (kk :: ·)).map natsD)) ⟨[], rfl, Kp.refl _ _, upd_same, .nil⟩ (fun i H' _ h => ?_) (fun i x H' hx h => ?_) (fun H' h => ?_)
  · obtain ⟨acc, _, kq, _⟩ := h
    have n0 : p ≠ D := ne_of_none hp nD
    exact .of (kq.same _ _ ((upd_ne n0).trans hp) (by simpa using n0))
  · obtain ⟨acc, el, kq, hD, ta⟩ := h
    have hi : i < xs.length := (List.getElem?_eq_some_iff.mp hx).1
    have hi2 : i < L.length := by omega
    obtain ⟨x', hx', tx⟩ := tps.get (i := i) (d := natsD L[i]) (by rw [List.getElem?_map, List.getElem?_eq_getElem hi2]; rfl)
    rw [hx] at hx'
    cases hx'
    have tk0 : TK H1 H' := fun b ys e => kq.tk _ _ (kD.tk _ _ e)
    obtain ⟨b, rfl, hb⟩ := nats_of (Tp.keep tk0 _ _ tx)
    have hr := hL L[i] (List.getElem_mem hi2)
    refine ⟨rfl, _, rfl, (by show 1 ≤ sizeLine; decide), fun t nt => ⟨_, rfl, t, b, _, _, rfl, rfl, .of upd_same, .of ((upd_ne (ne_of_none hb nt)).trans hb), (fun z => by cases z), (by rw [List.length_map, sizeLine_eq]; show 1 + L[i].length ≤ _; omega), fun e => ?_, fun _ q nq => ?_⟩⟩
    · have e' : L[i] = [] := by simpa using e
      have kt := kq.new (o := .tup [.int kk]) nt
      have hDt := (upd_ne (ne_of_none hD nt) : (upd H' t (.tup [.int kk]) : Hp) D = _).trans hD
      refine ⟨acc, hDt, by omega, acc ++ [.ref t], by simp [el], kt.put (by simp) hDt (fun _ z => by cases z), upd_same, ?_⟩
      have ntD : t ≠ D := fun z => by subst z; rw [hD] at nt; cases nt
      have kz : TK H' (upd (upd H' t (.tup [.int kk])) D (.lst (acc ++ [.ref t]))) := fun c ys z => by
        have n1 : c ≠ D := ne_of z hD (fun z => by cases z)
        have n2 : c ≠ t := ne_of_none z nt
        rw [upd_ne n1, upd_ne n2]
        exact z
      have ttk : (L.take (i + 1)).map (kk :: ·) = (L.take i).map (kk :: ·) ++ [kk :: L[i]] := by rw [List.take_succ_eq_append_getElem hi2, List.map_append]; rfl
      rw [ttk, List.map_append]
      refine (Tps.keep kz _ _ ta).snoc (nats_to ?_)
      rw [e', upd_ne ntD, upd_same]
      rfl
    · have kt := kq.new (o := .tup [.int kk]) nt
      have kt2 := kt.new (o := .tup ([.int kk] ++ L[i].map fun (k : Nat) => V.int k)) nq
      have hDt := (upd_ne (ne_of_none hD nt) : (upd H' t (.tup [.int kk]) : Hp) D = _).trans hD
      have hDq := (upd_ne (ne_of_none hDt nq) : (upd (upd H' t (.tup [.int kk])) q (.tup ([.int kk] ++ L[i].map fun (k : Nat) => V.int k)) : Hp) D = _).trans hDt
      refine ⟨acc, hDq, by omega, acc ++ [.ref q], by simp [el], kt2.put (by simp) hDq (fun _ z => by cases z), upd_same, ?_⟩
      have nqD : q ≠ D := fun z => by subst z; rw [hDt] at nq; cases nq
      have kz : TK H' (upd (upd (upd H' t (.tup [.int kk])) q (.tup ([.int kk] ++ L[i].map fun (k : Nat) => V.int k))) D (.lst (acc ++ [.ref q]))) := fun c ys z => by
        have n1 : c ≠ D := ne_of z hD (fun z => by cases z)
        have n2 : c ≠ t := ne_of_none z nt
        have z2 := (upd_ne n2 : (upd H' t (.tup [.int kk]) : Hp) c = _).trans z
        have n3 : c ≠ q := ne_of_none z2 nq
        rw [upd_ne n1, upd_ne n3]
        exact z2
      have ttk : (L.take (i + 1)).map (kk :: ·) = (L.take i).map (kk :: ·) ++ [kk :: L[i]] := by rw [List.take_succ_eq_append_getElem hi2, List.map_append]; rfl
      rw [ttk, List.map_append]
      refine (Tps.keep kz _ _ ta).snoc (nats_to ?_)
      rw [upd_ne nqD, upd_same]
      rfl
  · obtain ⟨acc, el, kq, hD, ta⟩ := h
    have k0 : Kp [] H1 H' := (kD.mono (S' := [D]) (by simp)).trans kq |>.drop (fun b hb => .inr (by rw [List.mem_singleton.mp hb]; exact nD))
    rw [hlen, List.take_length] at ta
    exact k D acc H' (k1.trans k0) (k1.dom _ nD) hD ta
end Ork
end
section
set_option Elab.async false
set_option linter.all false
set_option maxRecDepth 100000
set_option pp.maxSteps 3000
namespace Ork
open PySem L2 PySem.Spec PyProof.Rows

theorem flat_apart : ∀ {fp : List (Addr × Addr)} {i j : Nat} {p q : Addr × Addr}, (flat fp).Nodup → fp[i]? = some p → fp[j]? = some q → i ≠ j → ∀ a, a = q.1 ∨ a = q.2 → a ≠ p.1 ∧ a ≠ p.2
  | [], i, _, _, _, _, h, _, _ => by simp at h
  | x :: fp, i, j, p, q, nd, hi, hj, ne => by
    have nd' : (([x.1, x.2] : List Addr) ++ flat fp).Nodup := nd
    rw [List.nodup_append] at nd'
    obtain ⟨_, n2, n3⟩ := nd'
    intro a ha
    cases i with
    | zero =>
      cases j with
      | zero => exact absurd rfl ne
      | succ j =>
        simp at hi
        subst hi
        have hm : q ∈ fp := List.mem_of_getElem? (by simpa using hj)
        have ha2 : a ∈ flat fp := mem_flat.mpr ⟨q, hm, ha⟩
        exact ⟨fun e => n3 x.1 (by simp) a ha2 e.symm, fun e => n3 x.2 (by simp) a ha2 e.symm⟩
    | succ i =>
      cases j with
      | zero =>
        simp at hj
        subst hj
        have hm : p ∈ fp := List.mem_of_getElem? (by simpa using hi)
        have h1 : p.1 ∈ flat fp := mem_flat.mpr ⟨p, hm, .inl rfl⟩
        have h2 : p.2 ∈ flat fp := mem_flat.mpr ⟨p, hm, .inr rfl⟩
        have hx : a ∈ ([x.1, x.2] : List Addr) := by rcases ha with e | e <;> simp [e]
        exact ⟨fun e => n3 a hx p.1 h1 e, fun e => n3 a hx p.2 h2 e⟩
      | succ j => exact flat_apart n2 (by simpa using hi) (by simpa using hj) (fun e => ne (by rw [e])) a ha
section
variable {P : Program} {w : World} {base : Heap} {mg : Str → Option Value} {K : PySem.W.Frag}
theorem ok_all_step {f : Addr} {fd : FuncData} {n j : Nat} (hj : 4 ≤ j) (hn : n ≤ 11) (B : Bn mg) (D : Def K mg "_law_all" sLAll ["_law_places_here", "_law_sheets", "_law_machines", "_law_values"] f fd)
    (hE : Has P w K mg base "_law_event" 4 ["_law_places_here", "_law_lines", "_law_own", "_law_values"] (spEvent P w))
    (hC : Has P w K mg base "_law_copied" 1 ["_law_own"] spCopied)
    (hA : Has P w K mg base "_law_all" j ["_law_places_here", "_law_sheets", "_law_machines", "_law_values"] (spAll P w n)) :
    Has P w K mg base "_law_all" (j + 1) ["_law_places_here", "_law_sheets", "_law_machines", "_law_values"] (spAll P w (n + 1)) := by
  refine D.has (D.fn.ok scLAll (fun vs H Q E h => ?_) (fun cdv A outer s H vs Q E hr h => ?_))
  · obtain ⟨_, _, _, _, _, _, _, _, rfl, _⟩ := h
    rfl
  · obtain ⟨d, sv, ml, vl, pl, codes, g, fp, rfl, md, tp, co, ok, hm, hml, ms, hvl, k⟩ := h
    have hu := hu_of hr
    have nd := scLAll.nd
    refine ⟨_, pss_cons (ps_set (i := 4) nd rfl (.inl rfl) (pe_lst pa_nil))
      (pss_cons (ps_for PassesOwn.never rfl (pi_range1 rfl B.range (pa_cons (pe_callB call_len_seq (by rfl) B.len PySem.boot_len (pa_cons (pv 1) pa_nil)) pa_nil)) (pg_name (i := 5) nd rfl (.inr rfl))
        (pss_cons (ps_par (i := 6) (j := 7) (by rfl) nd rfl rfl (by decide) rfl rfl
            (pa_cons (pe_lc (own := [("_law_own", 8)]) (g := gName 8) (tt := tYes) (by rfl) nd (pi_list (pv 2)) (blkOk_by (own := [("_law_own", 8)]) (N := nLAll) (sc := defScope sLAll) (by decide +kernel)) (fun _ _ _ _ _ => pg_name (i := 8) nd rfl (.inl rfl)) (fun _ _ _ _ _ => pts_nil) (fun _ _ _ _ _ => pe_has hC (hr.mono (by omega)) rfl (pa_cons (pv 8) pa_nil)))
              (pa_cons (pe_callTy call_list_of (by rfl) B.list (by decide +kernel) (pa_cons (pv 3) pa_nil)) pa_nil)) (by rfl))
        (pss_one (ps_if (pt_cmpR op_notN (pe_has hE (hr.mono hj) rfl (pa_cons (pv 0) (pa_cons (pe_ix ix_tup (pv 1) (pv 5) (fun _ _ => rfl)) (pa_cons (pe_ix ix_list (pv 6) (pv 5) (fun _ _ => rfl)) (pa_cons (pv 7) pa_nil))))) pe_non (nomark _))
          (pss_one (ps_expr (pe_bm PySem.F.plainAttrs_list PySem.F.slot_list_extend PySem.F.type_list_extend mt_extend (pv 4)
            (pa_cons (pe_lc (own := [("_law_rest", 9)]) (g := gName 9) (tt := tYes) (by rfl) nd (pi_list (pe_has hA hr rfl (pa_cons (pv 0) (pa_cons (pv 1) (pa_cons (pv 6) (pa_cons (pv 7) pa_nil)))))) (blkOk_by (own := [("_law_rest", 9)]) (N := nLAll) (sc := defScope sLAll) (by decide +kernel)) (fun _ _ _ _ _ => pg_name (i := 9) nd rfl (.inl rfl)) (fun _ _ _ _ _ => pts_nil)
              (fun _ _ _ _ _ => pe_op (r := rCatT K) op_catT (pe_tup (pa_cons (pv 5) pa_nil)) (pv 9))) pa_nil)))) pss_nil))))
      (pss_one (ps_ret (pe_ifExp (pt_cmpR (op_neD hr.units) (pv 4) (pe_lst pa_nil) (nomark _)) (pv 4) (pe_lst (pa_cons (pe_tup pa_nil) pa_nil)))))), ?_⟩
    obtain ⟨sp, svs, rfl, hsp, tsv⟩ : ∃ sp svs, sv = .ref sp ∧ H sp = some (.tup svs) ∧ Tps H svs (codes.map codeD) := by
      cases tp with
      | tup a b => exact ⟨_, _, rfl, a, b⟩
    have hsl : svs.length = codes.length := by rw [tsv.length, List.length_map]
    have hc3 := co.1
    refine ⟨(by show 0 ≤ sizeLine; decide), fun F nF => ?_⟩
    have kF : Kp [] H (upd H F (.lst [])) := (Kp.refl [] H).new nF
    refine ⟨_, rfl, sp, svs, rfl, .inr (.of (kF.tk _ _ hsp)), svs.length, rfl, by omega, by omega, ?_⟩
    rw [hsl]
    refine for_range (n := codes.length) (fun i σ H' => ∃ k' acc later cells own rest, σ = [some (.ref d), some (.ref sp), some (.ref ml), some (.ref vl), some (.ref F), k', later, cells, own, rest] ∧ Kp [F] (upd H F (.lst [])) H' ∧ H' F = some (.lst acc) ∧
      Tps H' acc ((parts pl codes (behind pl codes (n - 1)) g i).map natsD)) ⟨_, [], _, _, _, _, rfl, Kp.refl _ _, upd_same, .nil⟩ (fun i σ Hs hi h => ?_) (fun σ H' h => ?_)
    · obtain ⟨k', acc, later, cells, own, rest, rfl, kk, hF, ta⟩ := h
      have kHs : Kp [] H Hs := ((kF.mono (S' := [F]) (by simp)).trans kk).drop (fun b hb => .inr (by rw [List.mem_singleton.mp hb]; exact nF))
      have hfl : fp.length ≤ 3 := by rw [ms.len, ok.len]; exact hc3
      have hpcs : ∀ m ∈ g.ms, m.pc ≤ 900 := fun m hm => by
        obtain ⟨j, hj⟩ := List.mem_iff_getElem?.mp hm
        have hjl : j < codes.length := by rw [← ok.len]; exact (List.getElem?_eq_some_iff.mp hj).1
        have h1 := ok.pcs j _ _ (List.getElem?_eq_getElem hjl) hj
        have h2 := (co.2.2 _ (List.getElem_mem hjl)).1
        omega
      have e0 : (0 : Int) + (i : Int) = (i : Int) := by omega
      rw [e0]
      dsimp only [gName, tSeq, tPar, tCons, List.set, List.map]
      refine copies (ms := g.ms) (kHs.lst hml (by simp)) (ms.kp kHs) hpcs (by omega) fun L fps H1 k1 nL hL ms1 nd1 fr1 => ?_
      have hvl1 := (kHs.trans k1).lst hvl (by simp)
      refine ⟨_, rfl, vl, _, rfl, .inl (.of hvl1), fun cl ncl => ⟨_, _, rfl, ?_⟩⟩
      have k2 := k1.new (o := .lst (g.c.map V.int)) ncl
      have k12 := (Kp.refl [] H1).new (o := .lst (g.c.map V.int)) ncl
      have hcode : codes[i]? = some codes[i] := List.getElem?_eq_getElem hi
      have him : i < g.ms.length := by rw [ok.len]; exact hi
      have hmm : g.ms[i]? = some g.ms[i] := List.getElem?_eq_getElem him
      have hif : i < fps.length := by rw [ms1.len]; exact him
      have hpp : fps[i]? = some fps[i] := List.getElem?_eq_getElem hif
      have ms2 := ms1.kp k12
      have hL2 := k12.lst hL (by simp)
      have hcl2 : (upd H1 cl (.lst (g.c.map V.int)) : Hp) cl = some (.lst (g.c.map V.int)) := upd_same
      have hsp2 := (kHs.trans k2).tk _ _ hsp
      have tsv2 := Tps.keep (kHs.trans k2).tk _ _ tsv
      have md2 := md.kp (kHs.trans k2) (by simp)
      have hcn : ∀ a, H1 a ≠ none → a ≠ cl := fun a z e => z (by rw [e]; exact ncl)
      have nLcl : L ≠ cl := hcn L (by rw [hL]; exact fun z => by cases z)
      obtain ⟨cv, hcv, tcv⟩ := tsv2.get (i := i) (d := codeD codes[i]) (by rw [List.getElem?_map, hcode]; rfl)
      have okc := co.2.2 _ (List.getElem_mem hi)
      have hle : codes[i].length - g.ms[i].pc ≤ meas codes g := measL_get hcode hmm
      have hsm := ok.small
      have lmi := ms2.at_ i _ _ hpp hmm
      have EK := evK_eq (pl := pl) hcode hmm
      have okk := evK_ok co ok hi
      generalize (upd H1 cl (.lst (g.c.map V.int)) : Hp) = H2 at k2 k12 ms2 hL2 hcl2 hsp2 tsv2 md2 tcv lmi ⊢
      refine ⟨_, rfl, _, rfl, _, rfl, sp, svs, _, cv, rfl, rfl, .of hsp2, atI_nat hcv, _, rfl, _, rfl, L, _, _, .ref fps[i].1, rfl, rfl, .of hL2, atI_nat (by rw [List.getElem?_map, hpp]; rfl), _, rfl,
        d, fps[i].1, fps[i].2, cv, cl, pl, g.ms[i], g.c, codes[i], 12 - meas codes g, rfl, md2, lmi, tcv, okc, hcl2, ok.cells, ok.bd _ (List.getElem_mem him), by omega, by omega, ok.pcs i _ _ hcode hmm, fun H3 v k3 l3 h3 r1 r2 => ?_⟩
      have fr2 : ∀ a ∈ flat fps, Hs a = none := fr1
      have m1 : fps[i].1 ∈ flat fps := mem_flat.mpr ⟨fps[i], List.getElem_mem hif, .inl rfl⟩
      have m2 : fps[i].2 ∈ flat fps := mem_flat.mpr ⟨fps[i], List.getElem_mem hif, .inr rfl⟩
      have ks3 : Kp [] Hs H3 := ((k2.mono (S' := [fps[i].1, fps[i].2, cl]) (by simp)).trans k3).drop fun b hb => .inr (by
        simp at hb
        obtain rfl | rfl | rfl := hb
        · exact fr2 _ m1
        · exact fr2 _ m2
        · exact k1.dom _ ncl)
      have kF3 : Kp [F] (upd H F (.lst [])) H3 := kk.trans (ks3.mono (by simp))
      have hF3 := ks3.lst hF (by simp)
      have ta3 := Tps.keep ks3.tk _ _ ta
      refine ⟨rfl, _, rfl, ?_⟩
      cases hev : (evM pl codes[i] (fuel codes[i]) g.ms[i] g.c).2.2 with
      | false =>
        rw [r2 hev]
        refine iteF ?_
        refine ⟨_, acc, _, _, _, _, rfl, kF3, hF3, ?_⟩
        rw [parts_succ, EK, if_neg (by rw [hev]; exact Bool.false_ne_true), List.append_nil]
        exact ta3
      | true =>
        obtain ⟨t, rfl⟩ := r1 hev
        refine iteT ?_
        have hmeas := okk.2.2 (by rw [EK]; exact hev)
        have hL3 : H3 L = some (.lst (fps.map fun p => V.ref p.1)) := by
          obtain ⟨⟨fl, g1⟩, ⟨kvs, g2, _⟩, _⟩ := id lmi
          refine k3.lst hL2 ?_
          have n1 : L ≠ fps[i].1 := ne_of hL2 g1 (fun z => by cases z)
          have n2 : L ≠ fps[i].2 := ne_of hL2 g2 (fun z => by cases z)
          simp [n1, n2, nLcl]
        have ms3 : MsAt H3 fps (evK pl codes i g).1.ms := by
          rw [EK]
          refine ⟨by rw [List.length_set]; exact ms1.len, fun j q m hq hmj => ?_⟩
          by_cases e : i = j
          · subst e
            rw [List.getElem?_set_self him] at hmj
            cases hmj
            rw [hpp] at hq
            cases hq
            exact l3
          · rw [List.getElem?_set_ne e] at hmj
            have apart := flat_apart nd1 hpp hq e
            have lj := ms1.at_ j q m hq hmj
            obtain ⟨⟨fl, g1⟩, ⟨kvs, g2, _⟩, _⟩ := id lj
            have c1 : q.1 ≠ cl := hcn _ (by rw [g1]; exact fun z => by cases z)
            have c2 : q.2 ≠ cl := hcn _ (by rw [g2]; exact fun z => by cases z)
            exact (ms2.at_ j q m hq hmj).kp k3 (by simp [(apart q.1 (.inl rfl)).1, (apart q.1 (.inl rfl)).2, c1]) (by simp [(apart q.2 (.inr rfl)).1, (apart q.2 (.inr rfl)).2, c2])
        have h3' : H3 cl = some (.lst ((evK pl codes i g).1.c.map V.int)) := by rw [EK]; exact h3
        have k03 : Kp [] H H3 := kHs.trans ks3
        have hbl := behind_len (pl := pl) hc3 (n - 1) (evK pl codes i g).1
        have p10 : (3 : Nat) ^ (n - 1) ≤ 3 ^ 10 := Nat.pow_le_pow_right (by decide) (by omega)
        have hsz := sizeLine_eq
        refine ⟨_, rfl, .inl ⟨rfl, _, .inl (.inl hF3)⟩, rests (L := behind pl codes (n - 1) (evK pl codes i g).1) (fun r hr => by have := (behind_in _ _ r hr).1; omega) (by omega)
          (fun Q' hQ' => ⟨d, .ref sp, L, cl, pl, codes, (evK pl codes i g).1, fps, rfl, md.kp k03 (by simp), Tp.keep k03.tk _ _ tp, co, okk.1, by omega, hL3, ms3, h3', hQ'⟩) fun D2 acc2 H4 k4 nD2 hD2 t2 => ?_⟩
        have hF4 := k4.lst hF3 (by simp)
        have hb1 : acc.length ≤ 3 * 3 ^ 10 := by
          rw [ta.length, List.length_map]
          refine Nat.le_trans (parts_len (b := 3 ^ (n - 1)) fun g => behind_len hc3 (n - 1) g) (Nat.mul_le_mul (by omega) p10)
        have hb2 : acc2.length ≤ 3 ^ 10 := by
          rw [t2.length, List.length_map, List.length_map]
          omega
        refine ⟨F, D2, acc, acc2, rfl, rfl, hF4, hD2, by omega, _, acc ++ acc2, _, _, _, _, rfl, (kF3.trans (k4.mono (by simp))).put (by simp) hF4 (fun _ z => by cases z), upd_same, ?_⟩
        rw [parts_succ, if_pos (by rw [EK]; exact hev), List.map_append]
        have kz : TK H4 (upd H4 F (.lst (acc ++ acc2))) := fun c ys z => by
          rw [upd_ne (ne_of z hF4 (fun z => by cases z))]
          exact z
        exact (Tps.keep kz _ _ (Tps.keep k4.tk _ _ ta3)).append (Tps.keep kz _ _ t2)
    · obtain ⟨k', acc, later, cells, own, rest, rfl, kk, hF, ta⟩ := h
      have kH : Kp [] H H' := ((kF.mono (S' := [F]) (by simp)).trans kk).drop (fun b hb => .inr (by rw [List.mem_singleton.mp hb]; exact nF))
      have step := behind_step co ok (n := n) (by omega)
      refine ⟨_, rfl, (by show 0 ≤ sizeLine; decide), fun z nz => ?_⟩
      have kz := (Kp.refl [] H').new (o := .lst []) nz
      have hFz := kz.lst hF (by simp)
      refine ⟨_, _, .lst (.of hFz) (Tps.dp _ _ (Tps.keep kz.tk _ _ ta)), .lst (.of upd_same) .nil, nats_shaped _, rfl, _, rfl, ?_⟩
      rw [list_eqv_nil]
      cases hp : parts pl codes (behind pl codes (n - 1)) g codes.length with
      | nil =>
        refine iteF ⟨(by show 0 ≤ sizeLine; decide), fun t nt => ⟨(by show 1 ≤ sizeLine; decide), fun q nq => ?_⟩⟩
        have kt := kz.new (o := .tup []) nt
        have kq := kt.new (o := .lst [.ref t]) nq
        refine k q [.ref t] _ (kH.trans kq) (kH.dom _ (kt.dom _ nq)) upd_same ?_
        rw [Nat.add_sub_cancel, step, if_pos hp]
        have ntq : t ≠ q := ne_of_none upd_same nq
        exact .cons (.tup ((upd_ne ntq).trans upd_same) .nil) .nil
      | cons x xs =>
        refine iteT ⟨_, rfl, ?_⟩
        refine k F acc _ (kH.trans kz) nF hFz ?_
        rw [Nat.add_sub_cancel, step, if_neg (by rw [hp]; simp)]
        exact Tps.keep kz.tk _ _ ta
end
end Ork
end
section
set_option Elab.async false
set_option linter.all false
set_option maxRecDepth 100000
set_option pp.maxSteps 3000
namespace Ork
open PySem L2 PySem.Spec PyProof.Rows

def kCells : Key := .inr "cells"
def kRest : Key := .inr "rest"
def kUsed : Key := .inr "used"
def kDraws : Key := .inr "draws"
def srcK (cl : Addr) (r u d : Int) : List (Key × V) := [(kCells, .ref cl), (kRest, .int r), (kUsed, .int u), (kDraws, .int d)]
theorem q12 : ¬ kCells = kRest := by decide +kernel
theorem q13 : ¬ kCells = kUsed := by decide +kernel
theorem q14 : ¬ kCells = kDraws := by decide +kernel
theorem q23 : ¬ kRest = kUsed := by decide +kernel
theorem q24 : ¬ kRest = kDraws := by decide +kernel
theorem q34 : ¬ kUsed = kDraws := by decide +kernel
section
variable {cl : Addr} {r u d x : Int}
theorem src_cells : valV (srcK cl r u d) kCells = some (.ref cl) := valV_pos rfl
theorem src_rest : valV (srcK cl r u d) kRest = some (.int r) := (valV_neg q12).trans (valV_pos rfl)
theorem src_used : valV (srcK cl r u d) kUsed = some (.int u) := (valV_neg q13).trans ((valV_neg q23).trans (valV_pos rfl))
theorem src_draws : valV (srcK cl r u d) kDraws = some (.int d) := (valV_neg q14).trans ((valV_neg q24).trans ((valV_neg q34).trans (valV_pos rfl)))
theorem put_rest : putK (srcK cl r u d) kRest (.int x) = srcK cl x u d := by
  unfold putK
  rw [if_pos (by rw [valV_any, src_rest]; rfl)]
  unfold srcK
  simp only [List.map_cons, List.map_nil, if_neg q12, if_neg (Ne.symm q23), if_neg (Ne.symm q24), if_true]
theorem put_used : putK (srcK cl r u d) kUsed (.int x) = srcK cl r x d := by
  unfold putK
  rw [if_pos (by rw [valV_any, src_used]; rfl)]
  unfold srcK
  simp only [List.map_cons, List.map_nil, if_neg q13, if_neg q23, if_neg (Ne.symm q34), if_true]
theorem put_draws : putK (srcK cl r u d) kDraws (.int x) = srcK cl r u x := by
  unfold putK
  rw [if_pos (by rw [valV_any, src_draws]; rfl)]
  unfold srcK
  simp only [List.map_cons, List.map_nil, if_neg q14, if_neg q24, if_neg q34, if_true]
end
theorem msrc {a b c d : V} : mergeK [] [(kCells, a), (kRest, b), (kUsed, c), (kDraws, d)] = [(kCells, a), (kRest, b), (kUsed, c), (kDraws, d)] := by
  unfold mergeK
  simp only [List.foldl_cons, List.foldl_nil]
  rw [putK_new a valV_nil]
  rw [putK_new b (by show valV [(kCells, a)] kRest = none; rw [valV_neg q12, valV_nil])]
  rw [putK_new c (by show valV [(kCells, a), (kRest, b)] kUsed = none; rw [valV_neg q13, valV_neg q23, valV_nil])]
  rw [putK_new d (by show valV [(kCells, a), (kRest, b), (kUsed, c)] kDraws = none; rw [valV_neg q14, valV_neg q24, valV_neg q34, valV_nil])]
  rfl
/-- the source of draws -/
structure Src (H : Hp) (o cl : Addr) (n : Nat) : Prop where
  ex : ∃ (cs : List Int) (r u d : Int), H o = some (.dK (srcK cl r u d)) ∧ H cl = some (.lst (cs.map V.int)) ∧ 0 ≤ u ∧ 0 ≤ d ∧ d ≤ n
  ne : o ≠ cl
theorem Src.kp {H H' : Hp} {o cl : Addr} {n : Nat} {S : List Addr} (h : Src H o cl n) (k : Kp S H H') (h1 : o ∉ S) (h2 : cl ∉ S) : Src H' o cl n := by
  obtain ⟨⟨cs, r, u, d, e1, e2, e3⟩, ne⟩ := h
  exact ⟨⟨cs, r, u, d, k.same _ _ e1 h1, k.same _ _ e2 h2, e3⟩, ne⟩
theorem Src.mono {H : Hp} {o cl : Addr} {n m : Nat} (h : Src H o cl n) (l : n ≤ m) : Src H o cl m := by
  obtain ⟨⟨cs, r, u, d, e1, e2, e3, e4, e5⟩, ne⟩ := h
  exact ⟨⟨cs, r, u, d, e1, e2, e3, e4, by omega⟩, ne⟩
theorem ints_shaped (l : List Int) : SeqAt.shaped (.list (l.map PyData.int)) = true := by
  have h1 := ints_depth l
  show (PyData.canLay0 (.list (l.map PyData.int)) && decide (PyData.depth (.list (l.map PyData.int)) ≤ 64)) = true
  rw [Bool.and_eq_true]
  refine ⟨by simp only [PyData.canLay0]; exact ints_lay l, decide_eq_true ?_⟩
  simp only [PyData.depth]
  omega
theorem cut_ints (l : List Int) (lo hi : Option Int) : ∃ m : List Int, cutV (l.map V.int) lo hi = m.map V.int := ⟨_, by unfold cutV; rw [← List.map_drop, ← List.map_take]⟩
def spSource (K : PySem.W.Frag) : Sp := fun vs H Q _ => ∃ (a : Addr) (ns : List Int), vs = [.ref a] ∧ SqL K H a (ns.map V.int) ∧ ∀ o cl H', Kp [] H H' → H o = none → H cl = none → Src H' o cl 0 → Q (.ref o) H'
def spNext : Sp := fun vs H Q _ => ∃ o cl lim n, vs = [.ref o, .int lim] ∧ Src H o cl n ∧ n ≤ 100000 ∧ 1 ≤ lim ∧ lim ≤ 1000 ∧ ∀ H' v, Kp [o] H H' → Src H' o cl (n + 1) → 0 ≤ v → v < lim → Q (.int v) H'
section
variable {P : Program} {w : World} {base : Heap} {mg : Str → Option Value} {K : PySem.W.Frag}
theorem ok_source {f : Addr} {fd : FuncData} (D : Def K mg "_law_source" sLSource ["_law_script"] f fd) : Has P w K mg base "_law_source" 1 ["_law_script"] (spSource K) := by
  refine D.has (D.fn.ok scLSource (fun vs H Q E h => ?_) (fun cdv A outer s H vs Q E hr h => ?_))
  · obtain ⟨_, _, rfl, _⟩ := h
    rfl
  · obtain ⟨a, ns, rfl, ha, k⟩ := h
    have hu := hu_of hr
    refine ⟨_, pss_one (ps_ret (pe_disp (pps_cons pe_str (pe_slice sl_list (pv 0) po_none (po_some pe_int)) (pps_cons pe_str pe_int (pps_cons pe_str pe_int (pps_cons pe_str pe_int pps_nil)))) (by rfl) (by rfl) (fun z => by cases z) (by decide))), ?_⟩
    intro p np
    have kp := (Kp.refl [] H).new (o := .dK []) np
    have ha2 : SqL K (upd H p (.dK [])) a (ns.map V.int) := Same.seq (fun b o e => kp.same b o e (by simp)) ha
    refine ⟨_, rfl, _, rfl, a, _, rfl, ha2, fun q nq => ?_⟩
    have n1 : p ≠ q := ne_of_none upd_same nq
    obtain ⟨cs, hcs⟩ := cut_ints ns none (some 63)
    refine ⟨(upd_ne n1).trans upd_same, [(kCells, .ref q), (kRest, .int 0), (kUsed, .int 0), (kDraws, .int 0)], rfl, (by show 4 ≤ 15; decide), ?_⟩
    rw [msrc]
    have kq := kp.new (o := .lst (cutV (ns.map V.int) none (some 63))) nq
    have ko := (kq.mono (S' := [p]) (by simp)).put (o := .dK (srcK q 0 0 0)) (p := p) (by simp) ((upd_ne n1).trans upd_same) (fun _ z => by cases z)
    exact k p q _ (ko.drop (T := []) (fun b hb => .inr (by rw [List.mem_singleton.mp hb]; exact np))) np (kp.dom _ nq) ⟨⟨cs, 0, 0, 0, upd_same, (upd_ne n1.symm).trans (by rw [upd_same, hcs]), by decide, by decide, by decide⟩, n1⟩
theorem ok_next {f : Addr} {fd : FuncData} (B : Bn mg) (D : Def K mg "_law_next" sLNext ["_law_source_here", "_law_limit"] f fd) : Has P w K mg base "_law_next" 1 ["_law_source_here", "_law_limit"] spNext := by
  refine D.has (D.fn.ok scLNext (fun vs H Q E h => ?_) (fun cdv A outer s H vs Q E hr h => ?_))
  · obtain ⟨_, _, _, _, rfl, _⟩ := h
    rfl
  · obtain ⟨o, cl, lim, n, rfl, sr, hn, h1, h2, k⟩ := h
    have hu := hu_of hr
    have nd := scLNext.nd
    refine ⟨_, pss_cons (ps_set (i := 2) nd rfl (.inl rfl) (pe_dget hu (pv 0) pe_str (fun _ _ => rfl)))
      (pss_cons (ps_dput hu (pv 0) pe_str (pe_op op_add (pv 2) pe_int) rfl)
      (pss_cons (ps_if (pt_cmpR op_gt (pe_dget hu (pv 0) pe_str (fun _ _ => rfl)) pe_int (nomark _))
        (pss_cons (ps_set (i := 3) nd rfl (.inl rfl) (pe_op op_mod (pe_callTy call_int1 (by rfl) B.int (by decide +kernel) (pa_cons (pe_dget hu (pv 0) pe_str (fun _ _ => rfl)) pa_nil)) (pv 1)))
        (pss_cons (ps_dput hu (pv 0) pe_str (pe_op op_fdiv (pe_dget hu (pv 0) pe_str (fun _ _ => rfl)) (pv 1)) rfl)
        (pss_one (ps_ret (pv 3))))) pss_nil)
      (pss_cons (ps_set (i := 4) nd rfl (.inl rfl) (pe_dget hu (pv 0) pe_str (fun _ _ => rfl)))
      (pss_cons (ps_dput hu (pv 0) pe_str (pe_op op_add (pv 4) pe_int) rfl)
      (pss_cons (ps_set (i := 5) nd rfl (.inl rfl) pe_int)
      (pss_cons (ps_if (pt_cmpR (op_neD hr.units) (pe_dget hu (pv 0) pe_str (fun _ _ => rfl)) (pe_lst pa_nil) (nomark _))
        (pss_one (ps_set (i := 5) nd rfl (.inl rfl) (pe_ix ix_list (pe_dget hu (pv 0) pe_str (fun _ _ => rfl)) (pe_op op_mod (pe_callTy call_int1 (by rfl) B.int (by decide +kernel) (pa_cons (pv 4) pa_nil)) (pe_callB call_len_seq (by rfl) B.len PySem.boot_len (pa_cons (pe_dget hu (pv 0) pe_str (fun _ _ => rfl)) pa_nil))) (fun _ _ => rfl)))) pss_nil)
      (pss_cons (ps_if (PW.pt (pw_and (pt_cmpR op_ge (pv 5) (pe_op op_pow pe_int pe_int) (nomark _)) (pw_and1 (pt_cmpR op_lt (pv 4) (pe_callB call_len_seq (by rfl) B.len PySem.boot_len (pa_cons (pe_dget hu (pv 0) pe_str (fun _ _ => rfl)) pa_nil)) (nomark _)))))
        (pss_cons (ps_dput hu (pv 0) pe_str (pe_op op_fdiv (pv 5) (pv 1)) rfl)
        (pss_one (ps_ret (pe_op op_mod (pe_callTy call_int1 (by rfl) B.int (by decide +kernel) (pa_cons (pv 5) pa_nil)) (pv 1))))) pss_nil)
      (pss_cons (ps_set (i := 6) nd rfl (.inl rfl) (pe_op op_add (pe_op op_add (pe_op op_add (pe_op op_mod (pe_callTy call_int1 (by rfl) B.int (by decide +kernel) (pa_cons (pv 5) pa_nil)) pe_int) (pe_op op_mul (pe_op op_mul pe_int (pv 2)) (pv 2))) (pe_op op_mul pe_int (pv 2))) pe_int))
      (pss_cons (ps_set (i := 6) nd rfl (.inl rfl) (pe_op op_mod (pe_callTy call_int1 (by rfl) B.int (by decide +kernel) (pa_cons (pe_op op_add (pe_op op_add (pe_op op_mul (pv 6) (pv 6)) (pe_op op_mul pe_int (pv 2))) pe_int) pa_nil)) pe_int))
      (pss_one (ps_ret (pe_op op_mod (pe_callTy call_int1 (by rfl) B.int (by decide +kernel) (pa_cons (pe_op op_fdiv (pe_op op_mod (pe_callTy call_int1 (by rfl) B.int (by decide +kernel) (pa_cons (pe_op op_add (pe_op op_mul (pv 6) (pv 6)) (pe_op op_mul pe_int (pv 6))) pa_nil)) pe_int) pe_int) pa_nil)) (pv 1))))))))))))), ?_⟩
    obtain ⟨⟨cs, r, u, dd, e1, e2, hu0, hd0, hdn⟩, ne⟩ := id sr
    have hl0 : (0 : Int) < lim := by omega
    have hl1 : (0 : Int) < lim ∧ lim < 1073741824 := ⟨by omega, by omega⟩
    have l4 : (4 : Nat) < sizeLine := by decide
    -- the source with any three numbers
    have at_ : ∀ (r' u' d' : Int), (upd H o (.dK (srcK cl r' u' d')) : Hp) o = some (.dK (srcK cl r' u' d')) := fun _ _ _ => upd_same
    have cl_ : ∀ (r' u' d' : Int), (upd H o (.dK (srcK cl r' u' d')) : Hp) cl = some (.lst (cs.map V.int)) := fun _ _ _ => (upd_ne ne.symm).trans e2
    have kp_ : ∀ (r' u' d' : Int), Kp [o] H (upd H o (.dK (srcK cl r' u' d'))) := fun r' u' d' => (Kp.refl [o] H).put (by simp) e1 (fun _ z => by cases z)
    have fin : ∀ (r' u' : Int) (v : Int) (H' : Hp), 0 ≤ u' → Kp [o] (upd H o (.dK (srcK cl r' u' (dd + 1)))) H' → H' o = some (.dK (srcK cl r' u' (dd + 1))) → H' cl = some (.lst (cs.map V.int)) → 0 ≤ v → v < lim → Q (.int v) H' := fun r' u' v H' h0 kk g1 g2 g3 g4 =>
      k _ _ ((kp_ r' u' (dd + 1)).trans kk) ⟨⟨cs, r', u', dd + 1, g1, g2, h0, by omega, by omega⟩, ne⟩ g3 g4
    refine ⟨_, rfl, o, _, rfl, dget (k := kDraws) e1 src_draws, _, rfl, _, _, rfl, rfl, _, rfl, o, _, rfl, DPut.k (k := kDraws) e1 l4, ?_⟩
    rw [put_draws]
    refine ⟨_, rfl, o, _, rfl, dget (k := kRest) (at_ _ _ _) src_rest, _, _, rfl, rfl, _, rfl, ite2 (fun _ => ?_) (fun _ => ?_)⟩
    · refine ⟨_, rfl, o, _, rfl, dget (k := kRest) (at_ _ _ _) src_rest, .inl ⟨_, rfl, _, rfl, _, _, rfl, rfl, hl0, ?_⟩⟩
      refine ⟨_, rfl, o, _, rfl, dget (k := kRest) (at_ _ _ _) src_rest, _, rfl, _, _, rfl, rfl, hl1, _, rfl, o, _, rfl, DPut.k (k := kRest) (at_ _ _ _) l4, ?_⟩
      rw [put_rest, upd_upd]
      exact ⟨_, rfl, fin _ _ _ _ hu0 (Kp.refl _ _) (at_ _ _ _) (cl_ _ _ _) (Int.emod_nonneg _ (by omega)) (Int.emod_lt_of_pos _ hl0)⟩
    · refine ⟨_, rfl, o, _, rfl, dget (k := kUsed) (at_ _ _ _) src_used, _, rfl, _, _, rfl, rfl, _, rfl, o, _, rfl, DPut.k (k := kUsed) (at_ _ _ _) l4, ?_⟩
      rw [put_used, upd_upd]
      refine ⟨_, rfl, o, _, rfl, dget (k := kCells) (at_ _ _ _) src_cells, (by show 0 ≤ sizeLine; decide), fun z nz => ?_⟩
      have kz := (Kp.refl [o] (upd H o (.dK (srcK cl r (u + 1) (dd + 1))))).new (o := .lst []) nz
      have oz := (upd_ne (ne_of_none (at_ r (u + 1) (dd + 1)) nz) : (upd (upd H o (.dK (srcK cl r (u + 1) (dd + 1)))) z (.lst []) : Hp) o = _).trans (at_ _ _ _)
      have clz := (upd_ne (ne_of_none (cl_ r (u + 1) (dd + 1)) nz) : (upd (upd H o (.dK (srcK cl r (u + 1) (dd + 1)))) z (.lst []) : Hp) cl = _).trans (cl_ _ _ _)
      refine ⟨_, _, .lst (.of clz) (Tps.dp _ _ (Tps.ints cs)), .lst (.of upd_same) .nil, ints_shaped _, rfl, _, rfl, ?_⟩
      generalize (upd (upd H o (.dK (srcK cl r (u + 1) (dd + 1)))) z (.lst []) : Hp) = Hz at kz oz clz ⊢
      have kzo : Kp [o] H Hz := (kp_ _ _ _).trans kz
      rw [list_eqv_nil]
      have fin2 : ∀ (v : Int), 0 ≤ v → v < lim → Q (.int v) Hz := fun v g3 g4 => fin r (u + 1) v Hz (by omega) kz oz clz g3 g4
      have dB : -(2 ^ 64) < dd ∧ dd < 2 ^ 64 := ⟨by omega, by omega⟩
      have hdd : 0 ≤ dd * dd ∧ dd * dd ≤ 100000 * 100000 := ⟨Int.mul_nonneg hd0 hd0, Int.mul_le_mul (by omega) (by omega) hd0 (by omega)⟩
      have e14 : (14029 * dd) * dd = 14029 * (dd * dd) := Int.mul_assoc _ _ _
      have mB : ∀ c : Int, -(2 ^ 64) < c % 2147483587 + 14029 * dd * dd + 5503 * dd + 1019 ∧ c % 2147483587 + 14029 * dd * dd + 5503 * dd + 1019 < 2 ^ 64 := fun c => by
        have h1 := Int.emod_nonneg c (b := 2147483587) (by decide)
        have h2 := Int.emod_lt_of_pos c (b := 2147483587) (by decide)
        rw [e14]
        omega
      have nB : ∀ c : Int, -(2 ^ 64) < c % 2147483549 ∧ c % 2147483549 < 2 ^ 64 := fun c => by
        have h1 := Int.emod_nonneg c (b := 2147483549) (by decide)
        have h2 := Int.emod_lt_of_pos c (b := 2147483549) (by decide)
        omega
      cases hcs : (cs.map PyData.int).isEmpty with
      | true =>
        refine iteF ?_
        refine ⟨_, rfl, _, _, rfl, rfl, ⟨by decide, by decide, by decide⟩, _, _, rfl, rfl, _, rfl, ite2 (fun _ => ?_) (fun _ => ?_)⟩
        · refine ⟨_, rfl, _, rfl, o, _, rfl, dget (k := kCells) oz src_cells, cl, _, rfl, .inl (.of clz), _, _, rfl, rfl, _, rfl, ite2 (fun _ => ?_) (fun _ => ?_)⟩
          · refine ⟨_, rfl, _, rfl, _, _, rfl, rfl, hl1, _, rfl, o, _, rfl, DPut.k (k := kRest) oz l4, ?_⟩
            rw [put_rest]
            refine ⟨_, rfl, .inl ⟨_, rfl, _, rfl, _, _, rfl, rfl, hl0, ?_⟩⟩
            exact k _ _ (kzo.put (by simp) oz (fun _ z => by cases z)) ⟨⟨cs, _, u + 1, dd + 1, upd_same, (upd_ne ne.symm).trans clz, by omega, by omega, by omega⟩, ne⟩ (Int.emod_nonneg _ (by omega)) (Int.emod_lt_of_pos _ hl0)
          · skip
            refine ⟨_, rfl, .inl ⟨_, rfl, _, _, rfl, rfl, (by show (0 : Int) < 2147483587; decide), _, rfl, _, _, rfl, rfl, .inl ⟨by decide, by decide⟩, _, rfl, _, _, rfl, rfl, .inr dB, _, _, rfl, rfl, _, rfl, _, _, rfl, rfl, .inl ⟨by decide, by decide⟩, _, _, rfl, rfl, _, _, rfl, rfl, ?_⟩⟩
            refine ⟨_, rfl, _, rfl, _, _, rfl, rfl, .inl (mB 1213), _, rfl, _, _, rfl, rfl, .inl ⟨by decide, by decide⟩, _, _, rfl, rfl, _, _, rfl, rfl, .inl ⟨_, rfl, _, _, rfl, rfl, (by show (0 : Int) < 2147483549; decide), ?_⟩⟩
            refine ⟨_, rfl, _, rfl, _, _, rfl, rfl, .inl (nB _), _, rfl, _, _, rfl, rfl, .inl ⟨by decide, by decide⟩, _, _, rfl, rfl, .inl ⟨_, rfl, _, _, rfl, rfl, (by show (0 : Int) < 2147483543; decide), _, _, rfl, rfl, ⟨by decide, by decide⟩, .inl ⟨_, rfl, _, rfl, _, _, rfl, rfl, hl0, fin2 _ (Int.emod_nonneg _ (by omega)) (Int.emod_lt_of_pos _ hl0)⟩⟩⟩
        · skip
          refine ⟨_, rfl, .inl ⟨_, rfl, _, _, rfl, rfl, (by show (0 : Int) < 2147483587; decide), _, rfl, _, _, rfl, rfl, .inl ⟨by decide, by decide⟩, _, rfl, _, _, rfl, rfl, .inr dB, _, _, rfl, rfl, _, rfl, _, _, rfl, rfl, .inl ⟨by decide, by decide⟩, _, _, rfl, rfl, _, _, rfl, rfl, ?_⟩⟩
          refine ⟨_, rfl, _, rfl, _, _, rfl, rfl, .inl (mB 1213), _, rfl, _, _, rfl, rfl, .inl ⟨by decide, by decide⟩, _, _, rfl, rfl, _, _, rfl, rfl, .inl ⟨_, rfl, _, _, rfl, rfl, (by show (0 : Int) < 2147483549; decide), ?_⟩⟩
          refine ⟨_, rfl, _, rfl, _, _, rfl, rfl, .inl (nB _), _, rfl, _, _, rfl, rfl, .inl ⟨by decide, by decide⟩, _, _, rfl, rfl, .inl ⟨_, rfl, _, _, rfl, rfl, (by show (0 : Int) < 2147483543; decide), _, _, rfl, rfl, ⟨by decide, by decide⟩, .inl ⟨_, rfl, _, rfl, _, _, rfl, rfl, hl0, fin2 _ (Int.emod_nonneg _ (by omega)) (Int.emod_lt_of_pos _ hl0)⟩⟩⟩
      | false =>
        have hlen : 0 < cs.length := by
          cases cs with
          | nil => cases hcs
          | cons _ _ => exact Nat.succ_pos _
        have hix : ∃ c : Int, atI (cs.map V.int) (u % ((cs.map V.int).length : Int)) = some (.int c) := by
          rw [List.length_map]
          have h1 := Int.emod_nonneg u (b := (cs.length : Int)) (by omega)
          have h2 := Int.emod_lt_of_pos u (b := (cs.length : Int)) (by omega)
          have e : u % (cs.length : Int) = ((u % (cs.length : Int)).toNat : Int) := by omega
          rw [e]
          exact ⟨_, atI_nat (getM (by omega))⟩
        obtain ⟨c, hc⟩ := hix
        refine iteT ⟨_, rfl, o, _, rfl, dget (k := kCells) oz src_cells, _, rfl, .inl ⟨_, rfl, _, rfl, o, _, rfl, dget (k := kCells) oz src_cells, cl, _, rfl, .inl (.of clz), _, _, rfl, rfl, (by rw [List.length_map]; omega), cl, _, _, _, rfl, rfl, .of clz, hc, ?_⟩⟩
        refine ⟨_, rfl, _, _, rfl, rfl, ⟨by decide, by decide, by decide⟩, _, _, rfl, rfl, _, rfl, ite2 (fun _ => ?_) (fun _ => ?_)⟩
        · refine ⟨_, rfl, _, rfl, o, _, rfl, dget (k := kCells) oz src_cells, cl, _, rfl, .inl (.of clz), _, _, rfl, rfl, _, rfl, ite2 (fun _ => ?_) (fun _ => ?_)⟩
          · refine ⟨_, rfl, _, rfl, _, _, rfl, rfl, hl1, _, rfl, o, _, rfl, DPut.k (k := kRest) oz l4, ?_⟩
            rw [put_rest]
            refine ⟨_, rfl, .inl ⟨_, rfl, _, rfl, _, _, rfl, rfl, hl0, ?_⟩⟩
            exact k _ _ (kzo.put (by simp) oz (fun _ z => by cases z)) ⟨⟨cs, _, u + 1, dd + 1, upd_same, (upd_ne ne.symm).trans clz, by omega, by omega, by omega⟩, ne⟩ (Int.emod_nonneg _ (by omega)) (Int.emod_lt_of_pos _ hl0)
          · skip
            refine ⟨_, rfl, .inl ⟨_, rfl, _, _, rfl, rfl, (by show (0 : Int) < 2147483587; decide), _, rfl, _, _, rfl, rfl, .inl ⟨by decide, by decide⟩, _, rfl, _, _, rfl, rfl, .inr dB, _, _, rfl, rfl, _, rfl, _, _, rfl, rfl, .inl ⟨by decide, by decide⟩, _, _, rfl, rfl, _, _, rfl, rfl, ?_⟩⟩
            refine ⟨_, rfl, _, rfl, _, _, rfl, rfl, .inl (mB c), _, rfl, _, _, rfl, rfl, .inl ⟨by decide, by decide⟩, _, _, rfl, rfl, _, _, rfl, rfl, .inl ⟨_, rfl, _, _, rfl, rfl, (by show (0 : Int) < 2147483549; decide), ?_⟩⟩
            refine ⟨_, rfl, _, rfl, _, _, rfl, rfl, .inl (nB _), _, rfl, _, _, rfl, rfl, .inl ⟨by decide, by decide⟩, _, _, rfl, rfl, .inl ⟨_, rfl, _, _, rfl, rfl, (by show (0 : Int) < 2147483543; decide), _, _, rfl, rfl, ⟨by decide, by decide⟩, .inl ⟨_, rfl, _, rfl, _, _, rfl, rfl, hl0, fin2 _ (Int.emod_nonneg _ (by omega)) (Int.emod_lt_of_pos _ hl0)⟩⟩⟩
        · skip
          refine ⟨_, rfl, .inl ⟨_, rfl, _, _, rfl, rfl, (by show (0 : Int) < 2147483587; decide), _, rfl, _, _, rfl, rfl, .inl ⟨by decide, by decide⟩, _, rfl, _, _, rfl, rfl, .inr dB, _, _, rfl, rfl, _, rfl, _, _, rfl, rfl, .inl ⟨by decide, by decide⟩, _, _, rfl, rfl, _, _, rfl, rfl, ?_⟩⟩
          refine ⟨_, rfl, _, rfl, _, _, rfl, rfl, .inl (mB c), _, rfl, _, _, rfl, rfl, .inl ⟨by decide, by decide⟩, _, _, rfl, rfl, _, _, rfl, rfl, .inl ⟨_, rfl, _, _, rfl, rfl, (by show (0 : Int) < 2147483549; decide), ?_⟩⟩
          refine ⟨_, rfl, _, rfl, _, _, rfl, rfl, .inl (nB _), _, rfl, _, _, rfl, rfl, .inl ⟨by decide, by decide⟩, _, _, rfl, rfl, .inl ⟨_, rfl, _, _, rfl, rfl, (by show (0 : Int) < 2147483543; decide), _, _, rfl, rfl, ⟨by decide, by decide⟩, .inl ⟨_, rfl, _, rfl, _, _, rfl, rfl, hl0, fin2 _ (Int.emod_nonneg _ (by omega)) (Int.emod_lt_of_pos _ hl0)⟩⟩⟩
end
end Ork
end
section
set_option Elab.async false
set_option linter.all false
set_option maxRecDepth 100000
set_option pp.maxSteps 3000
namespace Ork
open PySem L2 PySem.Spec PyProof.Rows

def rowSet0 : List Row := [⟨"x", 0, 0, 2, true, false, 0⟩, ⟨"y", 0, 0, 1, false, true, 0⟩]
def rowSet1 : List Row := [⟨"x", 0, 0, 1, true, false, 0⟩, ⟨"y", 0, 0, 1, false, false, 1⟩, ⟨"z", 0, 0, 2, false, true, 0⟩]
def rowSet2 : List Row := [⟨"i", 0, 0, 1, true, false, 0⟩, ⟨"t", 2, 0, 1, false, true, 0⟩, ⟨"x", 0, 0, 1, true, true, 0⟩]
def rowSet3 : List Row := [⟨"x", 0, -1, 1, false, true, 0⟩, ⟨"y", 0, 0, 2, true, false, 0⟩]
def rowSetF : List Row := [⟨"x", 0, 0, 1, true, false, 0⟩, ⟨"y", 0, 0, 1, false, true, 0⟩]
def lawRows : List (List Row) := [rowSet0, rowSet1, rowSet2, rowSet3]
theorem at_top {S : List Addr} {H H' : Hp} {p : Addr} {o : HO} (_ : Kp S H (upd H' p o)) : upd H' p o p = some o := upd_same
theorem TK.new {H : Hp} {t : Addr} {o : HO} (nt : H t = none) : TK H (upd H t o) := fun b xs e => by
  rw [upd_ne (ne_of_none e nt)]
  exact e
theorem TK.put {H : Hp} {l : Addr} {o u : HO} (h : H l = some u) (hu : ∀ xs, u ≠ .tup xs) : TK H (upd H l o) := fun b xs e => by
  rw [upd_ne (ne_of e h (Ne.symm (hu xs)))]
  exact e
theorem Tp.new {H : Hp} {t : Addr} {xs : List V} {ds : List PyData} (nt : H t = none) (h : Tps H xs ds) : Tp (upd H t (.tup xs)) (.ref t) (.tuple ds) := .tup upd_same (Tps.keep (TK.new nt) _ _ h)
def spRows : Sp := fun vs H Q _ => ∃ o cl n, vs = [.ref o] ∧ Src H o cl n ∧ n ≤ 90000 ∧ ∀ H' rv rows, Kp [o] H H' → Src H' o cl (n + 1) → rows ∈ lawRows → Tp H' rv (rowsD rows) → Q rv H'
section
variable {P : Program} {w : World} {base : Heap} {mg : Str → Option Value} {K : PySem.W.Frag}
theorem ok_rows {f : Addr} {fd : FuncData} (D : Def K mg "_law_rows" sLRows ["_law_source_here"] f fd) (hN : Has P w K mg base "_law_next" 1 ["_law_source_here", "_law_limit"] spNext) :
    Has P w K mg base "_law_rows" 2 ["_law_source_here"] spRows := by
  refine D.has (D.fn.ok scLRows (fun vs H Q E h => ?_) (fun cdv A outer s H vs Q E hr h => ?_))
  · obtain ⟨_, _, _, rfl, _⟩ := h
    rfl
  · obtain ⟨o, cl, n, rfl, sr, hn, k⟩ := h
    have hu := hu_of hr
    have nd := scLRows.nd
    refine ⟨_, pss_cons (ps_set (i := 1) nd rfl (.inl rfl) (pe_lst (pa_cons (pe_tup (pa_cons (pe_tup (pa_cons pe_str (pa_cons pe_int (pa_cons pe_int (pa_cons pe_int (pa_cons pe_bl (pa_cons pe_bl (pa_cons pe_int pa_nil)))))))) (pa_cons (pe_tup (pa_cons pe_str (pa_cons pe_int (pa_cons pe_int (pa_cons pe_int (pa_cons pe_bl (pa_cons pe_bl (pa_cons pe_int pa_nil)))))))) pa_nil))) pa_nil)))
      (pss_cons (ps_expr (pe_bm PySem.F.plainAttrs_list PySem.F.slot_list_append PySem.F.type_list_append mt_append (pv 1) (pa_cons (pe_tup (pa_cons (pe_tup (pa_cons pe_str (pa_cons pe_int (pa_cons pe_int (pa_cons pe_int (pa_cons pe_bl (pa_cons pe_bl (pa_cons pe_int pa_nil)))))))) (pa_cons (pe_tup (pa_cons pe_str (pa_cons pe_int (pa_cons pe_int (pa_cons pe_int (pa_cons pe_bl (pa_cons pe_bl (pa_cons pe_int pa_nil)))))))) (pa_cons (pe_tup (pa_cons pe_str (pa_cons pe_int (pa_cons pe_int (pa_cons pe_int (pa_cons pe_bl (pa_cons pe_bl (pa_cons pe_int pa_nil)))))))) pa_nil)))) pa_nil)))
      (pss_cons (ps_expr (pe_bm PySem.F.plainAttrs_list PySem.F.slot_list_append PySem.F.type_list_append mt_append (pv 1) (pa_cons (pe_tup (pa_cons (pe_tup (pa_cons pe_str (pa_cons pe_int (pa_cons pe_int (pa_cons pe_int (pa_cons pe_bl (pa_cons pe_bl (pa_cons pe_int pa_nil)))))))) (pa_cons (pe_tup (pa_cons pe_str (pa_cons pe_int (pa_cons pe_int (pa_cons pe_int (pa_cons pe_bl (pa_cons pe_bl (pa_cons pe_int pa_nil)))))))) (pa_cons (pe_tup (pa_cons pe_str (pa_cons pe_int (pa_cons pe_int (pa_cons pe_int (pa_cons pe_bl (pa_cons pe_bl (pa_cons pe_int pa_nil)))))))) pa_nil)))) pa_nil)))
      (pss_cons (ps_expr (pe_bm PySem.F.plainAttrs_list PySem.F.slot_list_append PySem.F.type_list_append mt_append (pv 1) (pa_cons (pe_tup (pa_cons (pe_tup (pa_cons pe_str (pa_cons pe_int (pa_cons (pe_un un_neg pe_int) (pa_cons pe_int (pa_cons pe_bl (pa_cons pe_bl (pa_cons pe_int pa_nil)))))))) (pa_cons (pe_tup (pa_cons pe_str (pa_cons pe_int (pa_cons pe_int (pa_cons pe_int (pa_cons pe_bl (pa_cons pe_bl (pa_cons pe_int pa_nil)))))))) pa_nil))) pa_nil)))
      (pss_one (ps_ret (pe_ix ix_list (pv 1) (pe_has hN hr rfl (pa_cons (pv 0) (pa_cons pe_int pa_nil))) (fun _ _ => rfl))))))), ?_⟩
    have kk := Kp.refl [] H
    refine ⟨(by show 7 ≤ sizeLine; decide), fun t0 n0 => ?_⟩
    have f0 := Tp.new n0 (H := _) (show Tps _ _ [.str "x", .int 0, .int 0, .int 2, .bool true, .bool false, .int 0] from .cons (.str _) (.cons (.int _) (.cons (.int _) (.cons (.int _) (.cons (.bl _) (.cons (.bl _) (.cons (.int _) .nil)))))))
    have kk := kk.new (o := .tup [.str "x", .int 0, .int 0, .int 2, .bl true, .bl false, .int 0]) n0
    refine ⟨(by show 7 ≤ sizeLine; decide), fun t1 n1 => ?_⟩
    have f0 := Tp.keep (TK.new (o := .tup [.str "y", .int 0, .int 0, .int 1, .bl false, .bl true, .int 0]) n1) _ _ f0
    have f1 := Tp.new n1 (H := _) (show Tps _ _ [.str "y", .int 0, .int 0, .int 1, .bool false, .bool true, .int 0] from .cons (.str _) (.cons (.int _) (.cons (.int _) (.cons (.int _) (.cons (.bl _) (.cons (.bl _) (.cons (.int _) .nil)))))))
    have kk := kk.new (o := .tup [.str "y", .int 0, .int 0, .int 1, .bl false, .bl true, .int 0]) n1
    refine ⟨(by show 2 ≤ sizeLine; decide), fun t2 n2 => ?_⟩
    have g0 : Tp _ _ (rowsD rowSet0) := Tp.new n2 (.cons f0 (.cons f1 .nil))
    have kk := kk.new (o := .tup [.ref t0, .ref t1]) n2
    have k0 := kk
    refine ⟨(by show 1 ≤ sizeLine; decide), fun L nL => ?_⟩
    have g0 := Tp.keep (TK.new (o := .lst [.ref t2]) nL) _ _ g0
    have kk := kk.new (o := .lst [.ref t2]) nL
    have hL := at_top kk
    refine ⟨_, rfl, .inl ⟨rfl, _, .inl (.inl hL)⟩, ?_⟩
    refine ⟨(by show 7 ≤ sizeLine; decide), fun t3 n3 => ?_⟩
    have g0 := Tp.keep (TK.new (o := .tup [.str "x", .int 0, .int 0, .int 1, .bl true, .bl false, .int 0]) n3) _ _ g0
    have f3 := Tp.new n3 (H := _) (show Tps _ _ [.str "x", .int 0, .int 0, .int 1, .bool true, .bool false, .int 0] from .cons (.str _) (.cons (.int _) (.cons (.int _) (.cons (.int _) (.cons (.bl _) (.cons (.bl _) (.cons (.int _) .nil)))))))
    have hL := (upd_ne (ne_of_none hL n3) : (upd _ t3 (.tup [.str "x", .int 0, .int 0, .int 1, .bl true, .bl false, .int 0]) : Hp) L = _).trans hL
    have kk := kk.new (o := .tup [.str "x", .int 0, .int 0, .int 1, .bl true, .bl false, .int 0]) n3
    refine ⟨(by show 7 ≤ sizeLine; decide), fun t4 n4 => ?_⟩
    have g0 := Tp.keep (TK.new (o := .tup [.str "y", .int 0, .int 0, .int 1, .bl false, .bl false, .int 1]) n4) _ _ g0
    have f3 := Tp.keep (TK.new (o := .tup [.str "y", .int 0, .int 0, .int 1, .bl false, .bl false, .int 1]) n4) _ _ f3
    have f4 := Tp.new n4 (H := _) (show Tps _ _ [.str "y", .int 0, .int 0, .int 1, .bool false, .bool false, .int 1] from .cons (.str _) (.cons (.int _) (.cons (.int _) (.cons (.int _) (.cons (.bl _) (.cons (.bl _) (.cons (.int _) .nil)))))))
    have hL := (upd_ne (ne_of_none hL n4) : (upd _ t4 (.tup [.str "y", .int 0, .int 0, .int 1, .bl false, .bl false, .int 1]) : Hp) L = _).trans hL
    have kk := kk.new (o := .tup [.str "y", .int 0, .int 0, .int 1, .bl false, .bl false, .int 1]) n4
    refine ⟨(by show 7 ≤ sizeLine; decide), fun t5 n5 => ?_⟩
    have g0 := Tp.keep (TK.new (o := .tup [.str "z", .int 0, .int 0, .int 2, .bl false, .bl true, .int 0]) n5) _ _ g0
    have f3 := Tp.keep (TK.new (o := .tup [.str "z", .int 0, .int 0, .int 2, .bl false, .bl true, .int 0]) n5) _ _ f3
    have f4 := Tp.keep (TK.new (o := .tup [.str "z", .int 0, .int 0, .int 2, .bl false, .bl true, .int 0]) n5) _ _ f4
    have f5 := Tp.new n5 (H := _) (show Tps _ _ [.str "z", .int 0, .int 0, .int 2, .bool false, .bool true, .int 0] from .cons (.str _) (.cons (.int _) (.cons (.int _) (.cons (.int _) (.cons (.bl _) (.cons (.bl _) (.cons (.int _) .nil)))))))
    have hL := (upd_ne (ne_of_none hL n5) : (upd _ t5 (.tup [.str "z", .int 0, .int 0, .int 2, .bl false, .bl true, .int 0]) : Hp) L = _).trans hL
    have kk := kk.new (o := .tup [.str "z", .int 0, .int 0, .int 2, .bl false, .bl true, .int 0]) n5
    refine ⟨(by show 3 ≤ sizeLine; decide), fun t6 n6 => ?_⟩
    have g0 := Tp.keep (TK.new (o := .tup [.ref t3, .ref t4, .ref t5]) n6) _ _ g0
    have g1 : Tp _ _ (rowsD rowSet1) := Tp.new n6 (.cons f3 (.cons f4 (.cons f5 .nil)))
    have hL := (upd_ne (ne_of_none hL n6) : (upd _ t6 (.tup [.ref t3, .ref t4, .ref t5]) : Hp) L = _).trans hL
    have kk := kk.new (o := .tup [.ref t3, .ref t4, .ref t5]) n6
    refine ⟨L, _, _, rfl, rfl, hL, (by show 1 < sizeLine; decide), ?_⟩
    have tkL := TK.put (o := .lst [.ref t2, .ref t6]) hL (fun _ z => by cases z)
    have g0 := Tp.keep tkL _ _ g0
    have g1 := Tp.keep tkL _ _ g1
    have kk := (kk.mono (S' := [L]) (by simp)).put (o := .lst [.ref t2, .ref t6]) (p := L) (by simp) hL (fun _ z => by cases z) |>.drop (T := []) (fun b hb => .inr (by rw [List.mem_singleton.mp hb]; exact k0.dom _ nL))
    have hL := at_top kk
    refine ⟨_, rfl, .inl ⟨rfl, _, .inl (.inl hL)⟩, ?_⟩
    refine ⟨(by show 7 ≤ sizeLine; decide), fun t7 n7 => ?_⟩
    have g0 := Tp.keep (TK.new (o := .tup [.str "i", .int 0, .int 0, .int 1, .bl true, .bl false, .int 0]) n7) _ _ g0
    have g1 := Tp.keep (TK.new (o := .tup [.str "i", .int 0, .int 0, .int 1, .bl true, .bl false, .int 0]) n7) _ _ g1
    have f7 := Tp.new n7 (H := _) (show Tps _ _ [.str "i", .int 0, .int 0, .int 1, .bool true, .bool false, .int 0] from .cons (.str _) (.cons (.int _) (.cons (.int _) (.cons (.int _) (.cons (.bl _) (.cons (.bl _) (.cons (.int _) .nil)))))))
    have hL := (upd_ne (ne_of_none hL n7) : (upd _ t7 (.tup [.str "i", .int 0, .int 0, .int 1, .bl true, .bl false, .int 0]) : Hp) L = _).trans hL
    have kk := kk.new (o := .tup [.str "i", .int 0, .int 0, .int 1, .bl true, .bl false, .int 0]) n7
    refine ⟨(by show 7 ≤ sizeLine; decide), fun t8 n8 => ?_⟩
    have g0 := Tp.keep (TK.new (o := .tup [.str "t", .int 2, .int 0, .int 1, .bl false, .bl true, .int 0]) n8) _ _ g0
    have g1 := Tp.keep (TK.new (o := .tup [.str "t", .int 2, .int 0, .int 1, .bl false, .bl true, .int 0]) n8) _ _ g1
    have f7 := Tp.keep (TK.new (o := .tup [.str "t", .int 2, .int 0, .int 1, .bl false, .bl true, .int 0]) n8) _ _ f7
    have f8 := Tp.new n8 (H := _) (show Tps _ _ [.str "t", .int 2, .int 0, .int 1, .bool false, .bool true, .int 0] from .cons (.str _) (.cons (.int _) (.cons (.int _) (.cons (.int _) (.cons (.bl _) (.cons (.bl _) (.cons (.int _) .nil)))))))
    have hL := (upd_ne (ne_of_none hL n8) : (upd _ t8 (.tup [.str "t", .int 2, .int 0, .int 1, .bl false, .bl true, .int 0]) : Hp) L = _).trans hL
    have kk := kk.new (o := .tup [.str "t", .int 2, .int 0, .int 1, .bl false, .bl true, .int 0]) n8
    refine ⟨(by show 7 ≤ sizeLine; decide), fun t9 n9 => ?_⟩
    have g0 := Tp.keep (TK.new (o := .tup [.str "x", .int 0, .int 0, .int 1, .bl true, .bl true, .int 0]) n9) _ _ g0
    have g1 := Tp.keep (TK.new (o := .tup [.str "x", .int 0, .int 0, .int 1, .bl true, .bl true, .int 0]) n9) _ _ g1
    have f7 := Tp.keep (TK.new (o := .tup [.str "x", .int 0, .int 0, .int 1, .bl true, .bl true, .int 0]) n9) _ _ f7
    have f8 := Tp.keep (TK.new (o := .tup [.str "x", .int 0, .int 0, .int 1, .bl true, .bl true, .int 0]) n9) _ _ f8
    have f9 := Tp.new n9 (H := _) (show Tps _ _ [.str "x", .int 0, .int 0, .int 1, .bool true, .bool true, .int 0] from .cons (.str _) (.cons (.int _) (.cons (.int _) (.cons (.int _) (.cons (.bl _) (.cons (.bl _) (.cons (.int _) .nil)))))))
    have hL := (upd_ne (ne_of_none hL n9) : (upd _ t9 (.tup [.str "x", .int 0, .int 0, .int 1, .bl true, .bl true, .int 0]) : Hp) L = _).trans hL
    have kk := kk.new (o := .tup [.str "x", .int 0, .int 0, .int 1, .bl true, .bl true, .int 0]) n9
    refine ⟨(by show 3 ≤ sizeLine; decide), fun t10 n10 => ?_⟩
    have g0 := Tp.keep (TK.new (o := .tup [.ref t7, .ref t8, .ref t9]) n10) _ _ g0
    have g1 := Tp.keep (TK.new (o := .tup [.ref t7, .ref t8, .ref t9]) n10) _ _ g1
    have g2 : Tp _ _ (rowsD rowSet2) := Tp.new n10 (.cons f7 (.cons f8 (.cons f9 .nil)))
    have hL := (upd_ne (ne_of_none hL n10) : (upd _ t10 (.tup [.ref t7, .ref t8, .ref t9]) : Hp) L = _).trans hL
    have kk := kk.new (o := .tup [.ref t7, .ref t8, .ref t9]) n10
    refine ⟨L, _, _, rfl, rfl, hL, (by show 2 < sizeLine; decide), ?_⟩
    have tkL := TK.put (o := .lst [.ref t2, .ref t6, .ref t10]) hL (fun _ z => by cases z)
    have g0 := Tp.keep tkL _ _ g0
    have g1 := Tp.keep tkL _ _ g1
    have g2 := Tp.keep tkL _ _ g2
    have kk := (kk.mono (S' := [L]) (by simp)).put (o := .lst [.ref t2, .ref t6, .ref t10]) (p := L) (by simp) hL (fun _ z => by cases z) |>.drop (T := []) (fun b hb => .inr (by rw [List.mem_singleton.mp hb]; exact k0.dom _ nL))
    have hL := at_top kk
    refine ⟨_, rfl, .inl ⟨rfl, _, .inl (.inl hL)⟩, ?_⟩
    refine ⟨_, rfl, (by show 7 ≤ sizeLine; decide), fun t11 n11 => ?_⟩
    have g0 := Tp.keep (TK.new (o := .tup [.str "x", .int 0, .int (-1), .int 1, .bl false, .bl true, .int 0]) n11) _ _ g0
    have g1 := Tp.keep (TK.new (o := .tup [.str "x", .int 0, .int (-1), .int 1, .bl false, .bl true, .int 0]) n11) _ _ g1
    have g2 := Tp.keep (TK.new (o := .tup [.str "x", .int 0, .int (-1), .int 1, .bl false, .bl true, .int 0]) n11) _ _ g2
    have f11 := Tp.new n11 (H := _) (show Tps _ _ [.str "x", .int 0, .int (-1), .int 1, .bool false, .bool true, .int 0] from .cons (.str _) (.cons (.int _) (.cons (.int _) (.cons (.int _) (.cons (.bl _) (.cons (.bl _) (.cons (.int _) .nil)))))))
    have hL := (upd_ne (ne_of_none hL n11) : (upd _ t11 (.tup [.str "x", .int 0, .int (-1), .int 1, .bl false, .bl true, .int 0]) : Hp) L = _).trans hL
    have kk := kk.new (o := .tup [.str "x", .int 0, .int (-1), .int 1, .bl false, .bl true, .int 0]) n11
    refine ⟨(by show 7 ≤ sizeLine; decide), fun t12 n12 => ?_⟩
    have g0 := Tp.keep (TK.new (o := .tup [.str "y", .int 0, .int 0, .int 2, .bl true, .bl false, .int 0]) n12) _ _ g0
    have g1 := Tp.keep (TK.new (o := .tup [.str "y", .int 0, .int 0, .int 2, .bl true, .bl false, .int 0]) n12) _ _ g1
    have g2 := Tp.keep (TK.new (o := .tup [.str "y", .int 0, .int 0, .int 2, .bl true, .bl false, .int 0]) n12) _ _ g2
    have f11 := Tp.keep (TK.new (o := .tup [.str "y", .int 0, .int 0, .int 2, .bl true, .bl false, .int 0]) n12) _ _ f11
    have f12 := Tp.new n12 (H := _) (show Tps _ _ [.str "y", .int 0, .int 0, .int 2, .bool true, .bool false, .int 0] from .cons (.str _) (.cons (.int _) (.cons (.int _) (.cons (.int _) (.cons (.bl _) (.cons (.bl _) (.cons (.int _) .nil)))))))
    have hL := (upd_ne (ne_of_none hL n12) : (upd _ t12 (.tup [.str "y", .int 0, .int 0, .int 2, .bl true, .bl false, .int 0]) : Hp) L = _).trans hL
    have kk := kk.new (o := .tup [.str "y", .int 0, .int 0, .int 2, .bl true, .bl false, .int 0]) n12
    refine ⟨(by show 2 ≤ sizeLine; decide), fun t13 n13 => ?_⟩
    have g0 := Tp.keep (TK.new (o := .tup [.ref t11, .ref t12]) n13) _ _ g0
    have g1 := Tp.keep (TK.new (o := .tup [.ref t11, .ref t12]) n13) _ _ g1
    have g2 := Tp.keep (TK.new (o := .tup [.ref t11, .ref t12]) n13) _ _ g2
    have g3 : Tp _ _ (rowsD rowSet3) := Tp.new n13 (.cons f11 (.cons f12 .nil))
    have hL := (upd_ne (ne_of_none hL n13) : (upd _ t13 (.tup [.ref t11, .ref t12]) : Hp) L = _).trans hL
    have kk := kk.new (o := .tup [.ref t11, .ref t12]) n13
    refine ⟨L, _, _, rfl, rfl, hL, (by show 3 < sizeLine; decide), ?_⟩
    have tkL := TK.put (o := .lst [.ref t2, .ref t6, .ref t10, .ref t13]) hL (fun _ z => by cases z)
    have g0 := Tp.keep tkL _ _ g0
    have g1 := Tp.keep tkL _ _ g1
    have g2 := Tp.keep tkL _ _ g2
    have g3 := Tp.keep tkL _ _ g3
    have kk := (kk.mono (S' := [L]) (by simp)).put (o := .lst [.ref t2, .ref t6, .ref t10, .ref t13]) (p := L) (by simp) hL (fun _ z => by cases z) |>.drop (T := []) (fun b hb => .inr (by rw [List.mem_singleton.mp hb]; exact k0.dom _ nL))
    have hL := at_top kk
    refine ⟨_, rfl, _, rfl, o, cl, 4, n, rfl, sr.kp kk (by simp) (by simp), by omega, by decide, by decide, fun H' v k1 s1 h0 h4 => ?_⟩
    have hoL : L ≠ o := by
      obtain ⟨⟨cs, r, u, d, e1, _⟩, _⟩ := sr
      exact ne_of hL (kk.same _ _ e1 (by simp)) (fun z => by cases z)
    have hL' := k1.lst hL (by simpa using hoL)
    have kf : Kp [o] H H' := (kk.mono (by simp)).trans k1
    have cases4 : v = ((0 : Nat) : Int) ∨ v = ((1 : Nat) : Int) ∨ v = ((2 : Nat) : Int) ∨ v = ((3 : Nat) : Int) := by omega
    rcases cases4 with rfl | rfl | rfl | rfl
    · exact ⟨L, _, _, _, rfl, rfl, .of hL', atI_nat rfl, k _ _ rowSet0 kf s1 (by simp [lawRows]) (Tp.keep k1.tk _ _ g0)⟩
    · exact ⟨L, _, _, _, rfl, rfl, .of hL', atI_nat rfl, k _ _ rowSet1 kf s1 (by simp [lawRows]) (Tp.keep k1.tk _ _ g1)⟩
    · exact ⟨L, _, _, _, rfl, rfl, .of hL', atI_nat rfl, k _ _ rowSet2 kf s1 (by simp [lawRows]) (Tp.keep k1.tk _ _ g2)⟩
    · exact ⟨L, _, _, _, rfl, rfl, .of hL', atI_nat rfl, k _ _ rowSet3 kf s1 (by simp [lawRows]) (Tp.keep k1.tk _ _ g3)⟩
end
end Ork
end
section
set_option Elab.async false
set_option linter.all false
set_option maxRecDepth 100000
set_option pp.maxSteps 3000
namespace Ork
open PySem L2 PySem.Spec PyProof.Rows

theorem idx_none {pl : List Nm} {n : Nm} (h : n ∉ pl) : idx pl n = none := by
  unfold idx
  rw [List.findIdx?_eq_none_iff]
  intro x hx
  exact decide_eq_false fun e => h (e ▸ hx)
theorem enumN_snoc (pl : List Nm) (n : Nm) : enumN (pl ++ [n]) = enumN pl ++ [(n, (pl.length : Int))] := by
  unfold enumN
  rw [List.zipIdx_append]
  simp
theorem not_take {pl : List Nm} (nd : pl.Nodup) {t : Nat} {n : Nm} (h : pl[t]? = some n) : n ∉ pl.take t := by
  intro hm
  obtain ⟨i, hi, e⟩ := List.mem_iff_getElem.mp hm
  rw [List.length_take] at hi
  rw [List.getElem_take] at e
  have h1 : pl[i]? = some n := by rw [List.getElem?_eq_getElem (by omega), e]
  have := (List.getElem?_inj (by omega) nd).mp (h1.trans h.symm)
  omega
theorem places_len (r : Row) : r.places.length = if r.size = 0 then 1 else r.size := by
  unfold Row.places
  split <;> simp
theorem places_at {rows : List Row} {i : Nat} {r : Row} (h : rows[i]? = some r) {j : Nat} (hj : j < r.places.length) : (placesOf rows)[(placesOf (rows.take i)).length + j]? = r.places[j]? := by
  have hi := (List.getElem?_eq_some_iff.mp h).1
  have e : rows = rows.take i ++ r :: rows.drop (i + 1) := by
    conv => lhs; rw [← List.take_append_drop i rows]
    rw [List.drop_eq_getElem_cons hi]
    congr 2
    rw [List.getElem?_eq_getElem hi] at h
    exact Option.some.inj h
  have e2 : placesOf rows = placesOf (rows.take i) ++ (r.places ++ placesOf (rows.drop (i + 1))) := by
    conv => lhs; rw [e]
    simp [placesOf, List.flatMap_append]
  rw [e2, List.getElem?_append_right (by omega), Nat.add_sub_cancel_left, List.getElem?_append_left hj]
theorem places_take {rows : List Row} {i : Nat} {r : Row} (h : rows[i]? = some r) : (placesOf (rows.take (i + 1))).length = (placesOf (rows.take i)).length + r.places.length := by
  have hi := (List.getElem?_eq_some_iff.mp h).1
  have e : r = rows[i] := by rw [List.getElem?_eq_getElem hi] at h; exact (Option.some.inj h).symm
  subst e
  unfold placesOf
  rw [List.take_succ_eq_append_getElem hi, List.flatMap_append, List.length_append]
  simp
theorem places_le {rows : List Row} {i : Nat} {r : Row} (h : rows[i]? = some r) : (placesOf (rows.take i)).length + r.places.length ≤ (placesOf rows).length := by
  rw [← places_take h]
  have e : placesOf rows = placesOf (rows.take (i + 1)) ++ placesOf (rows.drop (i + 1)) := by
    conv => lhs; rw [← List.take_append_drop (i + 1) rows]
    unfold placesOf
    rw [List.flatMap_append]
  rw [e, List.length_append]
  omega
theorem take_snoc {α : Type} {l : List α} {t : Nat} {n : α} (h : l[t]? = some n) : l.take (t + 1) = l.take t ++ [n] := by
  have ht := (List.getElem?_eq_some_iff.mp h).1
  rw [List.take_succ_eq_append_getElem ht]
  rw [List.getElem?_eq_getElem ht] at h
  rw [Option.some.inj h]
/-- a row's values -/
theorem row_of {H : Hp} {r : Row} {v : V} (h : Tp H v r.toD) : ∃ a, v = .ref a ∧ H a = some (.tup [.str r.name, .int r.size, .int r.lo, .int r.hi, .bl r.b1, .bl r.b2, .int r.z]) := by
  cases h with
  | tup a b =>
    cases b with
    | cons b1 b =>
      cases b with
      | cons b2 b =>
        cases b with
        | cons b3 b =>
          cases b with
          | cons b4 b =>
            cases b with
            | cons b5 b =>
              cases b with
              | cons b6 b =>
                cases b with
                | cons b7 b =>
                  cases b
                  cases b1
                  cases b2
                  cases b3
                  cases b4
                  cases b5
                  cases b6
                  cases b7
                  exact ⟨_, rfl, a⟩
theorem rows_of {H : Hp} {rows : List Row} {v : V} (h : Tp H v (rowsD rows)) : ∃ a xs, v = .ref a ∧ H a = some (.tup xs) ∧ Tps H xs (rows.map Row.toD) := by
  cases h with
  | tup a b => exact ⟨_, _, rfl, a, b⟩
def spPlaces (P : Program) (w : World) : Sp := fun vs H Q _ => ∃ rv rows, vs = [rv] ∧ Tp H rv (rowsD rows) ∧ (placesOf rows).Nodup ∧ (placesOf rows).length ≤ 900 ∧ ∀ d H', Kp [] H H' → H d = none → MixD P w H' d (enumN (placesOf rows)) → Q (.ref d) H'
section
variable {P : Program} {w : World} {base : Heap} {mg : Str → Option Value} {K : PySem.W.Frag}
theorem ok_places {f : Addr} {fd : FuncData} (B : Bn mg) (D : Def K mg "_law_places" sLPlaces ["_law_rows_here"] f fd) : Has P w K mg base "_law_places" 1 ["_law_rows_here"] (spPlaces P w) := by
  refine D.has (D.fn.ok scLPlaces (fun vs H Q E h => ?_) (fun cdv A outer s H vs Q E hr h => ?_))
  · obtain ⟨_, _, rfl, _⟩ := h
    rfl
  · obtain ⟨rv, rows, rfl, tp, nod, hlen, k⟩ := h
    have hu := hu_of hr
    have nd := scLPlaces.nd
    obtain ⟨a, rvs, rfl, ha, trs⟩ := rows_of tp
    refine ⟨_, pss_cons (ps_par (i := 1) (j := 2) (by rfl) nd rfl rfl (by decide) rfl rfl (pa_cons pe_dnewM (pa_cons pe_int pa_nil)) (by rfl))
      (pss_cons (ps_for PassesOwn.never rfl (pi_tup (pv 0)) (pg_name (i := 3) nd rfl (.inl rfl))
        (pss_one (ps_for PassesOwn.never rfl (pi_range1 rfl B.range (pa_cons (pe_callB (call_max2 rfl) (by rfl) B.max (by decide +kernel) (pa_cons pe_int (pa_cons (pe_ix ix_tup (pv 3) pe_int (fun _ _ => rfl)) pa_nil))) pa_nil)) (pg_name (i := 4) nd rfl (.inl rfl))
          (pss_cons (ps_asg (pv 2) (pg_sub (pv 1) (pe_ifExp (pt_cmpR op_eq (pe_ix ix_tup (pv 3) pe_int (fun _ _ => rfl)) pe_int (nomark _)) (pe_ix ix_tup (pv 3) pe_int (fun _ _ => rfl)) (pe_tup (pa_cons (pe_ix ix_tup (pv 3) pe_int (fun _ _ => rfl)) (pa_cons (pv 4) pa_nil)))) (set_mix hu)))
          (pss_one (ps_set (i := 2) nd rfl (.inl rfl) (pe_op op_add (pv 2) pe_int)))))))
      (pss_one (ps_ret (pv 1)))), ?_⟩
    intro d nd0 md0
    refine ⟨_, _, rfl, _, rfl, a, rfl, ⟨_, .of ((upd_ne (ne_of_none ha nd0)).trans ha)⟩, ?_⟩
    have k0 : Kp [d] H (upd H d (oMix P w d [])) := ((Kp.refl [] H).new nd0).mono (by simp)
    have hrl : rvs.length = rows.length := by rw [trs.length, List.length_map]
    refine for_tup (xs := rvs) (fun i σ H' => ∃ r' k', σ = [some (.ref a), some (.ref d), some (.int ((placesOf (rows.take i)).length : Nat)), r', k'] ∧ Kp [d] H H' ∧ MixD P w H' d (enumN ((placesOf rows).take (placesOf (rows.take i)).length)))
      ⟨_, _, rfl, k0, md0⟩ (fun i σ H' _ h => ?_) (fun i x σ Hs hx h => ?_) (fun σ H' h => ?_)
    · obtain ⟨r', k', rfl, kk, md⟩ := h
      exact .of (kk.tk _ _ ha)
    · obtain ⟨r', k', rfl, kk, md⟩ := h
      have hi : i < rows.length := by rw [← hrl]; exact (List.getElem?_eq_some_iff.mp hx).1
      have hrow : rows[i]? = some rows[i] := List.getElem?_eq_getElem hi
      obtain ⟨x', hx', tx⟩ := trs.get (i := i) (d := rows[i].toD) (by rw [List.getElem?_map, hrow]; rfl)
      rw [hx] at hx'
      cases hx'
      obtain ⟨b, rfl, hb⟩ := row_of tx
      have hbs := kk.tk _ _ hb
      have pls := places_len rows[i]
      refine ⟨_, rfl, b, _, 1, _, rfl, rfl, .of hbs, rfl, _, _, rfl, _, rfl, ?_⟩
      have hple := places_le hrow
      have hpt := places_take hrow
      have hpa := fun (j : Nat) (hj : j < rows[i].places.length) => places_at hrow hj
      generalize (placesOf (rows.take i)).length = t0 at md hple hpt hpa ⊢
      have hJ : (if (rows[i].size : Int) > 1 then (rows[i].size : Int) else 1).toNat = rows[i].places.length := by
        rw [pls]
        split <;> split <;> omega
      have hJ0 : 0 ≤ (if (rows[i].size : Int) > 1 then (rows[i].size : Int) else 1) ∧ (if (rows[i].size : Int) > 1 then (rows[i].size : Int) else 1) ≤ 900 := by
        have : rows[i].size ≤ 900 := by
          rw [pls] at hple
          split at hple <;> omega
        split <;> omega
      refine ⟨by omega, by omega, ?_⟩
      rw [hJ]
      refine for_range (n := rows[i].places.length) (fun j σ H' => ∃ k', σ = [some (.ref a), some (.ref d), some (.int ((t0 + j : Nat) : Int)), some (.ref b), k'] ∧ Kp [d] H H' ∧ MixD P w H' d (enumN ((placesOf rows).take (t0 + j)))) ⟨_, rfl, kk, md⟩
        (fun j σ Hj hj h => ?_) (fun σ H' h => ?_)
      · obtain ⟨k', rfl, kj, mj⟩ := h
        have hbj := kj.tk _ _ hb
        have hat := hpa j hj
        have hn : ∃ n, rows[i].places[j]? = some n := ⟨_, List.getElem?_eq_getElem hj⟩
        obtain ⟨n, hn⟩ := hn
        rw [hn] at hat
        have hnone : valN (enumN ((placesOf rows).take (t0 + j))) n = none := by
          rw [valN_enum, idx_none (not_take nod hat)]
          rfl
        have hlt : (enumN ((placesOf rows).take (t0 + j))).length < 1000 := by
          unfold enumN
          rw [List.length_map, List.length_zipIdx, List.length_take]
          omega
        have hsn : enumN ((placesOf rows).take (t0 + j)) ++ [(n, ((t0 + j : Nat) : Int))] = enumN ((placesOf rows).take (t0 + (j + 1))) := by
          have e := take_snoc hat
          rw [← Nat.add_assoc, e, enumN_snoc, List.length_take, Nat.min_eq_left (by omega)]
        have fin : ∀ H2, Kp [d] H H2 → MixD P w H2 d (enumN ((placesOf rows).take (t0 + j))) → ∀ H3, (∃ o, H3 = upd H2 d o ∧ ∀ xs, o ≠ .tup xs) → MixD P w H3 d (enumN ((placesOf rows).take (t0 + j)) ++ [(n, ((t0 + j : Nat) : Int))]) → Kp [d] H H3 ∧ MixD P w H3 d (enumN ((placesOf rows).take (t0 + (j + 1)))) := fun H2 k2 m2 H3 ⟨o, e, ho⟩ m3 => by
          subst e
          obtain ⟨xs, ed, _⟩ := m2
          exact ⟨k2.put (by simp) ed (fun _ z => by cases z), hsn ▸ m3⟩
        by_cases hz : rows[i].size = 0
        · have en : n = .sc rows[i].name := by
            unfold Row.places at hn hj
            rw [if_pos hz] at hn hj
            have : j = 0 := by simp at hj; exact hj
            subst this
            simp at hn
            exact hn.symm
          subst en
          refine ⟨_, rfl, _, rfl, _, rfl, b, _, 1, _, rfl, rfl, .of hbj, rfl, rfl, _, rfl, ?_⟩
          rw [hz]
          refine iteT ⟨_, rfl, b, _, 0, _, rfl, rfl, .of hbj, rfl, d, _, .sc rows[i].name, _, rfl, mj, rfl, hnone, hlt, rfl, fun H3 he m3 => ?_⟩
          obtain ⟨k3, m3⟩ := fin Hj kj mj H3 he m3
          exact ⟨_, rfl, _, _, rfl, rfl, _, rfl, k3, m3⟩
        · have en : n = .cell rows[i].name (j : Nat) := by
            unfold Row.places at hn hj
            rw [if_neg hz] at hn hj
            rw [List.getElem?_map, List.getElem?_range (by simpa using hj)] at hn
            simp at hn
            exact hn.symm
          subst en
          refine ⟨_, rfl, _, rfl, _, rfl, b, _, 1, _, rfl, rfl, .of hbj, rfl, rfl, false, ?_, ?_⟩
          · refine congrArg V.bl (decide_eq_false fun z => hz ?_)
            injection z with z
            omega
          refine iteF ⟨_, rfl, b, _, 0, _, rfl, rfl, .of hbj, rfl, _, rfl, (by show 2 ≤ sizeLine; decide), fun t nt => ?_⟩
          have e0 : (0 : Int) + (j : Int) = (j : Nat) := Int.zero_add _
          rw [e0]
          have kt := kj.new (o := .tup [.str rows[i].name, .int (j : Nat)]) nt
          have k1 := (Kp.refl [] Hj).new (o := .tup [.str rows[i].name, .int (j : Nat)]) nt
          refine ⟨d, _, .cell rows[i].name (j : Nat), _, rfl, mj.kp k1 (by simp), ⟨t, rfl, upd_same⟩, hnone, hlt, rfl, fun H3 he m3 => ?_⟩
          obtain ⟨k3, m3⟩ := fin _ kt (mj.kp k1 (by simp)) H3 he m3
          exact ⟨_, rfl, _, _, rfl, rfl, _, rfl, k3, m3⟩
      · obtain ⟨k', rfl, kj, mj⟩ := h
        exact ⟨_, _, by rw [hpt], kj, by rw [hpt]; exact mj⟩
    · obtain ⟨r', k', rfl, kk, md⟩ := h
      rw [hrl, List.take_length, List.take_length] at md
      exact ⟨_, rfl, k d _ (kk.drop (fun b hb => .inr (by rw [List.mem_singleton.mp hb]; exact nd0))) nd0 md⟩
end
end Ork
end
section
set_option Elab.async false
set_option linter.all false
set_option maxRecDepth 100000
set_option pp.maxSteps 3000
namespace Ork
open PySem L2 PySem.Spec PyProof.Rows

def Row.cells (r : Row) : List Nm := (List.range r.size).map fun i => .cell r.name (i : Nat)
def tabOf (rows : List Row) : List Nm := rows.flatMap Row.cells
theorem Tps.map_snoc {H : Hp} {xs : List V} {ns : List Nm} {v : V} {n : Nm} (h : Tps H xs (ns.map Nm.toD)) (a : Tp H v n.toD) : Tps H (xs ++ [v]) ((ns ++ [n]).map Nm.toD) := by
  rw [List.map_append]
  exact h.snoc a
/-- [(row[0], key) for key in range(row[1])] -/
theorem cellsComp {K : PySem.W.Frag} {a0 a1 a3 : Option V} {b : Addr} {r : Row} {Hs : Hp} {Q : V → Hp → Prop} (hb : Hs b = some (.tup [.str r.name, .int r.size, .int r.lo, .int r.hi, .bl r.b1, .bl r.b2, .int r.z])) (hz : r.size ≤ 900)
    (k : ∀ (D : Addr) (xs : List V) (H' : Hp), Kp [] Hs H' → Hs D = none → H' D = some (.lst xs) → Tps H' xs (r.cells.map Nm.toD) → Q (.ref D) H') :
    tLc (iRng1 (tCons (tOp (rIxT K) (tVar 2) (tC (.int 1))) tNil)) (gName 3) tYes (tTup (tCons (tOp (rIxT K) (tVar 2) (tC (.int 0))) (tCons (tVar 3) tNil))) [3] [a0, a1, some (.ref b), a3] Hs Q := by
  refine ⟨_, rfl, b, _, 1, _, rfl, rfl, .of hb, rfl, _, rfl, by omega, by omega, fun D nD => ?_⟩
  have kD : Kp [] Hs (upd Hs D (.lst [])) := (Kp.refl [] Hs).new nD
  have e1 : ((r.size : Int)).toNat = r.size := Int.toNat_natCast _
  rw [e1]
  refine lc_range (lo := 0) (n := r.size) (fun i H' => ∃ xs, Kp [D] (upd Hs D (.lst [])) H' ∧ H' D = some (.lst xs) ∧ Tps H' xs (((List.range i).map fun j => Nm.cell r.name (j : Nat)).map Nm.toD)) ⟨[], Kp.refl _ _, upd_same, .nil⟩ (fun i H' hi h => ?_) (fun H' h => ?_)
  · obtain ⟨xs, kk, hD, ta⟩ := h
    have nb : b ≠ D := ne_of_none hb nD
    have hb' := kk.same _ _ ((upd_ne nb).trans hb) (by simpa using nb)
    have e0 : (0 : Int) + (i : Int) = (i : Nat) := Int.zero_add _
    rw [e0]
    refine ⟨rfl, _, rfl, b, _, 0, _, rfl, rfl, .of hb', rfl, _, rfl, (by show 2 ≤ sizeLine; decide), fun t nt => ?_⟩
    have hDt := (upd_ne (ne_of_none hD nt) : (upd H' t (.tup [.str r.name, .int (i : Nat)]) : Hp) D = _).trans hD
    have hxl : xs.length = i := by rw [ta.length, List.length_map, List.length_map, List.length_range]
    have ntD : t ≠ D := fun z => by subst z; rw [hD] at nt; cases nt
    refine ⟨xs, hDt, small1000 (by omega), xs ++ [.ref t], (kk.new nt).put (by simp) hDt (fun _ z => by cases z), upd_same, ?_⟩
    rw [List.range_succ, List.map_append]
    have kz : TK H' (upd (upd H' t (.tup [.str r.name, .int (i : Nat)])) D (.lst (xs ++ [.ref t]))) := fun c ys z => by
      rw [upd_ne (ne_of z hD (fun z => by cases z)), upd_ne (ne_of_none z nt)]
      exact z
    exact (Tps.keep kz _ _ ta).map_snoc (nm_to ⟨t, rfl, (upd_ne ntD).trans upd_same⟩)
  · obtain ⟨xs, kk, hD, ta⟩ := h
    have k0 : Kp [] Hs H' := (kD.mono (S' := [D]) (by simp)).trans kk |>.drop (fun b hb => .inr (by rw [List.mem_singleton.mp hb]; exact nD))
    exact k D xs H' k0 nD hD ta
def spTab : Sp := fun vs H Q _ => ∃ rv rows, vs = [rv] ∧ Tp H rv (rowsD rows) ∧ (placesOf rows).length ≤ 900 ∧ ∀ p xs H', Kp [] H H' → H p = none → H' p = some (.lst xs) → Tps H' xs ((tabOf rows).map Nm.toD) → Q (.ref p) H'
def spAllPlaces : Sp := fun vs H Q _ => ∃ rv rows, vs = [rv] ∧ Tp H rv (rowsD rows) ∧ (placesOf rows).length ≤ 900 ∧ ∀ p xs H', Kp [] H H' → H p = none → H' p = some (.lst xs) → Tps H' xs ((placesOf rows).map Nm.toD) → Q (.ref p) H'
theorem size_le {rows : List Row} {i : Nat} {r : Row} (h : rows[i]? = some r) (hl : (placesOf rows).length ≤ 900) : r.size ≤ 900 := by
  have h1 := places_le h
  rw [places_len] at h1
  split at h1 <;> omega
theorem cells_len {rows : List Row} : (tabOf rows).length ≤ (placesOf rows).length := by
  induction rows with
  | nil => exact Nat.le_refl _
  | cons r rows ih =>
    have h1 : (tabOf (r :: rows)).length = r.size + (tabOf rows).length := by simp [tabOf, Row.cells]
    have h2 : (placesOf (r :: rows)).length = r.places.length + (placesOf rows).length := by simp [placesOf]
    rw [h1, h2, places_len]
    split <;> omega
theorem tab_take {rows : List Row} {i : Nat} {r : Row} (h : rows[i]? = some r) : tabOf (rows.take (i + 1)) = tabOf (rows.take i) ++ r.cells := by
  rw [take_snoc h]
  simp [tabOf, List.flatMap_append]
theorem pl_take {rows : List Row} {i : Nat} {r : Row} (h : rows[i]? = some r) : placesOf (rows.take (i + 1)) = placesOf (rows.take i) ++ r.places := by
  rw [take_snoc h]
  simp [placesOf, List.flatMap_append]
theorem take_le (rows : List Row) (i : Nat) : (placesOf (rows.take i)).length ≤ (placesOf rows).length := by
  have e : placesOf rows = placesOf (rows.take i) ++ placesOf (rows.drop i) := by
    conv => lhs; rw [← List.take_append_drop i rows]
    unfold placesOf
    rw [List.flatMap_append]
  rw [e, List.length_append]
  omega
section
variable {P : Program} {w : World} {base : Heap} {mg : Str → Option Value} {K : PySem.W.Frag}
theorem ok_tab {f : Addr} {fd : FuncData} (B : Bn mg) (D : Def K mg "_law_table_places" sLTab ["_law_rows_here"] f fd) : Has P w K mg base "_law_table_places" 1 ["_law_rows_here"] spTab := by
  refine D.has (D.fn.ok scLTab (fun vs H Q E h => ?_) (fun cdv A outer s H vs Q E hr h => ?_))
  · obtain ⟨_, _, rfl, _⟩ := h
    rfl
  · obtain ⟨rv, rows, rfl, tp, hlen, k⟩ := h
    have hu := hu_of hr
    have nd := scLTab.nd
    obtain ⟨a, rvs, rfl, ha, trs⟩ := rows_of tp
    refine ⟨_, pss_cons (ps_set (i := 1) nd rfl (.inl rfl) (pe_lst pa_nil))
      (pss_cons (ps_for PassesOwn.never rfl (pi_tup (pv 0)) (pg_name (i := 2) nd rfl (.inr rfl))
        (pss_one (ps_expr (pe_bm PySem.F.plainAttrs_list PySem.F.slot_list_extend PySem.F.type_list_extend mt_extend (pv 1) (pa_cons
          (pe_lc (own := [("_law_k", 3)]) (g := gName 3) (tt := tYes) (by rfl) nd (pi_range1 rfl B.range (pa_cons (pe_ix ix_tup (pv 2) pe_int (fun _ _ => rfl)) pa_nil)) (blkOk_by (own := [("_law_k", 3)]) (N := nLTab) (sc := defScope sLTab) (by decide +kernel)) (fun _ _ _ _ _ => pg_name (i := 3) nd rfl (.inl rfl)) (fun _ _ _ _ _ => pts_nil)
            (fun _ _ _ _ _ => pe_tup (pa_cons (pe_ix (r := rIxT K) ix_tup (pv 2) pe_int (fun _ _ => rfl)) (pa_cons (pv 3) pa_nil)))) pa_nil)))))
      (pss_one (ps_ret (pv 1)))), ?_⟩
    refine ⟨(by show 0 ≤ sizeLine; decide), fun F nF => ?_⟩
    have kF : Kp [] H (upd H F (.lst [])) := (Kp.refl [] H).new nF
    refine ⟨_, rfl, a, rfl, ⟨_, .of (kF.tk _ _ ha)⟩, ?_⟩
    have hrl : rvs.length = rows.length := by rw [trs.length, List.length_map]
    refine for_tup (xs := rvs) (fun i σ H' => ∃ r' k' xs, σ = [some (.ref a), some (.ref F), r', k'] ∧ Kp [F] (upd H F (.lst [])) H' ∧ H' F = some (.lst xs) ∧ Tps H' xs ((tabOf (rows.take i)).map Nm.toD))
      ⟨_, _, [], rfl, Kp.refl _ _, upd_same, .nil⟩ (fun i σ H' _ h => ?_) (fun i x σ Hs hx h => ?_) (fun σ H' h => ?_)
    · obtain ⟨r', k', xs, rfl, kk, _⟩ := h
      exact .of (kk.tk _ _ (kF.tk _ _ ha))
    · obtain ⟨r', k', xs, rfl, kk, hF, ta⟩ := h
      have hi : i < rows.length := by rw [← hrl]; exact (List.getElem?_eq_some_iff.mp hx).1
      have hrow : rows[i]? = some rows[i] := List.getElem?_eq_getElem hi
      obtain ⟨x', hx', tx⟩ := trs.get (i := i) (d := rows[i].toD) (by rw [List.getElem?_map, hrow]; rfl)
      rw [hx] at hx'
      cases hx'
      obtain ⟨b, rfl, hb⟩ := row_of tx
      have hbs := kk.tk _ _ (kF.tk _ _ hb)
      refine ⟨_, rfl, .inl ⟨rfl, _, .inl (.inl hF)⟩, cellsComp (K := K) (a0 := some (.ref a)) (a1 := some (.ref F)) (a3 := k') (r := rows[i]) hbs (size_le hrow hlen) fun D2 ys H2 k2 nD2 hD2 t2 => ?_⟩
      have hF2 := k2.lst hF (by simp)
      have hl1 : xs.length ≤ 900 := by rw [ta.length, List.length_map]; exact Nat.le_trans cells_len (Nat.le_trans (take_le rows i) hlen)
      have hl2 : ys.length ≤ 900 := by rw [t2.length, List.length_map]; simp [Row.cells]; exact size_le hrow hlen
      refine ⟨F, D2, xs, ys, rfl, rfl, hF2, hD2, by rw [sizeLine_eq]; omega, _, _, xs ++ ys, rfl, (kk.trans (k2.mono (by simp))).put (by simp) hF2 (fun _ z => by cases z), upd_same, ?_⟩
      rw [tab_take hrow, List.map_append]
      have kz : TK H2 (upd H2 F (.lst (xs ++ ys))) := TK.put hF2 (fun _ z => by cases z)
      exact (Tps.keep kz _ _ (Tps.keep k2.tk _ _ ta)).append (Tps.keep kz _ _ t2)
    · obtain ⟨r', k', xs, rfl, kk, hF, ta⟩ := h
      rw [hrl, List.take_length] at ta
      have kH : Kp [] H H' := ((kF.mono (S' := [F]) (by simp)).trans kk).drop (fun b hb => .inr (by rw [List.mem_singleton.mp hb]; exact nF))
      exact ⟨_, rfl, k F xs _ kH nF hF ta⟩
theorem ok_all_places {f : Addr} {fd : FuncData} (B : Bn mg) (D : Def K mg "all_places" sAllPlaces ["cells"] f fd) : Has P w K mg base "all_places" 1 ["cells"] spAllPlaces := by
  refine D.has (D.fn.ok scAllPlaces (fun vs H Q E h => ?_) (fun cdv A outer s H vs Q E hr h => ?_))
  · obtain ⟨_, _, rfl, _⟩ := h
    rfl
  · obtain ⟨rv, rows, rfl, tp, hlen, k⟩ := h
    have hu := hu_of hr
    have nd := scAllPlaces.nd
    obtain ⟨a, rvs, rfl, ha, trs⟩ := rows_of tp
    refine ⟨_, pss_cons (ps_set (i := 1) nd rfl (.inl rfl) (pe_lst pa_nil))
      (pss_cons (ps_for PassesOwn.never rfl (pi_tup (pv 0)) (pg_name (i := 2) nd rfl (.inr rfl))
        (pss_one (ps_expr (pe_bm PySem.F.plainAttrs_list PySem.F.slot_list_extend PySem.F.type_list_extend mt_extend (pv 1) (pa_cons
          (pe_ifExp (pt_cmpR op_eq (pe_ix ix_tup (pv 2) pe_int (fun _ _ => rfl)) pe_int (nomark _)) (pe_lst (pa_cons (pe_ix ix_tup (pv 2) pe_int (fun _ _ => rfl)) pa_nil))
          (pe_lc (own := [("key", 3)]) (g := gName 3) (tt := tYes) (by rfl) nd (pi_range1 rfl B.range (pa_cons (pe_ix ix_tup (pv 2) pe_int (fun _ _ => rfl)) pa_nil)) (blkOk_by (own := [("key", 3)]) (N := nAllPlaces) (sc := defScope sAllPlaces) (by decide +kernel)) (fun _ _ _ _ _ => pg_name (i := 3) nd rfl (.inl rfl)) (fun _ _ _ _ _ => pts_nil)
            (fun _ _ _ _ _ => pe_tup (pa_cons (pe_ix (r := rIxT K) ix_tup (pv 2) pe_int (fun _ _ => rfl)) (pa_cons (pv 3) pa_nil))))) pa_nil)))))
      (pss_one (ps_ret (pv 1)))), ?_⟩
    refine ⟨(by show 0 ≤ sizeLine; decide), fun F nF => ?_⟩
    have kF : Kp [] H (upd H F (.lst [])) := (Kp.refl [] H).new nF
    refine ⟨_, rfl, a, rfl, ⟨_, .of (kF.tk _ _ ha)⟩, ?_⟩
    have hrl : rvs.length = rows.length := by rw [trs.length, List.length_map]
    refine for_tup (xs := rvs) (fun i σ H' => ∃ r' k' xs, σ = [some (.ref a), some (.ref F), r', k'] ∧ Kp [F] (upd H F (.lst [])) H' ∧ H' F = some (.lst xs) ∧ Tps H' xs ((placesOf (rows.take i)).map Nm.toD))
      ⟨_, _, [], rfl, Kp.refl _ _, upd_same, .nil⟩ (fun i σ H' _ h => ?_) (fun i x σ Hs hx h => ?_) (fun σ H' h => ?_)
    · obtain ⟨r', k', xs, rfl, kk, _⟩ := h
      exact .of (kk.tk _ _ (kF.tk _ _ ha))
    · obtain ⟨r', k', xs, rfl, kk, hF, ta⟩ := h
      have hi : i < rows.length := by rw [← hrl]; exact (List.getElem?_eq_some_iff.mp hx).1
      have hrow : rows[i]? = some rows[i] := List.getElem?_eq_getElem hi
      obtain ⟨x', hx', tx⟩ := trs.get (i := i) (d := rows[i].toD) (by rw [List.getElem?_map, hrow]; rfl)
      rw [hx] at hx'
      cases hx'
      obtain ⟨b, rfl, hb⟩ := row_of tx
      have hbs := kk.tk _ _ (kF.tk _ _ hb)
      have hl1 : xs.length ≤ 900 := by rw [ta.length, List.length_map]; exact Nat.le_trans (take_le rows i) hlen
      have hl2' : rows[i].places.length ≤ 900 := by have := places_le hrow; omega
      have fin : ∀ (D2 : Addr) (ys : List V) (H2 : Hp), Kp [] Hs H2 → H2 D2 = some (.lst ys) → Tps H2 ys (rows[i].places.map Nm.toD) → ∃ l b' xs' zs, V.ref F = V.ref l ∧ [V.ref D2] = [V.ref b'] ∧ H2 l = some (.lst xs') ∧ H2 b' = some (.lst zs) ∧ xs'.length + zs.length ≤ sizeLine ∧
          ∃ r3 k3 xs, [some (V.ref a), some (V.ref F), some (.ref b), k'] = [some (.ref a), some (.ref F), r3, k3] ∧ Kp [F] (upd H F (.lst [])) (upd H2 l (.lst (xs' ++ zs))) ∧ (upd H2 l (.lst (xs' ++ zs)) : Hp) F = some (.lst xs) ∧ Tps (upd H2 l (.lst (xs' ++ zs))) xs ((placesOf (rows.take (i + 1))).map Nm.toD) := fun D2 ys H2 k2 hD2 t2 => by
        have hF2 := k2.lst hF (by simp)
        have hl2 : ys.length ≤ 900 := by rw [t2.length, List.length_map]; exact hl2'
        refine ⟨F, D2, xs, ys, rfl, rfl, hF2, hD2, by rw [sizeLine_eq]; omega, _, k', xs ++ ys, rfl, (kk.trans (k2.mono (by simp))).put (by simp) hF2 (fun _ z => by cases z), upd_same, ?_⟩
        rw [pl_take hrow, List.map_append]
        have kz : TK H2 (upd H2 F (.lst (xs ++ ys))) := TK.put hF2 (fun _ z => by cases z)
        exact (Tps.keep kz _ _ (Tps.keep k2.tk _ _ ta)).append (Tps.keep kz _ _ t2)
      refine ⟨_, rfl, .inl ⟨rfl, _, .inl (.inl hF)⟩, ?_⟩
      by_cases hz : rows[i].size = 0
      · refine ⟨_, rfl, b, _, 1, _, rfl, rfl, .of hbs, rfl, rfl, _, rfl, ?_⟩
        rw [hz]
        refine iteT ⟨_, rfl, b, _, 0, _, rfl, rfl, .of hbs, rfl, (by show 1 ≤ sizeLine; decide), fun D2 nD2 => ?_⟩
        obtain ⟨l, b', xs', zs, q1, q2, q3, q4, q5, r2, k2, xs2, q6⟩ := fin D2 [.str rows[i].name] _ ((Kp.refl [] Hs).new nD2) upd_same (by
          unfold Row.places
          rw [if_pos hz]
          exact .cons (.str _) .nil)
        exact ⟨l, b', xs', zs, q1, q2, q3, q4, q5, r2, k2, xs2, q6⟩
      · refine ⟨_, rfl, b, _, 1, _, rfl, rfl, .of hbs, rfl, rfl, false, ?_, iteF ?_⟩
        · refine congrArg V.bl (decide_eq_false fun z => hz ?_)
          injection z with z
          omega
        refine cellsComp (K := K) (a0 := some (.ref a)) (a1 := some (.ref F)) (a3 := k') (r := rows[i]) hbs (size_le hrow hlen) fun D2 ys H2 k2 nD2 hD2 t2 => ?_
        have e : rows[i].cells = rows[i].places := by
          unfold Row.cells Row.places
          rw [if_neg hz]
        rw [e] at t2
        obtain ⟨l, b', xs', zs, q1, q2, q3, q4, q5, r2, k2', xs2, q6⟩ := fin D2 ys H2 k2 hD2 t2
        exact ⟨l, b', xs', zs, q1, q2, q3, q4, q5, r2, k2', xs2, q6⟩
    · obtain ⟨r', k', xs, rfl, kk, hF, ta⟩ := h
      rw [hrl, List.take_length] at ta
      have kH : Kp [] H H' := ((kF.mono (S' := [F]) (by simp)).trans kk).drop (fun b hb => .inr (by rw [List.mem_singleton.mp hb]; exact nF))
      exact ⟨_, rfl, k F xs _ kH nF hF ta⟩
end
end Ork
end
section
set_option Elab.async false
set_option linter.all false
set_option maxRecDepth 100000
set_option pp.maxSteps 3000
namespace Ork
open PySem L2 PySem.Spec PyProof.Rows

theorem lk_ne {g f : Str} {v : V} {r : List (Str × V)} (h : ¬ g = f) : List.lookup g ((f, v) :: r) = List.lookup g r := by
  have e : (g == f) = false := beq_eq_false_iff_ne.mpr h
  simp only [List.lookup, e]
theorem lk_eq {f : Str} {v : V} {r : List (Str × V)} : List.lookup f ((f, v) :: r) = some v := by simp [List.lookup]
theorem pf_ne {g f : Str} {v x : V} {r : List (Str × V)} (h : ¬ g = f) : putF f v ((g, x) :: r) = (g, x) :: putF f v r := if_neg h
theorem pf_eq {f : Str} {v x : V} {r : List (Str × V)} : putF f v ((f, x) :: r) = (f, v) :: r := if_pos rfl
def f_places : Str := "places"
def f_code : Str := "code"
def f_slots : Str := "slots"
def f_next_at : Str := "next_at"
def f_is_over : Str := "is_over"
def f_fault_at : Str := "fault_at"
theorem d_places_code : ¬ f_places = f_code := by decide +kernel
theorem d_places_slots : ¬ f_places = f_slots := by decide +kernel
theorem d_places_next_at : ¬ f_places = f_next_at := by decide +kernel
theorem d_places_is_over : ¬ f_places = f_is_over := by decide +kernel
theorem d_places_fault_at : ¬ f_places = f_fault_at := by decide +kernel
theorem d_code_places : ¬ f_code = f_places := by decide +kernel
theorem d_code_slots : ¬ f_code = f_slots := by decide +kernel
theorem d_code_next_at : ¬ f_code = f_next_at := by decide +kernel
theorem d_code_is_over : ¬ f_code = f_is_over := by decide +kernel
theorem d_code_fault_at : ¬ f_code = f_fault_at := by decide +kernel
theorem d_slots_places : ¬ f_slots = f_places := by decide +kernel
theorem d_slots_code : ¬ f_slots = f_code := by decide +kernel
theorem d_slots_next_at : ¬ f_slots = f_next_at := by decide +kernel
theorem d_slots_is_over : ¬ f_slots = f_is_over := by decide +kernel
theorem d_slots_fault_at : ¬ f_slots = f_fault_at := by decide +kernel
theorem d_next_at_places : ¬ f_next_at = f_places := by decide +kernel
theorem d_next_at_code : ¬ f_next_at = f_code := by decide +kernel
theorem d_next_at_slots : ¬ f_next_at = f_slots := by decide +kernel
theorem d_next_at_is_over : ¬ f_next_at = f_is_over := by decide +kernel
theorem d_next_at_fault_at : ¬ f_next_at = f_fault_at := by decide +kernel
theorem d_is_over_places : ¬ f_is_over = f_places := by decide +kernel
theorem d_is_over_code : ¬ f_is_over = f_code := by decide +kernel
theorem d_is_over_slots : ¬ f_is_over = f_slots := by decide +kernel
theorem d_is_over_next_at : ¬ f_is_over = f_next_at := by decide +kernel
theorem d_is_over_fault_at : ¬ f_is_over = f_fault_at := by decide +kernel
theorem d_fault_at_places : ¬ f_fault_at = f_places := by decide +kernel
theorem d_fault_at_code : ¬ f_fault_at = f_code := by decide +kernel
theorem d_fault_at_slots : ¬ f_fault_at = f_slots := by decide +kernel
theorem d_fault_at_next_at : ¬ f_fault_at = f_next_at := by decide +kernel
theorem d_fault_at_is_over : ¬ f_fault_at = f_is_over := by decide +kernel
def runF (pla : Addr) (cv : V) (sl : Addr) (pc : Int) (ov : Bool) (fa : V) : List (Str × V) := [(f_places, .ref pla), (f_code, cv), (f_slots, .ref sl), (f_next_at, .int pc), (f_is_over, .bl ov), (f_fault_at, fa)]
section
variable {pla sl sl' pla' : Addr} {cv fa fa' cv' : V} {pc pc' : Int} {ov ov' : Bool}
theorem rl_places : (runF pla cv sl pc ov fa).lookup f_places = some (.ref pla) := lk_eq
theorem rl_code : (runF pla cv sl pc ov fa).lookup f_code = some (cv) := (lk_ne d_code_places).trans lk_eq
theorem rl_slots : (runF pla cv sl pc ov fa).lookup f_slots = some (.ref sl) := (lk_ne d_slots_places).trans ((lk_ne d_slots_code).trans lk_eq)
theorem rl_next_at : (runF pla cv sl pc ov fa).lookup f_next_at = some (.int pc) := (lk_ne d_next_at_places).trans ((lk_ne d_next_at_code).trans ((lk_ne d_next_at_slots).trans lk_eq))
theorem rl_is_over : (runF pla cv sl pc ov fa).lookup f_is_over = some (.bl ov) := (lk_ne d_is_over_places).trans ((lk_ne d_is_over_code).trans ((lk_ne d_is_over_slots).trans ((lk_ne d_is_over_next_at).trans lk_eq)))
theorem rl_fault_at : (runF pla cv sl pc ov fa).lookup f_fault_at = some (fa) := (lk_ne d_fault_at_places).trans ((lk_ne d_fault_at_code).trans ((lk_ne d_fault_at_slots).trans ((lk_ne d_fault_at_next_at).trans ((lk_ne d_fault_at_is_over).trans lk_eq))))
theorem rp_next_at : putF f_next_at (.int pc') (runF pla cv sl pc ov fa) = runF pla cv sl pc' ov fa := by
  unfold runF
  rw [pf_ne d_places_next_at, pf_ne d_code_next_at, pf_ne d_slots_next_at, pf_eq]
theorem rp_is_over : putF f_is_over (.bl ov') (runF pla cv sl pc ov fa) = runF pla cv sl pc ov' fa := by
  unfold runF
  rw [pf_ne d_places_is_over, pf_ne d_code_is_over, pf_ne d_slots_is_over, pf_ne d_next_at_is_over, pf_eq]
theorem rp_fault_at : putF f_fault_at (fa') (runF pla cv sl pc ov fa) = runF pla cv sl pc ov fa' := by
  unfold runF
  rw [pf_ne d_places_fault_at, pf_ne d_code_fault_at, pf_ne d_slots_fault_at, pf_ne d_next_at_fault_at, pf_ne d_is_over_fault_at, pf_eq]
theorem rn_stop : (runF pla cv sl pc ov fa).lookup ("stop" : Str) = none := by
  unfold runF
  rw [lk_ne (by decide +kernel), lk_ne (by decide +kernel), lk_ne (by decide +kernel), lk_ne (by decide +kernel), lk_ne (by decide +kernel), lk_ne (by decide +kernel)]
  rfl
theorem rn_cell_at : (runF pla cv sl pc ov fa).lookup ("cell_at" : Str) = none := by
  unfold runF
  rw [lk_ne (by decide +kernel), lk_ne (by decide +kernel), lk_ne (by decide +kernel), lk_ne (by decide +kernel), lk_ne (by decide +kernel), lk_ne (by decide +kernel)]
  rfl
theorem rn_touch : (runF pla cv sl pc ov fa).lookup ("touch" : Str) = none := by
  unfold runF
  rw [lk_ne (by decide +kernel), lk_ne (by decide +kernel), lk_ne (by decide +kernel), lk_ne (by decide +kernel), lk_ne (by decide +kernel), lk_ne (by decide +kernel)]
  rfl
theorem rn_go : (runF pla cv sl pc ov fa).lookup ("go" : Str) = none := by
  unfold runF
  rw [lk_ne (by decide +kernel), lk_ne (by decide +kernel), lk_ne (by decide +kernel), lk_ne (by decide +kernel), lk_ne (by decide +kernel), lk_ne (by decide +kernel)]
  rfl
theorem rn_next_event : (runF pla cv sl pc ov fa).lookup ("next_event" : Str) = none := by
  unfold runF
  rw [lk_ne (by decide +kernel), lk_ne (by decide +kernel), lk_ne (by decide +kernel), lk_ne (by decide +kernel), lk_ne (by decide +kernel), lk_ne (by decide +kernel)]
  rfl
end
theorem runF_made {pla sl : Addr} {cv fa : V} {pc : Int} {ov : Bool} : putF f_fault_at fa (putF f_is_over (.bl ov) (putF f_next_at (.int pc) (putF f_slots (.ref sl) (putF f_code cv (putF f_places (.ref pla) []))))) = runF pla cv sl pc ov fa := by
  show putF f_fault_at fa (putF f_is_over (.bl ov) (putF f_next_at (.int pc) (putF f_slots (.ref sl) (putF f_code cv [(f_places, .ref pla)])))) = _
  rw [show putF f_code (cv) ([(f_places, .ref pla)] : List (Str × V)) = [(f_places, .ref pla), (f_code, cv)] from by rw [pf_ne d_places_code]; rfl]
  rw [show putF f_slots (.ref sl) ([(f_places, .ref pla), (f_code, cv)] : List (Str × V)) = [(f_places, .ref pla), (f_code, cv), (f_slots, .ref sl)] from by rw [pf_ne d_places_slots, pf_ne d_code_slots]; rfl]
  rw [show putF f_next_at (.int pc) ([(f_places, .ref pla), (f_code, cv), (f_slots, .ref sl)] : List (Str × V)) = [(f_places, .ref pla), (f_code, cv), (f_slots, .ref sl), (f_next_at, .int pc)] from by rw [pf_ne d_places_next_at, pf_ne d_code_next_at, pf_ne d_slots_next_at]; rfl]
  rw [show putF f_is_over (.bl ov) ([(f_places, .ref pla), (f_code, cv), (f_slots, .ref sl), (f_next_at, .int pc)] : List (Str × V)) = [(f_places, .ref pla), (f_code, cv), (f_slots, .ref sl), (f_next_at, .int pc), (f_is_over, .bl ov)] from by rw [pf_ne d_places_is_over, pf_ne d_code_is_over, pf_ne d_slots_is_over, pf_ne d_next_at_is_over]; rfl]
  rw [show putF f_fault_at (fa) ([(f_places, .ref pla), (f_code, cv), (f_slots, .ref sl), (f_next_at, .int pc), (f_is_over, .bl ov)] : List (Str × V)) = [(f_places, .ref pla), (f_code, cv), (f_slots, .ref sl), (f_next_at, .int pc), (f_is_over, .bl ov), (f_fault_at, fa)] from by rw [pf_ne d_places_fault_at, pf_ne d_code_fault_at, pf_ne d_slots_fault_at, pf_ne d_next_at_fault_at, pf_ne d_is_over_fault_at]; rfl]
  rfl
end Ork
end
section
set_option Elab.async false
set_option linter.all false
set_option maxRecDepth 100000
set_option pp.maxSteps 3000
namespace Ork
open PySem L2 PySem.Spec PyProof.Rows

def Nm.ok : Nm → Bool
  | .sc x => PyData.strOk x
  | .cell t _ => PyData.strOk t
theorem nm_lay {n : Nm} (h : n.ok = true) : n.toD.canLay0 = true := by
  cases n with
  | sc x =>
    have h : PyData.strOk x = true := h
    simp [Nm.toD, PyData.canLay0, h]
  | cell t i =>
    have h : PyData.strOk t = true := h
    simp [Nm.toD, PyData.canLay0, PyData.canLayAll0, h]
theorem nm_depth (n : Nm) : n.toD.depth ≤ 2 := by
  cases n with
  | sc x => simp [Nm.toD, PyData.depth]
  | cell t i => simp [Nm.toD, PyData.depth, PyData.depthAll]
theorem nm_shaped {n : Nm} (h : n.ok = true) : SeqAt.shaped n.toD = true := by
  have h1 := nm_depth n
  show (n.toD.canLay0 && decide (n.toD.depth ≤ 64)) = true
  rw [Bool.and_eq_true]
  exact ⟨nm_lay h, decide_eq_true (by omega)⟩
theorem nms_lay : ∀ l : List Nm, (∀ n ∈ l, n.ok = true) → PyData.canLayAll0 (l.map Nm.toD) = true
  | [], _ => by simp [PyData.canLayAll0]
  | n :: l, h => by simp [PyData.canLayAll0, nm_lay (h n (List.mem_cons_self ..)), nms_lay l fun m hm => h m (List.mem_cons_of_mem _ hm)]
theorem nms_depth : ∀ l : List Nm, PyData.depthAll (l.map Nm.toD) ≤ 2
  | .nil => by simp [PyData.depthAll]
  | n :: l => by
    have h1 := nms_depth l
    have h2 := nm_depth n
    simp only [PyData.depthAll, List.map_cons]
    omega
theorem nms_shaped {l : List Nm} (h : ∀ n ∈ l, n.ok = true) : SeqAt.shaped (.list (l.map Nm.toD)) = true := by
  have h1 := nms_depth l
  show (PyData.canLay0 (.list (l.map Nm.toD)) && decide (PyData.depth (.list (l.map Nm.toD)) ≤ 64)) = true
  rw [Bool.and_eq_true]
  refine ⟨by simp only [PyData.canLay0]; exact nms_lay l h, decide_eq_true ?_⟩
  simp only [PyData.depth]
  omega
theorem nm_eqv (n m : Nm) : PyData.eqv n.toD m.toD = decide (n = m) := by
  cases n with
  | sc x =>
    cases m with
    | sc y =>
      simp only [Nm.toD, PyData.eqv]
      by_cases q : x = y
      · subst q; simp
      · rw [decide_eq_false (fun e => q (by cases e; rfl))]
        exact beq_eq_false_iff_ne.mpr q
    | cell t i => simp [Nm.toD, PyData.eqv]
  | cell t i =>
    cases m with
    | sc y => simp [Nm.toD, PyData.eqv]
    | cell t' i' =>
      simp only [Nm.toD, PyData.eqv, PyData.eqvAll, Bool.and_true]
      by_cases q : t = t' ∧ i = i'
      · obtain ⟨rfl, rfl⟩ := q; simp
      · rw [decide_eq_false (fun e => q (by cases e; exact ⟨rfl, rfl⟩))]
        by_cases q1 : t = t'
        · have q2 : i ≠ i' := fun z => q ⟨q1, z⟩
          rw [beq_eq_false_iff_ne.mpr q2, Bool.and_false]
        · rw [beq_eq_false_iff_ne.mpr q1, Bool.false_and]
/-- the program's runner in its three objects -/
structure RM (C : Addr) (H : Hp) (p pla sl : Addr) (cv : V) (pl : List Nm) (code : List Ins) (m : Mc) : Prop where
  ins : ∃ dx fa, H p = some (.ins C dx (runF pla cv sl m.pc m.over fa))
  places : ∃ xs, H pla = some (.lst xs) ∧ Tps H xs (pl.map Nm.toD)
  slots : ∃ ss : List Int, H sl = some (.lst (ss.map V.int)) ∧ ss.length = 32 ∧ ∀ r, r < 32 → ss.getD r 0 = m.sl r
  code : Tp H cv (codeD code)
  ne : pla ≠ sl
theorem RM.kp {C : Addr} {H H' : Hp} {p pla sl : Addr} {cv : V} {pl : List Nm} {code : List Ins} {m : Mc} {S : List Addr} (h : RM C H p pla sl cv pl code m) (k : Kp S H H') (n1 : p ∉ S) (n2 : pla ∉ S) (n3 : sl ∉ S) : RM C H' p pla sl cv pl code m := by
  obtain ⟨⟨dx, fa, a⟩, ⟨xs, b, tb⟩, ⟨ss, c, l, f⟩, t, ne⟩ := h
  exact ⟨⟨dx, fa, k.same _ _ a n1⟩, ⟨xs, k.same _ _ b n2, Tps.keep k.tk _ _ tb⟩, ⟨ss, k.same _ _ c n3, l, f⟩, Tp.keep k.tk _ _ t, ne⟩
/-- what the walk asks of Runner as the top has made it -/
structure RT (K : PySem.W.Frag) (C : Addr) : Prop where
  cl : Cls K C
  n1 : NoAttr K C f_places
  n2 : NoAttr K C f_code
  n3 : NoAttr K C f_slots
  n4 : NoAttr K C f_next_at
  n5 : NoAttr K C f_is_over
  n6 : NoAttr K C f_fault_at
/-- a method of the class, its defaults dvs behind the values that are written -/
def MHas (P : Program) (w : World) (K : PySem.W.Frag) (mg : Str → Option Value) (base : Heap) (C : Addr) (m : Str) (k : Nat) (ps : List Str) (dvs : List V) (sp : Sp) : Prop :=
  ∃ f fd ds, Meth K C m f ∧ Binds K fd ps ds ∧ Vals dvs ds ∧ FnOk P w K mg base CX0 k f fd ps sp
section
variable {X : Cx} {o e : Expr} {es : List Expr} {m : Str} {apos pos : Pos} {C : Addr} {ta : TE} {t : TA} {k : Nat} {ps : List Str} {dvs : List V} {sp : Sp}
theorem pe_mhas {look : Sem Bool} (h : MHas X.prog X.w X.K X.mg X.base C m k ps dvs sp) (c : Cls X.K C) (hr : Room k X.A) (he : PE X o ta) (ha : PA X (e :: es) t) (hst : starEach (e :: es) X.env = (false, eval e X.env) :: starEach es X.env := by rfl)
    (hpl : (backTo pos (starEach es X.env)).any (·.1) = false := by rfl) (ht : eval (.Call (.Attribute o m apos) (e :: es) [] pos) X.env = (do
      let self ← eval o X.env
      standAt apos.atName
      let (f, first) ← holding [self] (getMethod self m look)
      callWith pos f first (backTo pos (starEach (e :: es) X.env)) (backToKw pos (keywordEach [] X.env)) : Sem Value) := by rfl) : PE X (.Call (.Attribute o m apos) (e :: es) [] pos) (tMeth C m sp dvs E0 ta t) := by
  obtain ⟨f, fd, ds, a, b, v, d⟩ := h
  exact pe_meth he c a d hr b v pass0 ha hst hpl ht
theorem pe_mhas0 {look : Sem Bool} (h : MHas X.prog X.w X.K X.mg X.base C m k ps dvs sp) (c : Cls X.K C) (hr : Room k X.A) (he : PE X o ta) (ht : eval (.Call (.Attribute o m apos) [] [] pos) X.env = (do
      let self ← eval o X.env
      standAt apos.atName
      let (f, first) ← holding [self] (getMethod self m look)
      callWith pos f first (backTo pos (starEach [] X.env)) (backToKw pos (keywordEach [] X.env)) : Sem Value) := by rfl) : PE X (.Call (.Attribute o m apos) [] [] pos) (tMeth C m sp dvs E0 ta tNil) := by
  obtain ⟨f, fd, ds, a, b, v, d⟩ := h
  exact pe_meth0 he c a d hr b v pass0 ht
end
def spStop (C : Addr) : Sp := fun vs H Q _ => ∃ p dx pla cv sl pc ov fa fv, vs = [.ref p, fv] ∧ H p = some (.ins C dx (runF pla cv sl pc ov fa)) ∧ ∀ H', Kp [p] H H' → H' p = some (.ins C dx (runF pla cv sl pc true fv)) → Q .non H'
def spCell (C : Addr) : Sp := fun vs H Q _ => ∃ p pla sl cv pl code m iv ins n, vs = [.ref p, iv] ∧ RM C H p pla sl cv pl code m ∧ Tp H iv ins.toD ∧ tgt m ins = some n ∧ (∀ n, ins.nm? = some n → (idx pl n).isSome = true) ∧ InsOk pl code.length 0 ins ∧ (∀ n ∈ pl, n.ok = true) ∧
  ∀ H', Kp [] H H' → Q (optV (idx pl n)) H'
section
variable {P : Program} {w : World} {base : Heap} {mg : Str → Option Value} {K : PySem.W.Frag}
theorem ok_stop {C f : Addr} {fd : FuncData} {dvs : List V} {kws : List (Str × V)} (T : RT K C) (F : FunD K "stop" "Runner.stop" (defArgs sRStop) (defBody sRStop) (defScope sRStop) dvs kws f fd) : FnOk P w K mg base CX0 1 f fd ["self", "fault_at"] (spStop C) := by
  refine F.ok scRStop (fun vs H Q E h => ?_) (fun cdv A outer s H vs Q E hr h => ?_)
  · obtain ⟨_, _, _, _, _, _, _, _, _, rfl, _⟩ := h
    rfl
  · obtain ⟨p, dx, pla, cv, sl, pc, ov, fa, fv, rfl, hp, k⟩ := h
    have l6 : (6 : Nat) < 1000 := by decide
    refine ⟨_, pss_one (ps_asg (pe_tup (pa_cons pe_bl (pa_cons (pv 1) pa_nil))) (pg_tup rfl (pgs_cons (pg_fld (pv 0)) (pgs_cons (pg_fld (pv 0)) pgs_nil)))), ?_⟩
    refine ⟨_, rfl, (by show 2 ≤ sizeLine; decide), fun t nt => ?_⟩
    have kt := (Kp.refl [p] H).new (o := .tup [.bl true, fv]) nt
    have hpt := (upd_ne (ne_of_none hp nt) : (upd H t (.tup [.bl true, fv]) : Hp) p = _).trans hp
    refine ⟨t, _, rfl, .of upd_same, rfl, _, _, rfl, ⟨_, rfl, p, C, dx, _, rfl, hpt, T.cl, T.n5, l6, ?_⟩⟩
    have e1 : putF (Str.ofString "is_over") (.bl true) (runF pla cv sl pc ov fa) = runF pla cv sl pc true fa := rp_is_over
    rw [e1]
    refine ⟨_, _, rfl, ⟨_, rfl, p, C, dx, _, rfl, upd_same, T.cl, T.n6, l6, rfl, ?_⟩⟩
    have e2 : putF (Str.ofString "fault_at") fv (runF pla cv sl pc true fa) = runF pla cv sl pc true fv := rp_fault_at
    rw [e2, upd_upd]
    exact k _ (kt.put (by simp) hpt (fun _ z => by cases z)) upd_same
end
end Ork
end
section
set_option Elab.async false
set_option linter.all false
set_option maxRecDepth 100000
set_option pp.maxSteps 3000
namespace Ork
open PySem L2 PySem.Spec PyProof.Rows

theorem room70 {A : Around} {k : Nat} (hr : Room k A) : A.units + 70 < cLine := by
  obtain ⟨_, _, h⟩ := hr
  omega
theorem idx_get {pl : List Nm} {n : Nm} {j : Nat} (h : idx pl n = some j) : pl[j]? = some n ∧ ∀ m z, m < j → pl[m]? = some z → z ≠ n := by
  obtain ⟨h1, h2, h3⟩ := List.findIdx?_eq_some_iff_getElem.mp h
  refine ⟨by rw [List.getElem?_eq_getElem h1, of_decide_eq_true h2], fun m z hm hz e => ?_⟩
  subst e
  have h4 := h3 m hm
  have hml : m < pl.length := by omega
  rw [List.getElem?_eq_getElem hml] at hz
  rw [Option.some.inj hz] at h4
  simp at h4
theorem idx_any {pl : List Nm} {n : Nm} : ((pl.map Nm.toD).any fun z => PyData.eqv z n.toD) = (idx pl n).isSome := by
  unfold idx
  rw [List.findIdx?_isSome, List.any_map]
  congr 1
  funext x
  exact nm_eqv x n
theorem indexR {K : PySem.W.Frag} {H : Hp} {pla : Addr} {xs : List V} {pl : List Nm} {v : V} {n : Nm} {j : Nat} {Q : V → Hp → Prop} (e2 : H pla = some (.lst xs)) (txs : Tps H xs (pl.map Nm.toD)) (hv : NmV H v n) (hj : idx pl n = some j) (hok : ∀ n ∈ pl, n.ok = true)
    (q : Q (.int (j : Nat)) H) : rIndexD K (.ref pla) [v] H Q := by
  obtain ⟨h1, h2⟩ := idx_get hj
  have hn : n ∈ pl := List.mem_of_getElem? h1
  refine ⟨pla, v, n.toD, _, j, n.toD, rfl, rfl, .lst (.of e2) (Tps.dp _ _ txs), Tp.dp _ _ (nm_to hv), nms_shaped hok, nm_shaped (hok n hn), by rw [List.getElem?_map, h1]; rfl, by rw [nm_eqv]; simp, fun m z hm hz => ?_, q⟩
  rw [List.getElem?_map] at hz
  obtain ⟨n', hn', rfl⟩ := Option.map_eq_some_iff.mp hz
  rw [nm_eqv]
  exact decide_eq_false (h2 m n' hm hn')
section
variable {P : Program} {w : World} {base : Heap} {mg : Str → Option Value} {K : PySem.W.Frag}
theorem ok_cell {C f : Addr} {fd : FuncData} (T : RT K C) (F : Fun K "cell_at" "Runner.cell_at" sRCell f fd) : FnOk P w K mg base CX0 1 f fd ["self", "instruction"] (spCell C) := by
  refine F.ok scRCell (fun vs H Q E h => ?_) (fun cdv A outer s H vs Q E hr h => ?_)
  · obtain ⟨_, _, _, _, _, _, _, _, _, _, rfl, _⟩ := h
    rfl
  · obtain ⟨p, pla, sl, cv, pl, code, m, iv, ins, n, rfl, rm, tp, ht, hin, io, hok, k⟩ := h
    have hu := hu_of hr
    have nd := scRCell.nd
    have h70 := room70 hr
    obtain ⟨⟨dx, fa, e1⟩, ⟨xs, e2, txs⟩, ⟨ss, e3, l32, hss⟩, tc, ne⟩ := id rm
    obtain ⟨a, x, rfl, ha, hx⟩ := ins_of tp
    refine ⟨_, pss_cons (ps_asg (pe_tup (StX.pa_star (pv 1) (pa_cons pe_non pa_nil))) (pg_tupStar (i := 3) rfl (pgs_cons (pg_name (i := 2) nd rfl (.inl rfl)) (pgs_cons (pg_name (i := 3) nd rfl (.inl rfl)) (pgs_cons (pg_name (i := 4) nd rfl (.inl rfl)) (pgs_star (pg_name (i := 5) nd rfl (.inl rfl)) pgs_nil))))))
      (pss_cons (ps_if (pt_cmpR op_in_seq (pv 2) (pe_tup (pa_cons pe_str (pa_cons pe_str pa_nil))) rfl)
        (pss_one (ps_ret (pe_bm PySem.F.plainAttrs_list PySem.F.slot_list_index PySem.F.type_list_index (mt_indexD (Nat.lt_of_le_of_lt (Nat.add_le_add_left (by decide) _) h70)) (pe_fld (pv 0) rfl) (pa_cons (pe_ifExp (pt_cmpR op_eq (pv 2) pe_str (nomark _)) (pv 4) (pv 3)) pa_nil)))) pss_nil)
      (pss_cons (ps_asg (pe_ifExp (pt_cmpR op_eq (pv 2) pe_str (nomark _)) (pe_tup (pa_cons (pv 4) (pa_cons (pe_ix ix_list (pv 5) pe_int (fun _ _ => rfl)) pa_nil))) (pe_tup (pa_cons (pv 3) (pa_cons (pv 4) pa_nil)))) (pg_tup rfl (pgs_cons (pg_name (i := 6) nd rfl (.inl rfl)) (pgs_cons (pg_name (i := 7) nd rfl (.inl rfl)) pgs_nil))))
      (pss_cons (ps_set (i := 8) nd rfl (.inl rfl) (pe_tup (pa_cons (pv 6) (pa_cons (pe_ix ix_list (pe_fld (pv 0) rfl) (pv 7) (fun _ _ => rfl)) pa_nil))))
      (pss_one (ps_ret (pe_ifExp (pt_cmpR (op_inD (Nat.lt_of_le_of_lt (Nat.add_le_add_left (by decide) _) h70)) (pv 8) (pe_fld (pv 0) rfl) rfl) (pe_bm PySem.F.plainAttrs_list PySem.F.slot_list_index PySem.F.type_list_index (mt_indexD (Nat.lt_of_le_of_lt (Nat.add_le_add_left (by decide) _) h70)) (pe_fld (pv 0) rfl) (pa_cons (pv 8) pa_nil)) pe_non)))))), ?_⟩
    cases ins with
    | load r n' =>
      refine ⟨_, rfl, a, _, rfl, .inl (.of ha), (by show 4 ≤ sizeLine; decide), fun t nt => ⟨t, _, rfl, .of upd_same, (by show 3 ≤ 4; decide), (by show 4 ≤ 16384; decide), fun D nD => ⟨.str "load", _, rfl, .int r, _, rfl, x, _, rfl, .ref D, _, rfl, rfl, ?_⟩⟩⟩
      have kt := (Kp.refl [] H).new (o := .tup ([.str "load", .int r, x] ++ [.non])) nt
      have kD := kt.new (o := .lst [.non]) nD
      have e1' := kD.same _ _ e1 (by simp)
      have e2' := kD.same _ _ e2 (by simp)
      have e3' := kD.same _ _ e3 (by simp)
      have txs' := Tps.keep kD.tk _ _ txs
      have hD := at_top kD
      obtain rfl : n' = n := by cases ht; rfl
      obtain ⟨j, hj⟩ := Option.isSome_iff_exists.mp (hin _ rfl)
      rw [hj] at k
      have hx' := (hx _ rfl).keep kD.tk
      refine ⟨_, rfl, (by show 2 ≤ sizeLine; decide), fun u nu => ⟨u, _, rfl, .inr (.of upd_same), rfl, rfl, _, rfl, iteT ?_⟩⟩
      have ku := kD.new (o := .tup [.str "load", .str "store"]) nu
      have k1 := (Kp.refl [] _).new (o := .tup [.str "load", .str "store"]) nu
      have e1u := k1.same _ _ e1' (by simp)
      have e2u := k1.same _ _ e2' (by simp)
      exact ⟨_, rfl, p, C, dx, _, _, rfl, e1u, T.cl, T.n1, rl_places, .inl ⟨rfl, _, .inl (.inl e2u)⟩, ⟨_, rfl, rfl, _, rfl, iteT ⟨_, rfl, indexR e2u (Tps.keep k1.tk _ _ txs') (hx'.keep k1.tk) hj hok (k _ ku)⟩⟩⟩
    | store n' r =>
      refine ⟨_, rfl, a, _, rfl, .inl (.of ha), (by show 4 ≤ sizeLine; decide), fun t nt => ⟨t, _, rfl, .of upd_same, (by show 3 ≤ 4; decide), (by show 4 ≤ 16384; decide), fun D nD => ⟨.str "store", _, rfl, x, _, rfl, .int r, _, rfl, .ref D, _, rfl, rfl, ?_⟩⟩⟩
      have kt := (Kp.refl [] H).new (o := .tup ([.str "store", x, .int r] ++ [.non])) nt
      have kD := kt.new (o := .lst [.non]) nD
      have e1' := kD.same _ _ e1 (by simp)
      have e2' := kD.same _ _ e2 (by simp)
      have e3' := kD.same _ _ e3 (by simp)
      have txs' := Tps.keep kD.tk _ _ txs
      have hD := at_top kD
      obtain rfl : n' = n := by cases ht; rfl
      obtain ⟨j, hj⟩ := Option.isSome_iff_exists.mp (hin _ rfl)
      rw [hj] at k
      have hx' := (hx _ rfl).keep kD.tk
      refine ⟨_, rfl, (by show 2 ≤ sizeLine; decide), fun u nu => ⟨u, _, rfl, .inr (.of upd_same), rfl, rfl, _, rfl, iteT ?_⟩⟩
      have ku := kD.new (o := .tup [.str "load", .str "store"]) nu
      have k1 := (Kp.refl [] _).new (o := .tup [.str "load", .str "store"]) nu
      have e1u := k1.same _ _ e1' (by simp)
      have e2u := k1.same _ _ e2' (by simp)
      exact ⟨_, rfl, p, C, dx, _, _, rfl, e1u, T.cl, T.n1, rl_places, .inl ⟨rfl, _, .inl (.inl e2u)⟩, ⟨_, rfl, rfl, _, rfl, iteF ⟨_, rfl, indexR e2u (Tps.keep k1.tk _ _ txs') (hx'.keep k1.tk) hj hok (k _ ku)⟩⟩⟩
    | loadat r tn s' =>
      refine ⟨_, rfl, a, _, rfl, .inl (.of ha), (by show 5 ≤ sizeLine; decide), fun t nt => ⟨t, _, rfl, .of upd_same, (by show 3 ≤ 5; decide), (by show 5 ≤ 16384; decide), fun D nD => ⟨.str "loadat", _, rfl, .int r, _, rfl, .str tn, _, rfl, .ref D, _, rfl, rfl, ?_⟩⟩⟩
      have kt := (Kp.refl [] H).new (o := .tup ([.str "loadat", .int r, .str tn, .int s'] ++ [.non])) nt
      have kD := kt.new (o := .lst [.int s', .non]) nD
      have e1' := kD.same _ _ e1 (by simp)
      have e2' := kD.same _ _ e2 (by simp)
      have e3' := kD.same _ _ e3 (by simp)
      have txs' := Tps.keep kD.tk _ _ txs
      have hD := at_top kD
      obtain rfl : Nm.cell tn (m.sl s') = n := by cases ht; rfl
      have hs : s' < 3 := io.2.1
      have hnok : (Nm.cell tn (m.sl s')).ok = true := io.2.2.1
      refine ⟨_, rfl, (by show 2 ≤ sizeLine; decide), fun u nu => ⟨u, _, rfl, .inr (.of upd_same), rfl, rfl, _, rfl, iteF ?_⟩⟩
      have ku := kD.new (o := .tup [.str "load", .str "store"]) nu
      have k1 := (Kp.refl [] _).new (o := .tup [.str "load", .str "store"]) nu
      have e1u := k1.same _ _ e1' (by simp)
      have e2u := k1.same _ _ e2' (by simp)
      have e3u := k1.same _ _ e3' (by simp)
      have hDu := k1.same _ _ hD (by simp)
      have txu := Tps.keep k1.tk _ _ txs'
      refine ⟨_, rfl, rfl, _, rfl, iteT ⟨_, rfl, _, rfl, D, _, (0 : Nat), .int s', rfl, rfl, .of hDu, atI_nat rfl, (by show 2 ≤ sizeLine; decide), fun z nz => ?_⟩⟩
      have kz := ku.new (o := .tup [.str tn, .int s']) nz
      have k2 := k1.new (o := .tup [.str tn, .int s']) nz
      have e1z := k2.same _ _ e1' (by simp)
      have e2z := k2.same _ _ e2' (by simp)
      have e3z := k2.same _ _ e3' (by simp)
      have hsv : (ss.map V.int)[s']? = some (.int (m.sl s')) := by rw [getM (by omega), hss s' (by omega)]
      refine ⟨z, _, rfl, .of upd_same, rfl, _, _, rfl, _, _, rfl, rfl, ?_⟩
      refine ⟨_, rfl, _, rfl, p, C, dx, _, _, rfl, e1z, T.cl, T.n3, rl_slots, _, rfl, sl, _, _, _, rfl, rfl, .of e3z, atI_nat hsv, (by show 2 ≤ sizeLine; decide), fun y ny => ?_⟩
      have ky := kz.new (o := .tup [.str tn, .int (m.sl s')]) ny
      have k3 := k2.new (o := .tup [.str tn, .int (m.sl s')]) ny
      have e1y := k3.same _ _ e1' (by simp)
      have e2y := k3.same _ _ e2' (by simp)
      have txy := Tps.keep k3.tk _ _ txs'
      have hnv : NmV _ (.ref y) (Nm.cell tn (m.sl s')) := ⟨y, rfl, at_top ky⟩
      refine ⟨_, rfl, _, rfl, p, C, dx, _, _, rfl, e1y, T.cl, T.n1, rl_places, (Nm.cell tn (m.sl s')).toD, _, Tp.dp _ _ (nm_to hnv), .lst (.of e2y) (Tps.dp _ _ txy), nm_shaped hnok, nms_shaped hok, _, rfl, ?_⟩
      rw [idx_any]
      have kk := k _ ky
      cases hj : idx pl (Nm.cell tn (m.sl s')) with
      | none =>
        rw [hj] at kk
        exact iteF kk
      | some j =>
        rw [hj] at kk
        exact iteT ⟨_, rfl, p, C, dx, _, _, rfl, e1y, T.cl, T.n1, rl_places, .inl ⟨rfl, _, .inl (.inl e2y)⟩, _, rfl, indexR e2y txy hnv hj hok kk⟩
    | storeat tn s' r =>
      refine ⟨_, rfl, a, _, rfl, .inl (.of ha), (by show 5 ≤ sizeLine; decide), fun t nt => ⟨t, _, rfl, .of upd_same, (by show 3 ≤ 5; decide), (by show 5 ≤ 16384; decide), fun D nD => ⟨.str "storeat", _, rfl, .str tn, _, rfl, .int s', _, rfl, .ref D, _, rfl, rfl, ?_⟩⟩⟩
      have kt := (Kp.refl [] H).new (o := .tup ([.str "storeat", .str tn, .int s', .int r] ++ [.non])) nt
      have kD := kt.new (o := .lst [.int r, .non]) nD
      have e1' := kD.same _ _ e1 (by simp)
      have e2' := kD.same _ _ e2 (by simp)
      have e3' := kD.same _ _ e3 (by simp)
      have txs' := Tps.keep kD.tk _ _ txs
      have hD := at_top kD
      obtain rfl : Nm.cell tn (m.sl s') = n := by cases ht; rfl
      have hs : s' < 3 := io.2.1
      have hnok : (Nm.cell tn (m.sl s')).ok = true := io.2.2.1
      refine ⟨_, rfl, (by show 2 ≤ sizeLine; decide), fun u nu => ⟨u, _, rfl, .inr (.of upd_same), rfl, rfl, _, rfl, iteF ?_⟩⟩
      have ku := kD.new (o := .tup [.str "load", .str "store"]) nu
      have k1 := (Kp.refl [] _).new (o := .tup [.str "load", .str "store"]) nu
      have e1u := k1.same _ _ e1' (by simp)
      have e2u := k1.same _ _ e2' (by simp)
      have e3u := k1.same _ _ e3' (by simp)
      have hDu := k1.same _ _ hD (by simp)
      have txu := Tps.keep k1.tk _ _ txs'
      refine ⟨_, rfl, rfl, _, rfl, iteF ⟨_, rfl, _, rfl, (by show 2 ≤ sizeLine; decide), fun z nz => ?_⟩⟩
      have kz := ku.new (o := .tup [.str tn, .int s']) nz
      have k2 := k1.new (o := .tup [.str tn, .int s']) nz
      have e1z := k2.same _ _ e1' (by simp)
      have e2z := k2.same _ _ e2' (by simp)
      have e3z := k2.same _ _ e3' (by simp)
      have hsv : (ss.map V.int)[s']? = some (.int (m.sl s')) := by rw [getM (by omega), hss s' (by omega)]
      refine ⟨z, _, rfl, .of upd_same, rfl, _, _, rfl, _, _, rfl, rfl, ?_⟩
      refine ⟨_, rfl, _, rfl, p, C, dx, _, _, rfl, e1z, T.cl, T.n3, rl_slots, _, rfl, sl, _, _, _, rfl, rfl, .of e3z, atI_nat hsv, (by show 2 ≤ sizeLine; decide), fun y ny => ?_⟩
      have ky := kz.new (o := .tup [.str tn, .int (m.sl s')]) ny
      have k3 := k2.new (o := .tup [.str tn, .int (m.sl s')]) ny
      have e1y := k3.same _ _ e1' (by simp)
      have e2y := k3.same _ _ e2' (by simp)
      have txy := Tps.keep k3.tk _ _ txs'
      have hnv : NmV _ (.ref y) (Nm.cell tn (m.sl s')) := ⟨y, rfl, at_top ky⟩
      refine ⟨_, rfl, _, rfl, p, C, dx, _, _, rfl, e1y, T.cl, T.n1, rl_places, (Nm.cell tn (m.sl s')).toD, _, Tp.dp _ _ (nm_to hnv), .lst (.of e2y) (Tps.dp _ _ txy), nm_shaped hnok, nms_shaped hok, _, rfl, ?_⟩
      rw [idx_any]
      have kk := k _ ky
      cases hj : idx pl (Nm.cell tn (m.sl s')) with
      | none =>
        rw [hj] at kk
        exact iteF kk
      | some j =>
        rw [hj] at kk
        exact iteT ⟨_, rfl, p, C, dx, _, _, rfl, e1y, T.cl, T.n1, rl_places, .inl ⟨rfl, _, .inl (.inl e2y)⟩, _, rfl, indexR e2y txy hnv hj hok kk⟩
    | _ => cases ht
end
end Ork
end
section
set_option Elab.async false
set_option linter.all false
set_option maxRecDepth 100000
set_option pp.maxSteps 3000
namespace Ork
open PySem L2 PySem.Spec PyProof.Rows

theorem ixN_at {n j : Nat} (h : j < n) : ixN n (j : Int) = some j := by
  unfold ixN
  rw [if_pos (by omega)]; rw [if_pos (by omega)]
  simp
theorem set_slots {ss : List Int} {f : Nat → Int} {r : Nat} {v : Int} (l : ss.length = 32) (h : ∀ q, q < 32 → ss.getD q 0 = f q) (hr : r < 32) : (ss.set r v).length = 32 ∧ ∀ q, q < 32 → (ss.set r v).getD q 0 = setS f r v q := by
  refine ⟨by rw [List.length_set]; exact l, fun q hq => ?_⟩
  unfold setS
  rw [List.getD_eq_getElem?_getD]; by_cases e : q = r
  · subst e
    rw [if_pos rfl, List.getElem?_set_self (by omega)]
    rfl
  · rw [if_neg e, List.getElem?_set_ne (Ne.symm e), ← List.getD_eq_getElem?_getD]
    exact h q hq
def spTouchP (C : Addr) : Sp := fun vs H Q _ => ∃ p pla sl cv vl pl code m c i ins n, vs = [.ref p, .ref vl, .int (i : Nat)] ∧ RM C H p pla sl cv pl code m ∧ m.over = false ∧ H vl = some (.lst (c.map V.int)) ∧ c.length = pl.length ∧ vl ≠ pla ∧ vl ≠ sl ∧
  code[i]? = some ins ∧ tgt m ins = some n ∧ InsOk pl code.length i ins ∧ (∀ n ∈ pl, n.ok = true) ∧
  ∀ H' v, Kp [p, sl, vl] H H' → RM C H' p pla sl cv pl code (insM pl ins m c).1 → H' vl = some (.lst ((insM pl ins m c).2.1.map V.int)) → ((insM pl ins m c).2.2 = true → ∃ t, v = .ref t) → ((insM pl ins m c).2.2 = false → v = .non) → Q v H'
theorem mem_ok0 {pl : List Nm} {len i : Nat} {ins : Ins} {n : Nm} {m : Mc} (h : InsOk pl len i ins) (ht : tgt m ins = some n) : InsOk pl len 0 ins := by
  cases ins <;> first | exact h | cases ht
section
variable {P : Program} {w : World} {base : Heap} {mg : Str → Option Value} {K : PySem.W.Frag}
theorem ok_touchP {C f : Addr} {fd : FuncData} (T : RT K C) (F : Fun K "touch" "Runner.touch" sRTouch f fd)
    (hC : MHas P w K mg base C "cell_at" 1 ["self", "instruction"] [] (spCell C)) (hS : MHas P w K mg base C "stop" 1 ["self", "fault_at"] [] (spStop C)) : FnOk P w K mg base CX0 2 f fd ["self", "values", "i"] (spTouchP C) := by
  refine F.ok scRTouch (fun vs H Q E h => ?_) (fun cdv A outer s H vs Q E hr h => ?_)
  · obtain ⟨_, _, _, _, _, _, _, _, _, _, _, _, rfl, _⟩ := h
    rfl
  · obtain ⟨p, pla, sl, cv, vl, pl, code, m, c, i, ins, n, rfl, rm, ho, hv, hc, nvp, nvs, hins, ht, io, hok, k⟩ := h
    have hu := hu_of hr
    have nd := scRTouch.nd
    obtain ⟨⟨dx, fa, e1⟩, ⟨xs, e2, txs⟩, ⟨ss, e3, l32, hss⟩, tc, ne⟩ := id rm
    obtain ⟨ca, cvs, rfl, hca, tcs⟩ : ∃ ca cvs, cv = .ref ca ∧ H ca = some (.tup cvs) ∧ Tps H cvs (code.map Ins.toD) := by
      cases tc with
      | tup a b => exact ⟨_, _, rfl, a, b⟩
    obtain ⟨iv, hiv, tpi⟩ := tcs.get (i := i) (d := ins.toD) (by rw [List.getElem?_map, hins]; rfl)
    refine ⟨_, pss_cons (ps_set (i := 3) nd rfl (.inl rfl) (pe_ix ix_tup (pe_fld (pv 0) rfl) (pv 2) (fun _ _ => rfl)))
      (pss_cons (ps_set (i := 4) nd rfl (.inl rfl) (pe_mhas hC T.cl hr (pv 0) (pa_cons (pv 3) pa_nil)))
      (pss_cons (ps_if (pt_cmpR op_isN (pv 4) pe_non (nomark _)) (pss_cons (ps_expr (pe_mhas hS T.cl hr (pv 0) (pa_cons (pv 2) pa_nil))) (pss_one (ps_ret pe_non))) pss_nil)
      (pss_cons (ps_if (pt_cmpR op_in_seq (pe_ix ix_tup (pv 3) pe_int (fun _ _ => rfl)) (pe_tup (pa_cons pe_str (pa_cons pe_str pa_nil))) rfl)
        (pss_cons (ps_asg (pe_ix ix_list (pv 1) (pv 4) (fun _ _ => rfl)) (pg_sub (pe_fld (pv 0) rfl) (pe_ix ix_tup (pv 3) pe_int (fun _ _ => rfl)) set_list))
          (pss_one (ps_ret (pe_tup (pa_cons pe_str (pa_cons (pv 4) (pa_cons (pe_ix ix_list (pv 1) (pv 4) (fun _ _ => rfl)) (pa_cons (pv 2) pa_nil)))))))) pss_nil)
      (pss_cons (ps_asg (pe_ix ix_list (pe_fld (pv 0) rfl) (pe_ix ix_tup (pv 3) (pe_un un_neg pe_int) (fun _ _ => rfl)) (fun _ _ => rfl)) (pg_sub (pv 1) (pv 4) set_list))
      (pss_one (ps_ret (pe_tup (pa_cons pe_str (pa_cons (pv 4) (pa_cons (pe_ix ix_list (pv 1) (pv 4) (fun _ _ => rfl)) (pa_cons (pv 2) pa_nil))))))))))), ?_⟩
    have hin : ∀ n, ins.nm? = some n → (idx pl n).isSome = true := by
      intro n hn
      cases ins <;> cases hn <;> exact io.2
    refine ⟨_, rfl, p, C, dx, _, _, rfl, e1, T.cl, T.n2, rl_code, _, rfl, ca, _, _, _, rfl, rfl, .of hca, atI_nat hiv, ?_⟩
    refine ⟨_, rfl, p, dx, _, rfl, e1, rn_cell_at, _, rfl, p, pla, sl, .ref ca, pl, code, m, iv, ins, n, rfl, rm, tpi, ht, hin, mem_ok0 io ht, hok, fun H1 k1 => ?_⟩
    obtain ⟨a, x, rfl, ha0, hx⟩ := ins_of tpi
    have ha := k1.tk _ _ ha0
    have e1a := k1.same _ _ e1 (by simp)
    have e3a := k1.same _ _ e3 (by simp)
    have hva := k1.same _ _ hv (by simp)
    have rma := rm.kp k1 (by simp) (by simp) (by simp)
    have kw1 : Kp [p, sl, vl] H H1 := k1.mono (by simp)
    have pnp : p ≠ sl := ne_of e1 e3 (fun z => by cases z)
    cases hj : idx pl n with
    | none =>
      refine ⟨_, rfl, rfl, _, rfl, iteT ?_⟩
      rw [insM_none ht hj] at k
      refine ⟨_, rfl, p, dx, _, rfl, e1a, rn_stop, _, rfl, p, dx, pla, .ref ca, sl, m.pc, m.over, fa, _, rfl, e1a, fun H2 k2 h2 => ?_⟩
      refine k _ _ (kw1.trans (k2.mono (by simp))) ⟨⟨dx, _, h2⟩, ⟨xs, k2.same _ _ (k1.same _ _ e2 (by simp)) (by simpa using (ne_of e2 e1 (fun z => by cases z))), Tps.keep k2.tk _ _ (Tps.keep k1.tk _ _ txs)⟩, ⟨ss, k2.same _ _ e3a (by simpa using pnp.symm), l32, hss⟩, Tp.keep k2.tk _ _ (Tp.keep k1.tk _ _ tc), ne⟩
        (k2.same _ _ hva (by simpa using (ne_of hv e1 (fun z => by cases z)))) (fun z => by cases z) (fun _ => rfl)
    | some j =>
      refine ⟨_, rfl, rfl, _, rfl, iteF ?_⟩
      have hjl : j < c.length := by rw [hc]; exact idx_lt hj
      have hi := getM (c := c) hjl
      cases ins with
      | load r n' =>
        obtain rfl : n' = n := by cases ht; rfl
        refine ⟨_, rfl, a, _, 0, .str "load", rfl, rfl, .of ha, rfl, (by show 2 ≤ sizeLine; decide), fun t nt => ⟨t, _, rfl, .inr (.of upd_same), rfl, rfl, _, rfl, iteT ?_⟩⟩
        have kt := k1.new (o := .tup [.str "load", .str "loadat"]) nt
        have kt1 := (Kp.refl [] H1).new (o := .tup [.str "load", .str "loadat"]) nt
        have e1t := kt1.same _ _ e1a (by simp)
        have e3t := kt1.same _ _ e3a (by simp)
        have hvt := kt1.same _ _ hva (by simp)
        have hat := kt1.tk _ _ ha
        have rmt := rma.kp kt1 (by simp) (by simp) (by simp)
        have hr3 : r < 3 := io.1
        refine ⟨_, rfl, _, rfl, vl, _, _, _, rfl, rfl, .of hvt, atI_nat hi, _, rfl, p, C, dx, _, _, rfl, e1t, T.cl, T.n3, rl_slots, _, rfl, a, _, 1, .int r, rfl, rfl, .of hat, rfl, sl, _, _, r, rfl, rfl, e3t, ixN_at (by rw [List.length_map]; omega), ?_⟩
        have hs : (ss.map V.int).set r (.int (c.getD j 0)) = (ss.set r (c.getD j 0)).map V.int := by rw [List.map_set]
        rw [hs]
        have kw := (kt.mono (S' := [p, sl, vl]) (by simp)).put (o := .lst ((ss.set r (c.getD j 0)).map V.int)) (p := sl) (by simp) e3t (fun _ z => by cases z)
        have kt2 := (Kp.refl [sl] _).put (o := .lst ((ss.set r (c.getD j 0)).map V.int)) (p := sl) (by simp) e3t (fun _ z => by cases z)
        have hvw := kt2.same _ _ hvt (by simpa using nvs)
        refine ⟨_, rfl, _, rfl, _, rfl, vl, _, _, _, rfl, rfl, .of hvw, atI_nat hi, _, rfl, (by show 4 ≤ sizeLine; decide), fun t2 nt2 => ?_⟩
        have k2 := (Kp.refl [] _).new (o := .tup [.str "load", .int j, .int (c.getD j 0), .int i]) nt2
        have R : insM pl (.load r n') m c = ({ m with sl := setS m.sl r (c.getD j 0) }, c, true) := insM_load hj
        rw [R] at k
        obtain ⟨l1, l2⟩ := set_slots (v := c.getD j 0) l32 hss (show r < 32 by omega)
        obtain ⟨_, ⟨xs', g2, tx2⟩, _, tc2, _⟩ := id rmt
        have np1 : p ∉ [sl] := by simpa using pnp
        have np2 : pla ∉ [sl] := by simpa using ne
        exact k _ _ (kw.trans (k2.mono (by simp))) ⟨⟨dx, fa, k2.same _ _ (kt2.same _ _ e1t np1) (by simp)⟩, ⟨xs', k2.same _ _ (kt2.same _ _ g2 np2) (by simp), Tps.keep k2.tk _ _ (Tps.keep kt2.tk _ _ tx2)⟩, ⟨_, k2.same _ _ (at_top kt2) (by simp), l1, l2⟩, Tp.keep k2.tk _ _ (Tp.keep kt2.tk _ _ tc2), ne⟩
          (k2.same _ _ hvw (by simp)) (fun _ => ⟨t2, rfl⟩) (fun z => by cases z)
      | loadat r tn s' =>
        obtain rfl : Nm.cell tn (m.sl s') = n := by cases ht; rfl
        refine ⟨_, rfl, a, _, 0, .str "loadat", rfl, rfl, .of ha, rfl, (by show 2 ≤ sizeLine; decide), fun t nt => ⟨t, _, rfl, .inr (.of upd_same), rfl, rfl, _, rfl, iteT ?_⟩⟩
        have kt := k1.new (o := .tup [.str "load", .str "loadat"]) nt
        have kt1 := (Kp.refl [] H1).new (o := .tup [.str "load", .str "loadat"]) nt
        have e1t := kt1.same _ _ e1a (by simp)
        have e3t := kt1.same _ _ e3a (by simp)
        have hvt := kt1.same _ _ hva (by simp)
        have hat := kt1.tk _ _ ha
        have rmt := rma.kp kt1 (by simp) (by simp) (by simp)
        have hr3 : r < 3 := io.1
        refine ⟨_, rfl, _, rfl, vl, _, _, _, rfl, rfl, .of hvt, atI_nat hi, _, rfl, p, C, dx, _, _, rfl, e1t, T.cl, T.n3, rl_slots, _, rfl, a, _, 1, .int r, rfl, rfl, .of hat, rfl, sl, _, _, r, rfl, rfl, e3t, ixN_at (by rw [List.length_map]; omega), ?_⟩
        have hs : (ss.map V.int).set r (.int (c.getD j 0)) = (ss.set r (c.getD j 0)).map V.int := by rw [List.map_set]
        rw [hs]
        have kw := (kt.mono (S' := [p, sl, vl]) (by simp)).put (o := .lst ((ss.set r (c.getD j 0)).map V.int)) (p := sl) (by simp) e3t (fun _ z => by cases z)
        have kt2 := (Kp.refl [sl] _).put (o := .lst ((ss.set r (c.getD j 0)).map V.int)) (p := sl) (by simp) e3t (fun _ z => by cases z)
        have hvw := kt2.same _ _ hvt (by simpa using nvs)
        refine ⟨_, rfl, _, rfl, _, rfl, vl, _, _, _, rfl, rfl, .of hvw, atI_nat hi, _, rfl, (by show 4 ≤ sizeLine; decide), fun t2 nt2 => ?_⟩
        have k2 := (Kp.refl [] _).new (o := .tup [.str "load", .int j, .int (c.getD j 0), .int i]) nt2
        have R : insM pl (.loadat r tn s') m c = ({ m with sl := setS m.sl r (c.getD j 0) }, c, true) := insM_load hj
        rw [R] at k
        obtain ⟨l1, l2⟩ := set_slots (v := c.getD j 0) l32 hss (show r < 32 by omega)
        obtain ⟨_, ⟨xs', g2, tx2⟩, _, tc2, _⟩ := id rmt
        have np1 : p ∉ [sl] := by simpa using pnp
        have np2 : pla ∉ [sl] := by simpa using ne
        exact k _ _ (kw.trans (k2.mono (by simp))) ⟨⟨dx, fa, k2.same _ _ (kt2.same _ _ e1t np1) (by simp)⟩, ⟨xs', k2.same _ _ (kt2.same _ _ g2 np2) (by simp), Tps.keep k2.tk _ _ (Tps.keep kt2.tk _ _ tx2)⟩, ⟨_, k2.same _ _ (at_top kt2) (by simp), l1, l2⟩, Tp.keep k2.tk _ _ (Tp.keep kt2.tk _ _ tc2), ne⟩
          (k2.same _ _ hvw (by simp)) (fun _ => ⟨t2, rfl⟩) (fun z => by cases z)
      | store n' r =>
        obtain rfl : n' = n := by cases ht; rfl
        refine ⟨_, rfl, a, _, 0, .str "store", rfl, rfl, .of ha, rfl, (by show 2 ≤ sizeLine; decide), fun t nt => ⟨t, _, rfl, .inr (.of upd_same), rfl, rfl, _, rfl, iteF ?_⟩⟩
        have kt := k1.new (o := .tup [.str "load", .str "loadat"]) nt
        have kt1 := (Kp.refl [] H1).new (o := .tup [.str "load", .str "loadat"]) nt
        have e1t := kt1.same _ _ e1a (by simp)
        have e3t := kt1.same _ _ e3a (by simp)
        have hvt := kt1.same _ _ hva (by simp)
        have hat := kt1.tk _ _ ha
        have rmt := rma.kp kt1 (by simp) (by simp) (by simp)
        have hr3 : r < 3 := io.1
        have hsv : (ss.map V.int)[r]? = some (.int (m.sl r)) := by rw [getM (by omega), hss r (by omega)]
        refine ⟨_, rfl, p, C, dx, _, _, rfl, e1t, T.cl, T.n3, rl_slots, _, rfl, _, rfl, a, _, (-1), .int r, rfl, rfl, .of hat, rfl, sl, _, _, _, rfl, rfl, .of e3t, atI_nat hsv, _, rfl, _, rfl, vl, _, _, j, rfl, rfl, hvt, ixN_at (by rw [List.length_map]; omega), ?_⟩
        have hs : (c.map V.int).set j (.int (m.sl r)) = (c.set j (m.sl r)).map V.int := by rw [List.map_set]
        rw [hs]
        have kw := (kt.mono (S' := [p, sl, vl]) (by simp)).put (o := .lst ((c.set j (m.sl r)).map V.int)) (p := vl) (by simp) hvt (fun _ z => by cases z)
        have kt2 := (Kp.refl [vl] _).put (o := .lst ((c.set j (m.sl r)).map V.int)) (p := vl) (by simp) hvt (fun _ z => by cases z)
        have hvw := at_top kt2
        refine ⟨_, rfl, _, rfl, _, rfl, vl, _, _, _, rfl, rfl, .of hvw, atI_nat (getM (by rw [List.length_set]; exact hjl)), _, rfl, (by show 4 ≤ sizeLine; decide), fun t2 nt2 => ?_⟩
        have k2 := (Kp.refl [] _).new (o := .tup [.str "store", .int j, .int ((c.set j (m.sl r)).getD j 0), .int i]) nt2
        have R : insM pl (.store n' r) m c = (m, c.set j (m.sl r), true) := insM_store hj
        rw [R] at k
        have np1 : p ∉ [vl] := by simpa using (ne_of e1 hv (fun z => by cases z))
        exact k _ _ (kw.trans (k2.mono (by simp))) ((rmt.kp kt2 np1 (by simpa using nvp.symm) (by simpa using nvs.symm)).kp k2 (by simp) (by simp) (by simp))
          (k2.same _ _ hvw (by simp)) (fun _ => ⟨t2, rfl⟩) (fun z => by cases z)
      | storeat tn s' r =>
        obtain rfl : Nm.cell tn (m.sl s') = n := by cases ht; rfl
        refine ⟨_, rfl, a, _, 0, .str "storeat", rfl, rfl, .of ha, rfl, (by show 2 ≤ sizeLine; decide), fun t nt => ⟨t, _, rfl, .inr (.of upd_same), rfl, rfl, _, rfl, iteF ?_⟩⟩
        have kt := k1.new (o := .tup [.str "load", .str "loadat"]) nt
        have kt1 := (Kp.refl [] H1).new (o := .tup [.str "load", .str "loadat"]) nt
        have e1t := kt1.same _ _ e1a (by simp)
        have e3t := kt1.same _ _ e3a (by simp)
        have hvt := kt1.same _ _ hva (by simp)
        have hat := kt1.tk _ _ ha
        have rmt := rma.kp kt1 (by simp) (by simp) (by simp)
        have hr3 : r < 3 := io.1
        have hsv : (ss.map V.int)[r]? = some (.int (m.sl r)) := by rw [getM (by omega), hss r (by omega)]
        refine ⟨_, rfl, p, C, dx, _, _, rfl, e1t, T.cl, T.n3, rl_slots, _, rfl, _, rfl, a, _, (-1), .int r, rfl, rfl, .of hat, rfl, sl, _, _, _, rfl, rfl, .of e3t, atI_nat hsv, _, rfl, _, rfl, vl, _, _, j, rfl, rfl, hvt, ixN_at (by rw [List.length_map]; omega), ?_⟩
        have hs : (c.map V.int).set j (.int (m.sl r)) = (c.set j (m.sl r)).map V.int := by rw [List.map_set]
        rw [hs]
        have kw := (kt.mono (S' := [p, sl, vl]) (by simp)).put (o := .lst ((c.set j (m.sl r)).map V.int)) (p := vl) (by simp) hvt (fun _ z => by cases z)
        have kt2 := (Kp.refl [vl] _).put (o := .lst ((c.set j (m.sl r)).map V.int)) (p := vl) (by simp) hvt (fun _ z => by cases z)
        have hvw := at_top kt2
        refine ⟨_, rfl, _, rfl, _, rfl, vl, _, _, _, rfl, rfl, .of hvw, atI_nat (getM (by rw [List.length_set]; exact hjl)), _, rfl, (by show 4 ≤ sizeLine; decide), fun t2 nt2 => ?_⟩
        have k2 := (Kp.refl [] _).new (o := .tup [.str "store", .int j, .int ((c.set j (m.sl r)).getD j 0), .int i]) nt2
        have R : insM pl (.storeat tn s' r) m c = (m, c.set j (m.sl r), true) := insM_store hj
        rw [R] at k
        have np1 : p ∉ [vl] := by simpa using (ne_of e1 hv (fun z => by cases z))
        exact k _ _ (kw.trans (k2.mono (by simp))) ((rmt.kp kt2 np1 (by simpa using nvp.symm) (by simpa using nvs.symm)).kp k2 (by simp) (by simp) (by simp))
          (k2.same _ _ hvw (by simp)) (fun _ => ⟨t2, rfl⟩) (fun z => by cases z)
      | _ => cases ht
end
end Ork
end
section
set_option Elab.async false
set_option linter.all false
set_option maxRecDepth 100000
set_option pp.maxSteps 3000
namespace Ork
open PySem L2 PySem.Spec PyProof.Rows

def spGo (C : Addr) : Sp := fun vs H Q _ => ∃ p pla sl cv pl code m c i ins, vs = [.ref p, .int (i : Nat)] ∧ RM C H p pla sl cv pl code m ∧ m.over = false ∧ code[i]? = some ins ∧ tgt m ins = none ∧ InsOk pl code.length i ins ∧ (∀ r, (m.sl r).natAbs < 2 ^ 4096) ∧
  ∀ H', Kp [p, sl] H H' → RM C H' p pla sl cv pl code (insM pl ins m c).1 → Q .non H'
section
variable {P : Program} {w : World} {base : Heap} {mg : Str → Option Value} {K : PySem.W.Frag}
theorem ok_go {C f : Addr} {fd : FuncData} (T : RT K C) (F : Fun K "go" "Runner.go" sRGo f fd) (hR : Has P w K mg base "computed" 1 ["operator", "one", "other"] spRes)
    (hS : MHas P w K mg base C "stop" 1 ["self", "fault_at"] [] (spStop C)) (hS0 : MHas P w K mg base C "stop" 1 ["self", "fault_at"] [.non] (spStop C)) : FnOk P w K mg base CX0 2 f fd ["self", "i"] (spGo C) := by
  refine F.ok scRGo (fun vs H Q E h => ?_) (fun cdv A outer s H vs Q E hr h => ?_)
  · obtain ⟨_, _, _, _, _, _, _, _, _, _, rfl, _⟩ := h
    rfl
  · obtain ⟨p, pla, sl, cv, pl, code, m, c, i, ins, rfl, rm, ho, hins, ht, io, bd, k⟩ := h
    have hu := hu_of hr
    have nd := scRGo.nd
    obtain ⟨⟨dx, fa, e1⟩, ⟨xs, e2, txs⟩, ⟨ss, e3, l32, hss⟩, tc, ne⟩ := id rm
    obtain ⟨ca, cvs, rfl, hca, tcs⟩ : ∃ ca cvs, cv = .ref ca ∧ H ca = some (.tup cvs) ∧ Tps H cvs (code.map Ins.toD) := by
      cases tc with
      | tup a b => exact ⟨_, _, rfl, a, b⟩
    obtain ⟨iv, hiv, tpi⟩ := tcs.get (i := i) (d := ins.toD) (by rw [List.getElem?_map, hins]; rfl)
    refine ⟨_, pss_cons (ps_asg (pe_ix ix_tup (pe_fld (pv 0) rfl) (pv 1) (fun _ _ => rfl)) (pg_tupStar (i := 1) rfl (pgs_cons (pg_name (i := 2) nd rfl (.inl rfl)) (pgs_star (pg_name (i := 3) nd rfl (.inl rfl)) pgs_nil))))
      (pss_one (ps_if (pt_cmpR op_eq (pv 2) pe_str (nomark _))
        (pss_one (ps_asg (pe_ix ix_list (pv 3) pe_int (fun _ _ => rfl)) (pg_sub (pe_fld (pv 0) rfl) (pe_ix ix_list (pv 3) pe_int (fun _ _ => rfl)) set_list)))
        (pss_one (ps_if (pt_cmpR op_eq (pv 2) pe_str (nomark _))
          (pss_cons (ps_asg (pv 3) (pg_unl rfl (pgs_cons (pg_name (i := 4) nd rfl (.inl rfl)) (pgs_cons (pg_name (i := 5) nd rfl (.inl rfl)) (pgs_cons (pg_name (i := 6) nd rfl (.inl rfl)) (pgs_cons (pg_name (i := 7) nd rfl (.inl rfl)) pgs_nil))))))
          (pss_cons (ps_set (i := 8) nd rfl (.inl rfl) (pe_has hR hr rfl (pa_cons (pv 4) (pa_cons (pe_ix ix_list (pe_fld (pv 0) rfl) (pv 6) (fun _ _ => rfl)) (pa_cons (pe_ix ix_list (pe_fld (pv 0) rfl) (pv 7) (fun _ _ => rfl)) pa_nil)))))
          (pss_one (ps_if (pt_cmpR op_isN (pv 8) pe_non (nomark _)) (pss_one (ps_expr (pe_mhas hS T.cl hr (pv 0) (pa_cons (pv 1) pa_nil)))) (pss_one (ps_asg (pv 8) (pg_sub (pe_fld (pv 0) rfl) (pv 5) set_list)))))))
          (pss_one (ps_if (pt_cmpR op_eq (pv 2) pe_str (nomark _))
            (pss_one (ps_fld (pv 0) (pe_ix ix_list (pv 3) pe_int (fun _ _ => rfl)) rfl))
            (pss_one (ps_if (pt_cmpR op_eq (pv 2) pe_str (nomark _))
              (pss_one (ps_fld (pv 0) (pe_ifExp (pt_cmpR op_eq (pe_ix ix_list (pe_fld (pv 0) rfl) (pe_ix ix_list (pv 3) pe_int (fun _ _ => rfl)) (fun _ _ => rfl)) pe_int (nomark _)) (pe_ix ix_list (pv 3) pe_int (fun _ _ => rfl)) (pe_fld (pv 0) rfl)) rfl))
              (pss_one (ps_expr (pe_mhas0 hS0 T.cl hr (pv 0)))))))))))), ?_⟩
    obtain ⟨a, x, rfl, ha, hx⟩ := ins_of tpi
    have pnp : p ≠ sl := ne_of e1 e3 (fun z => by cases z)
    have pna : pla ≠ p := ne_of e2 e1 (fun z => by cases z)
    have np1 : p ∉ [sl] := by simpa using pnp
    have np2 : pla ∉ [sl] := by simpa using ne
    have np3 : pla ∉ [p] := by simpa using pna
    have np4 : sl ∉ [p] := by simpa using pnp.symm
    cases ins with
    | load r n => cases ht
    | store n r => cases ht
    | loadat r tn s' => cases ht
    | storeat tn s' r => cases ht
    | const r v =>
      refine ⟨_, rfl, p, C, dx, _, _, rfl, e1, T.cl, T.n2, rl_code, _, rfl, ca, _, _, _, rfl, rfl, .of hca, atI_nat hiv, a, _, rfl, .of ha, (by show 1 ≤ 3; decide), (by show 3 ≤ 16384; decide), fun D nD => ⟨.str "const", _, rfl, .ref D, _, rfl, rfl, ?_⟩⟩
      have kD := (Kp.refl [] H).new (o := .lst [.int r, .int v]) nD
      have e1' := kD.same _ _ e1 (by simp)
      have e3' := kD.same _ _ e3 (by simp)
      have hD := at_top kD
      have rm' := rm.kp kD (by simp) (by simp) (by simp)
      obtain ⟨_, ⟨xs', g2, tx2⟩, _, tc2, _⟩ := id rm'
      refine ⟨_, rfl, rfl, _, rfl, iteT ?_⟩
      refine ⟨_, rfl, D, _, (1 : Nat), .int v, rfl, rfl, .of hD, atI_nat rfl, _, rfl, p, C, dx, _, _, rfl, e1', T.cl, T.n3, rl_slots, _, rfl, D, _, (0 : Nat), .int r, rfl, rfl, .of hD, atI_nat rfl, sl, _, _, r, rfl, rfl, e3', ixN_at (by rw [List.length_map]; have := io.1; omega), ?_⟩
      have hs : (ss.map V.int).set r (.int v) = (ss.set r v).map V.int := by rw [List.map_set]
      rw [hs]
      have kw := (kD.mono (S' := [p, sl]) (by simp)).put (o := .lst ((ss.set r v).map V.int)) (p := sl) (by simp) e3' (fun _ z => by cases z)
      have kt2 := (Kp.refl [sl] _).put (o := .lst ((ss.set r v).map V.int)) (p := sl) (by simp) e3' (fun _ z => by cases z)
      obtain ⟨l1, l2⟩ := set_slots (v := v) l32 hss (show r < 32 by have := io.1; omega)
      exact k _ kw ⟨⟨dx, fa, kt2.same _ _ e1' np1⟩, ⟨xs', kt2.same _ _ g2 np2, Tps.keep kt2.tk _ _ tx2⟩, ⟨_, at_top kt2, l1, l2⟩, Tp.keep kt2.tk _ _ tc2, ne⟩
    | op o' r x' y' =>
      refine ⟨_, rfl, p, C, dx, _, _, rfl, e1, T.cl, T.n2, rl_code, _, rfl, ca, _, _, _, rfl, rfl, .of hca, atI_nat hiv, a, _, rfl, .of ha, (by show 1 ≤ 5; decide), (by show 5 ≤ 16384; decide), fun D nD => ⟨.str "do", _, rfl, .ref D, _, rfl, rfl, ?_⟩⟩
      have kD := (Kp.refl [] H).new (o := .lst [.str o'.str, .int r, .int x', .int y']) nD
      have e1' := kD.same _ _ e1 (by simp)
      have e3' := kD.same _ _ e3 (by simp)
      have hD := at_top kD
      have rm' := rm.kp kD (by simp) (by simp) (by simp)
      obtain ⟨_, ⟨xs', g2, tx2⟩, _, tc2, _⟩ := id rm'
      refine ⟨_, rfl, rfl, _, rfl, iteF ?_⟩
      refine ⟨_, rfl, rfl, _, rfl, iteT ?_⟩
      have hsv : ∀ q, q < 3 → (ss.map V.int)[q]? = some (.int (m.sl q)) := fun q hq => by rw [getM (by omega), hss q (by omega)]
      refine ⟨_, rfl, D, _, rfl, .of hD, rfl, _, _, rfl, _, _, rfl, _, _, rfl, _, _, rfl, rfl, ?_⟩
      refine ⟨_, rfl, _, rfl, p, C, dx, _, _, rfl, e1', T.cl, T.n3, rl_slots, _, rfl, sl, _, _, _, rfl, rfl, .of e3', atI_nat (hsv x' io.2.1), _, rfl, p, C, dx, _, _, rfl, e1', T.cl, T.n3, rl_slots, _, rfl, sl, _, _, _, rfl, rfl, .of e3', atI_nat (hsv y' io.2.2), o', _, _, rfl, bd x', bd y', fun H3 k3 => ?_⟩
      have kO := kD.trans k3
      have e1O := k3.same _ _ e1' (by simp)
      have e3O := k3.same _ _ e3' (by simp)
      have g2O := k3.same _ _ g2 (by simp)
      have tx2O := Tps.keep k3.tk _ _ tx2
      have tc2O := Tp.keep k3.tk _ _ tc2
      have RV : insM pl (.op o' r x' y') m c = match o'.val (m.sl x') (m.sl y') with
        | some v => ({ m with sl := setS m.sl r v }, c, false)
        | none => ({ m with over := true }, c, false) := rfl
      rw [RV] at k
      cases hval : o'.val (m.sl x') (m.sl y') with
      | some v =>
        rw [hval] at k
        refine ⟨_, rfl, rfl, _, rfl, iteF ⟨_, rfl, _, rfl, p, C, dx, _, _, rfl, e1O, T.cl, T.n3, rl_slots, _, rfl, sl, _, _, r, rfl, rfl, e3O, ixN_at (by rw [List.length_map]; have := io.1; omega), ?_⟩⟩
        show Q .non (upd H3 sl (.lst ((ss.map V.int).set r (.int v))))
        have hs : (ss.map V.int).set r (.int v) = (ss.set r v).map V.int := by rw [List.map_set]
        rw [hs]
        have kw := (kO.mono (S' := [p, sl]) (by simp)).put (o := .lst ((ss.set r v).map V.int)) (p := sl) (by simp) e3O (fun _ z => by cases z)
        have kt2 := (Kp.refl [sl] _).put (o := .lst ((ss.set r v).map V.int)) (p := sl) (by simp) e3O (fun _ z => by cases z)
        obtain ⟨l1, l2⟩ := set_slots (v := v) l32 hss (show r < 32 by have := io.1; omega)
        exact k _ kw ⟨⟨dx, fa, kt2.same _ _ e1O np1⟩, ⟨xs', kt2.same _ _ g2O np2, Tps.keep kt2.tk _ _ tx2O⟩, ⟨_, at_top kt2, l1, l2⟩, Tp.keep kt2.tk _ _ tc2O, ne⟩
      | none =>
        rw [hval] at k
        refine ⟨_, rfl, rfl, _, rfl, iteT ⟨_, rfl, p, dx, _, rfl, e1O, rn_stop, _, rfl, p, dx, pla, .ref ca, sl, m.pc, m.over, fa, _, rfl, e1O, fun H4 k4 h4 => ?_⟩⟩
        exact k _ ((kO.mono (by simp)).trans (k4.mono (by simp))) ⟨⟨dx, _, h4⟩, ⟨xs', k4.same _ _ g2O np3, Tps.keep k4.tk _ _ tx2O⟩, ⟨ss, k4.same _ _ e3O np4, l32, hss⟩, Tp.keep k4.tk _ _ tc2O, ne⟩
    | jump j =>
      refine ⟨_, rfl, p, C, dx, _, _, rfl, e1, T.cl, T.n2, rl_code, _, rfl, ca, _, _, _, rfl, rfl, .of hca, atI_nat hiv, a, _, rfl, .of ha, (by show 1 ≤ 2; decide), (by show 2 ≤ 16384; decide), fun D nD => ⟨.str "jump", _, rfl, .ref D, _, rfl, rfl, ?_⟩⟩
      have kD := (Kp.refl [] H).new (o := .lst [.int j]) nD
      have e1' := kD.same _ _ e1 (by simp)
      have e3' := kD.same _ _ e3 (by simp)
      have hD := at_top kD
      have rm' := rm.kp kD (by simp) (by simp) (by simp)
      obtain ⟨_, ⟨xs', g2, tx2⟩, _, tc2, _⟩ := id rm'
      refine ⟨_, rfl, rfl, _, rfl, iteF ?_⟩
      refine ⟨_, rfl, rfl, _, rfl, iteF ?_⟩
      refine ⟨_, rfl, rfl, _, rfl, iteT ?_⟩
      refine ⟨_, rfl, D, _, (0 : Nat), .int j, rfl, rfl, .of hD, atI_nat rfl, _, rfl, p, C, dx, _, rfl, e1', T.cl, T.n4, (by show 6 < 1000; decide), ?_⟩
      have e9 : putF (Str.ofString "next_at") (.int (j : Nat)) (runF pla (.ref ca) sl m.pc m.over fa) = runF pla (.ref ca) sl (j : Nat) m.over fa := rp_next_at
      rw [e9]
      have kw := (kD.mono (S' := [p, sl]) (by simp)).put (o := .ins C dx (runF pla (.ref ca) sl (j : Nat) m.over fa)) (p := p) (by simp) e1' (fun _ z => by cases z)
      have kt2 := (Kp.refl [p] _).put (o := .ins C dx (runF pla (.ref ca) sl (j : Nat) m.over fa)) (p := p) (by simp) e1' (fun _ z => by cases z)
      exact k _ kw ⟨⟨dx, fa, at_top kt2⟩, ⟨xs', kt2.same _ _ g2 np3, Tps.keep kt2.tk _ _ tx2⟩, ⟨ss, kt2.same _ _ e3' np4, l32, hss⟩, Tp.keep kt2.tk _ _ tc2, ne⟩
    | «unless» s' j =>
      refine ⟨_, rfl, p, C, dx, _, _, rfl, e1, T.cl, T.n2, rl_code, _, rfl, ca, _, _, _, rfl, rfl, .of hca, atI_nat hiv, a, _, rfl, .of ha, (by show 1 ≤ 3; decide), (by show 3 ≤ 16384; decide), fun D nD => ⟨.str "unless", _, rfl, .ref D, _, rfl, rfl, ?_⟩⟩
      have kD := (Kp.refl [] H).new (o := .lst [.int s', .int j]) nD
      have e1' := kD.same _ _ e1 (by simp)
      have e3' := kD.same _ _ e3 (by simp)
      have hD := at_top kD
      have rm' := rm.kp kD (by simp) (by simp) (by simp)
      obtain ⟨_, ⟨xs', g2, tx2⟩, _, tc2, _⟩ := id rm'
      refine ⟨_, rfl, rfl, _, rfl, iteF ?_⟩
      refine ⟨_, rfl, rfl, _, rfl, iteF ?_⟩
      refine ⟨_, rfl, rfl, _, rfl, iteF ?_⟩
      refine ⟨_, rfl, rfl, _, rfl, iteT ?_⟩
      have hsv : (ss.map V.int)[s']? = some (.int (m.sl s')) := by rw [getM (by have := io.1; omega), hss s' (by have := io.1; omega)]
      have RV : insM pl (.unless s' j) m c = (if m.sl s' = 0 then { m with pc := j } else m, c, false) := rfl
      rw [RV] at k
      refine ⟨_, rfl, p, C, dx, _, _, rfl, e1', T.cl, T.n3, rl_slots, _, rfl, D, _, (0 : Nat), .int s', rfl, rfl, .of hD, atI_nat rfl, sl, _, _, _, rfl, rfl, .of e3', atI_nat hsv, rfl, _, rfl, ite2 (fun q => ?_) (fun q => ?_)⟩
      · have q := of_decide_eq_true q
        have q : m.sl s' = 0 := by injection q
        rw [if_pos q] at k
        refine ⟨_, rfl, D, _, (1 : Nat), .int j, rfl, rfl, .of hD, atI_nat rfl, _, rfl, p, C, dx, _, rfl, e1', T.cl, T.n4, (by show 6 < 1000; decide), ?_⟩
        have e9 : putF (Str.ofString "next_at") (.int (j : Nat)) (runF pla (.ref ca) sl m.pc m.over fa) = runF pla (.ref ca) sl (j : Nat) m.over fa := rp_next_at
        rw [e9]
        have kw := (kD.mono (S' := [p, sl]) (by simp)).put (o := .ins C dx (runF pla (.ref ca) sl (j : Nat) m.over fa)) (p := p) (by simp) e1' (fun _ z => by cases z)
        have kt2 := (Kp.refl [p] _).put (o := .ins C dx (runF pla (.ref ca) sl (j : Nat) m.over fa)) (p := p) (by simp) e1' (fun _ z => by cases z)
        exact k _ kw ⟨⟨dx, fa, at_top kt2⟩, ⟨xs', kt2.same _ _ g2 np3, Tps.keep kt2.tk _ _ tx2⟩, ⟨ss, kt2.same _ _ e3' np4, l32, hss⟩, Tp.keep kt2.tk _ _ tc2, ne⟩
      · have q : ¬ m.sl s' = 0 := fun z => q (decide_eq_true (by rw [z]))
        rw [if_neg q] at k
        refine ⟨_, rfl, p, C, dx, _, _, rfl, e1', T.cl, T.n4, rl_next_at, _, rfl, p, C, dx, _, rfl, e1', T.cl, T.n4, (by show 6 < 1000; decide), ?_⟩
        have e9 : putF (Str.ofString "next_at") (.int m.pc) (runF pla (.ref ca) sl m.pc m.over fa) = runF pla (.ref ca) sl m.pc m.over fa := rp_next_at
        rw [e9]
        have kw := (kD.mono (S' := [p, sl]) (by simp)).put (o := .ins C dx (runF pla (.ref ca) sl m.pc m.over fa)) (p := p) (by simp) e1' (fun _ z => by cases z)
        have kt2 := (Kp.refl [p] _).put (o := .ins C dx (runF pla (.ref ca) sl m.pc m.over fa)) (p := p) (by simp) e1' (fun _ z => by cases z)
        exact k _ kw ⟨⟨dx, fa, at_top kt2⟩, ⟨xs', kt2.same _ _ g2 np3, Tps.keep kt2.tk _ _ tx2⟩, ⟨ss, kt2.same _ _ e3' np4, l32, hss⟩, Tp.keep kt2.tk _ _ tc2, ne⟩
    | fin =>
      refine ⟨_, rfl, p, C, dx, _, _, rfl, e1, T.cl, T.n2, rl_code, _, rfl, ca, _, _, _, rfl, rfl, .of hca, atI_nat hiv, a, _, rfl, .of ha, (by show 1 ≤ 1; decide), (by show 1 ≤ 16384; decide), fun D nD => ⟨.str "end", _, rfl, .ref D, _, rfl, rfl, ?_⟩⟩
      have kD := (Kp.refl [] H).new (o := .lst []) nD
      have e1' := kD.same _ _ e1 (by simp)
      have e3' := kD.same _ _ e3 (by simp)
      have hD := at_top kD
      have rm' := rm.kp kD (by simp) (by simp) (by simp)
      obtain ⟨_, ⟨xs', g2, tx2⟩, _, tc2, _⟩ := id rm'
      refine ⟨_, rfl, rfl, _, rfl, iteF ?_⟩
      refine ⟨_, rfl, rfl, _, rfl, iteF ?_⟩
      refine ⟨_, rfl, rfl, _, rfl, iteF ?_⟩
      refine ⟨_, rfl, rfl, _, rfl, iteF ?_⟩
      refine ⟨_, rfl, p, dx, _, rfl, e1', rn_stop, p, dx, pla, .ref ca, sl, m.pc, m.over, fa, .non, rfl, e1', fun H4 k4 h4 => ?_⟩
      exact k _ ((kD.mono (by simp)).trans (k4.mono (by simp))) ⟨⟨dx, _, h4⟩, ⟨xs', k4.same _ _ g2 np3, Tps.keep k4.tk _ _ tx2⟩, ⟨ss, k4.same _ _ e3' np4, l32, hss⟩, Tp.keep k4.tk _ _ tc2, ne⟩
end
end Ork
end
section
set_option Elab.async false
set_option linter.all false
set_option maxRecDepth 100000
set_option pp.maxSteps 3000
namespace Ork
open PySem L2 PySem.Spec PyProof.Rows

theorem insM_plain {pl : List Nm} {ins : Ins} {m : Mc} {c : List Int} (ht : tgt m ins = none) : (insM pl ins m c).2 = (c, false) := by
  cases ins with
  | load r n => cases ht
  | store n r => cases ht
  | loadat r t s => cases ht
  | storeat t s r => cases ht
  | const r v => rfl
  | op o r a b =>
    show (match o.val (m.sl a) (m.sl b) with
      | some v => (({ m with sl := setS m.sl r v }, c, false) : Res)
      | none => ({ m with over := true }, c, false)).2 = (c, false)
    cases o.val (m.sl a) (m.sl b) <;> rfl
  | «unless» s j => rfl
  | jump j => rfl
  | fin => rfl
theorem insM_mem {pl : List Nm} {ins : Ins} {m : Mc} {c : List Int} {n : Nm} (ht : tgt m ins = some n) : (insM pl ins m c).2.2 = true ∨ (insM pl ins m c).1.over = true := by
  cases hj : idx pl n with
  | none => rw [insM_none ht hj]; exact .inr rfl
  | some j =>
    left
    cases ins <;> first | (cases ht; first | (show (ldM _ _ _ _ _).2.2 = true; rw [insM_load hj]) | (show (stoM _ _ _ _ _).2.2 = true; rw [insM_store hj])) | cases ht
def spNextE (C : Addr) : Sp := fun vs H Q _ => ∃ p pla sl cv vl pl code m c e, vs = [.ref p, .ref vl] ∧ RM C H p pla sl cv pl code m ∧ CodeOk pl code ∧ H vl = some (.lst (c.map V.int)) ∧ c.length = pl.length ∧ vl ≠ pla ∧ vl ≠ sl ∧ (∀ n ∈ pl, n.ok = true) ∧
  Bd e m c ∧ 1 ≤ e ∧ e + (code.length - m.pc) ≤ 12 ∧ m.pc ≤ code.length ∧
  ∀ H' v, Kp [p, sl, vl] H H' → RM C H' p pla sl cv pl code (evM pl code (fuel code) m c).1 → H' vl = some (.lst ((evM pl code (fuel code) m c).2.1.map V.int)) →
    ((evM pl code (fuel code) m c).2.2 = true → ∃ t, v = .ref t) → ((evM pl code (fuel code) m c).2.2 = false → v = .non) → Q v H'
section
variable {P : Program} {w : World} {base : Heap} {mg : Str → Option Value} {K : PySem.W.Frag}
theorem ok_nextE {C f : Addr} {fd : FuncData} (B : Bn mg) (T : RT K C) (F : Fun K "next_event" "Runner.next_event" sRNext f fd)
    (hT : MHas P w K mg base C "touch" 2 ["self", "values", "i"] [] (spTouchP C)) (hG : MHas P w K mg base C "go" 2 ["self", "i"] [] (spGo C)) (hS0 : MHas P w K mg base C "stop" 1 ["self", "fault_at"] [.non] (spStop C)) :
    FnOk P w K mg base CX0 3 f fd ["self", "values"] (spNextE C) := by
  refine F.ok scRNext (fun vs H Q E h => ?_) (fun cdv A outer s H vs Q E hr h => ?_)
  · obtain ⟨_, _, _, _, _, _, _, _, _, _, rfl, _⟩ := h
    rfl
  · obtain ⟨p, pla, sl, cv, vl, pl, code, m, c, e, rfl, rm, co, hv, hc, nvp, nvs, hok, bd, he1, he, hp, k⟩ := h
    have hu := hu_of hr
    have nd := scRNext.nd
    refine ⟨_, pss_cons (ps_while PassesOwn.never (pt_not (pt_val (pe_fld (pv 0) rfl)))
        (pss_cons (ps_set (i := 2) nd rfl (.inl rfl) (pe_fld (pv 0) rfl))
        (pss_one (ps_if (pt_cmpR op_eq (pv 2) (pe_callB call_len_seq (by rfl) B.len PySem.boot_len (pa_cons (pe_fld (pv 0) rfl) pa_nil)) (nomark _))
          (pss_one (ps_expr (pe_mhas0 hS0 T.cl (hr.mono (by decide)) (pv 0))))
          (pss_cons (ps_fld (pv 0) (pe_op op_add (pv 2) pe_int) rfl)
          (pss_cons (ps_if (pt_cmpR op_in_seq (pe_ix ix_tup (pe_ix ix_tup (pe_fld (pv 0) rfl) (pv 2) (fun _ _ => rfl)) pe_int (fun _ _ => rfl)) (pe_tup (pa_cons pe_str (pa_cons pe_str (pa_cons pe_str (pa_cons pe_str pa_nil))))) rfl)
            (pss_one (ps_ret (pe_mhas hT T.cl hr (pv 0) (pa_cons (pv 1) (pa_cons (pv 2) pa_nil))))) pss_nil)
          (pss_one (ps_expr (pe_mhas hG T.cl hr (pv 0) (pa_cons (pv 2) pa_nil))))))))))
      (pss_one (ps_ret pe_non)), ?_⟩
    obtain ⟨ca, cvs, rfl, hca, tcs⟩ : ∃ ca cvs, cv = .ref ca ∧ H ca = some (.tup cvs) ∧ Tps H cvs (code.map Ins.toD) := by
      cases rm.code with
      | tup a b => exact ⟨_, _, rfl, a, b⟩
    have clen : cvs.length = code.length := by rw [tcs.length, List.length_map]
    have pvl : p ≠ vl := by
      obtain ⟨⟨dx, fa, e1⟩, _⟩ := rm
      exact ne_of e1 hv (fun z => by cases z)
    refine ⟨fun n σ H' => ∃ m' c' e' i', σ = [some (.ref p), some (.ref vl), i'] ∧ Kp [p, sl, vl] H H' ∧ RM C H' p pla sl (.ref ca) pl code m' ∧ H' vl = some (.lst (c'.map V.int)) ∧ c'.length = pl.length ∧ Bd e' m' c' ∧ 1 ≤ e' ∧
      e' + (code.length - m'.pc) ≤ 12 ∧ m'.pc ≤ code.length ∧ evM pl code n m' c' = evM pl code (fuel code) m c ∧ (m'.over = false → code.length - m'.pc < n),
      ⟨fuel code, m, c, e, _, rfl, Kp.refl _ _, rm, hv, hc, bd, he1, he, hp, rfl, fun _ => by unfold fuel; omega⟩, ?_⟩
    rintro n σ H' ⟨m', c', e', i', rfl, kp, rm', hv', hc', bd', he1', he', hp', hR, hn⟩
    obtain ⟨⟨dx, fa, e1⟩, ⟨xs, e2, txs⟩, ⟨ss, e3, l32, hss⟩, tc, ne⟩ := id rm'
    refine ⟨_, rfl, p, C, dx, _, _, rfl, e1, T.cl, T.n5, rl_is_over, _, rfl, ?_⟩
    cases ho : m'.over with
    | true =>
      refine iteF ?_
      rw [evM_over ho] at hR
      rw [← hR] at k
      exact k _ _ kp rm' hv' (fun z => by cases z) (fun _ => rfl)
    | false =>
      refine iteT ?_
      obtain ⟨g, rfl⟩ : ∃ g, n = g + 1 := ⟨n - 1, by have := hn ho; omega⟩
      have pnp : p ≠ sl := ne_of e1 e3 (fun z => by cases z)
      have pna : pla ≠ p := ne_of e2 e1 (fun z => by cases z)
      have np3 : pla ∉ [p] := by simpa using pna
      have np4 : sl ∉ [p] := by simpa using pnp.symm
      have np5 : vl ∉ [p] := by simpa using pvl.symm
      refine ⟨fun σ' H2 => ∃ m' c' e' i', σ' = [some (.ref p), some (.ref vl), i'] ∧ Kp [p, sl, vl] H H2 ∧ RM C H2 p pla sl (.ref ca) pl code m' ∧ H2 vl = some (.lst (c'.map V.int)) ∧ c'.length = pl.length ∧ Bd e' m' c' ∧ 1 ≤ e' ∧
        e' + (code.length - m'.pc) ≤ 12 ∧ m'.pc ≤ code.length ∧ evM pl code g m' c' = evM pl code (fuel code) m c ∧ (m'.over = false → code.length - m'.pc < g), fun σ' H2 h => ⟨g, Nat.lt_succ_self g, h⟩, ?_⟩
      rw [evM, if_neg (by rw [ho]; exact Bool.false_ne_true)] at hR
      dsimp only at hR
      refine ⟨_, rfl, p, C, dx, _, _, rfl, e1, T.cl, T.n4, rl_next_at, _, rfl, _, rfl, p, C, dx, _, _, rfl, e1, T.cl, T.n2, rl_code, ca, _, rfl, .inr (.of (kp.tk _ _ hca)), rfl, _, rfl, ?_⟩
      rcases Nat.lt_or_ge m'.pc code.length with q | q
      · have dq : decide (V.int (m'.pc : Nat) = V.int (cvs.length : Nat)) = false := decide_eq_false fun z => by injection z with z; omega
        rw [dq]
        refine iteF ?_
        obtain ⟨ins, hins⟩ : ∃ ins, code[m'.pc]? = some ins := ⟨code[m'.pc], List.getElem?_eq_getElem q⟩
        have io := co.2 _ _ hins
        have RS : stM pl code m' c' = insM pl ins { m' with pc := m'.pc + 1 } c' := by
          unfold stM
          rw [hins]
        obtain ⟨g1, g2, g3, g4⟩ := stM_ok co he1' bd' hc' q
        rw [RS] at hR g1 g2 g3 g4
        obtain ⟨iv, hiv, tpi⟩ := tcs.get (i := m'.pc) (d := ins.toD) (by rw [List.getElem?_map, hins]; rfl)
        refine ⟨_, rfl, _, _, rfl, rfl, _, rfl, p, C, dx, _, rfl, e1, T.cl, T.n4, (by show 6 < 1000; decide), ?_⟩
        have e9 : putF (Str.ofString "next_at") (.int ((m'.pc : Int) + 1)) (runF pla (.ref ca) sl m'.pc m'.over fa) = runF pla (.ref ca) sl ((m'.pc : Int) + 1) m'.over fa := rp_next_at
        rw [e9]
        have kt2 := (Kp.refl [p] H').put (o := .ins C dx (runF pla (.ref ca) sl ((m'.pc : Int) + 1) m'.over fa)) (p := p) (by simp) e1 (fun _ z => by cases z)
        have kA := kp.trans (kt2.mono (S' := [p, sl, vl]) (by simp))
        have e1A := at_top kt2
        have rmA : RM C (upd H' p (.ins C dx (runF pla (.ref ca) sl ((m'.pc : Int) + 1) m'.over fa))) p pla sl (.ref ca) pl code { m' with pc := m'.pc + 1 } := ⟨⟨dx, fa, e1A⟩, ⟨xs, kt2.same _ _ e2 np3, Tps.keep kt2.tk _ _ txs⟩, ⟨ss, kt2.same _ _ e3 np4, l32, hss⟩, Tp.keep kt2.tk _ _ tc, ne⟩
        have hvA := kt2.same _ _ hv' np5
        generalize (upd H' p (.ins C dx (runF pla (.ref ca) sl ((m'.pc : Int) + 1) m'.over fa)) : Hp) = HA at kA e1A rmA hvA ⊢
        have tpA := Tp.keep kA.tk _ _ tpi
        obtain ⟨a, x, rfl, ha, hx⟩ := ins_of tpA
        refine ⟨_, rfl, p, C, dx, _, _, rfl, e1A, T.cl, T.n2, rl_code, _, rfl, ca, _, _, _, rfl, rfl, .of (kA.tk _ _ hca), atI_nat hiv, a, _, 0, .str ins.word, rfl, rfl, .of ha, (by cases ins <;> rfl), (by show 4 ≤ sizeLine; decide), fun t nt => ?_⟩
        have kT1 := (Kp.refl [] HA).new (o := .tup [.str "load", .str "loadat", .str "store", .str "storeat"]) nt
        have kT := kA.trans (kT1.mono (by simp))
        have eT : (upd HA t (.tup [.str "load", .str "loadat", .str "store", .str "storeat"]) : Hp) t = some (.tup [.str "load", .str "loadat", .str "store", .str "storeat"]) := upd_same
        have e1T := kT1.same _ _ e1A (by simp)
        have rmT := rmA.kp kT1 (by simp) (by simp) (by simp)
        have hvT := kT1.same _ _ hvA (by simp)
        generalize (upd HA t (.tup [.str "load", .str "loadat", .str "store", .str "storeat"]) : Hp) = HT0 at kT eT e1T rmT hvT ⊢
        cases hmem : tgt { m' with pc := m'.pc + 1 } ins with
        | some nn =>
          have hw : inV (.str ins.word) [.str "load", .str "loadat", .str "store", .str "storeat"] = true := by
            cases ins <;> first | (cases hmem; done) | rfl
          refine ⟨t, _, rfl, .inr (.of eT), (by cases ins <;> rfl), rfl, true, congrArg V.bl hw, iteT ?_⟩
          refine ⟨_, rfl, p, dx, _, rfl, e1T, rn_touch, _, rfl, _, rfl, p, pla, sl, .ref ca, vl, pl, code, { m' with pc := m'.pc + 1 }, c', m'.pc, ins, nn, rfl, rmT, ho, hvT, hc', nvp, nvs, hins, hmem, io, hok, fun H3 v k3 r3 h3 a1 a2 => ?_⟩
          have hRR : evM pl code (fuel code) m c = insM pl ins { m' with pc := m'.pc + 1 } c' := by
            rw [← hR]
            rcases insM_mem (pl := pl) (c := c') hmem with z | z
            · rw [if_pos z]
            · cases z2 : (insM pl ins { m' with pc := m'.pc + 1 } c').2.2 with
              | true => rw [if_pos rfl]
              | false =>
                rw [if_neg Bool.false_ne_true, evM_over z]
                rw [← z2]
          rw [hRR] at k
          exact k _ _ (kT.trans k3) r3 h3 a1 a2
        | none =>
          have hw : inV (.str ins.word) [.str "load", .str "loadat", .str "store", .str "storeat"] = false := by
            cases ins <;> first | (cases hmem; done) | rfl
          refine ⟨t, _, rfl, .inr (.of eT), (by cases ins <;> rfl), rfl, false, congrArg V.bl hw, iteF ?_⟩
          have h12 : e' ≤ 12 := by omega
          refine ⟨_, rfl, p, dx, _, rfl, e1T, rn_go, _, rfl, p, pla, sl, .ref ca, pl, code, { m' with pc := m'.pc + 1 }, c', m'.pc, ins, rfl, rmT, ho, hins, hmem, io, fun r => pow_mono (bd'.1 r) h12, fun H3 k3 r3 => ?_⟩
          have hpl := insM_plain (pl := pl) (c := c') hmem
          have h21 : (insM pl ins { m' with pc := m'.pc + 1 } c').2.1 = c' := by rw [hpl]
          have h22 : (insM pl ins { m' with pc := m'.pc + 1 } c').2.2 = false := by rw [hpl]
          rw [if_neg (by rw [h22]; exact Bool.false_ne_true), h21] at hR
          rw [h21] at g3
          exact ⟨_, c', e' + 1, _, rfl, kT.trans (k3.mono (by simp)), r3, k3.same _ _ hvT (by simp [pvl.symm, nvs]), hc', g3, by omega, by omega, g2, hR, fun _ => by have := hn ho; omega⟩
      · have dq : decide (V.int (m'.pc : Nat) = V.int (cvs.length : Nat)) = true := decide_eq_true (by
          have : m'.pc = cvs.length := by omega
          rw [this])
        rw [dq]
        refine iteT ?_
        rw [stM_end q, if_neg Bool.false_ne_true] at hR
        refine ⟨_, rfl, p, dx, _, rfl, e1, rn_stop, p, dx, pla, .ref ca, sl, m'.pc, m'.over, fa, .non, rfl, e1, fun H4 k4 h4 => ?_⟩
        exact ⟨{ m' with over := true }, c', e', _, rfl, kp.trans (k4.mono (by simp)), ⟨⟨dx, _, h4⟩, ⟨xs, k4.same _ _ e2 np3, Tps.keep k4.tk _ _ txs⟩, ⟨ss, k4.same _ _ e3 np4, l32, hss⟩, Tp.keep k4.tk _ _ tc, ne⟩, k4.same _ _ hv' np5, hc', ⟨bd'.1, bd'.2⟩, he1', he', hp', hR, fun z => by cases z⟩
end
end Ork
end
section
set_option Elab.async false
set_option linter.all false
set_option maxRecDepth 100000
set_option pp.maxSteps 3000
namespace Ork
open PySem L2 PySem.Spec PyProof.Rows

theorem freshS : ∀ r, r < 32 → (List.replicate 32 (0 : Int)).getD r 0 = freshM.sl r := fun r hr => by
  rw [List.getD_eq_getElem?_getD, List.getElem?_replicate, if_pos hr]
  rfl
def spRInit (C : Addr) : Sp := fun vs H Q _ => ∃ p dx rv cv rows code, vs = [.ref p, rv, cv] ∧ H p = some (.ins C dx []) ∧ Tp H rv (rowsD rows) ∧ (placesOf rows).length ≤ 900 ∧ Tp H cv (codeD code) ∧
  ∀ H' pla sl, Kp [p] H H' → RM C H' p pla sl cv (placesOf rows) code freshM → H pla = none → H sl = none → Q .non H'
section
variable {P : Program} {w : World} {base : Heap} {mg : Str → Option Value} {K : PySem.W.Frag}
theorem ok_rinit {C f : Addr} {fd : FuncData} {tk : Tok} (T : RT K C) (F : Fun K "__init__" "Runner.__init__" sRInit f fd) (hM : mg "MOST_SLOT" = some (.int 31 tk))
    (hP : Has P w K mg base "all_places" 1 ["cells"] spAllPlaces) : FnOk P w K mg base CX0 2 f fd ["self", "cells", "code"] (spRInit C) := by
  refine F.ok scRInit (fun vs H Q E h => ?_) (fun cdv A outer s H vs Q E hr h => ?_)
  · obtain ⟨_, _, _, _, _, _, rfl, _⟩ := h
    rfl
  · obtain ⟨p, dx, rv, cv, rows, code, rfl, hp, tr, hlen, tc, k⟩ := h
    have hu := hu_of hr
    refine ⟨_, pss_cons (ps_asg (pe_tup (pa_cons (pe_has hP hr rfl (pa_cons (pv 1) pa_nil)) (pa_cons (pv 2) pa_nil))) (pg_tup rfl (pgs_cons (pg_fld (pv 0)) (pgs_cons (pg_fld (pv 0)) pgs_nil))))
      (pss_cons (ps_fld (pv 0) (pe_op op_rep (pe_lst (pa_cons pe_int pa_nil)) (pe_op op_add (pe_glob (v := .int 31) rfl hM ⟨_, rfl⟩) pe_int)) rfl)
      (pss_one (ps_asg (pe_tup (pa_cons pe_int (pa_cons pe_bl (pa_cons pe_non pa_nil)))) (pg_tup rfl (pgs_cons (pg_fld (pv 0)) (pgs_cons (pg_fld (pv 0)) (pgs_cons (pg_fld (pv 0)) pgs_nil))))))), ?_⟩
    refine ⟨_, rfl, rv, rows, rfl, tr, hlen, fun pla xs H1 k1 n1 h1 t1 => ⟨_, rfl, (by show 2 ≤ sizeLine; decide), fun t nt => ?_⟩⟩
    have kt := k1.new (o := .tup [.ref pla, cv]) nt
    have kt1 := (Kp.refl [] H1).new (o := .tup [.ref pla, cv]) nt
    have hpt := kt.same _ _ hp (by simp)
    have h1t := kt1.same _ _ h1 (by simp)
    have t1t := Tps.keep kt1.tk _ _ t1
    refine ⟨t, _, rfl, .of upd_same, rfl, _, _, rfl, ⟨_, rfl, p, C, dx, _, rfl, hpt, T.cl, T.n1, (by show 0 < 1000; decide), _, _, rfl, ⟨_, rfl, p, C, dx, _, rfl, upd_same, T.cl, T.n2, (by show 1 < 1000; decide), rfl, ?_⟩⟩⟩
    rw [upd_upd]
    have kp := (kt.mono (S' := [p]) (by simp)).put (o := .ins C dx (putF f_code cv (putF f_places (.ref pla) []))) (p := p) (by simp) hpt (fun _ z => by cases z)
    have kp1 := (Kp.refl [p] _).put (o := .ins C dx (putF f_code cv (putF f_places (.ref pla) []))) (p := p) (by simp) hpt (fun _ z => by cases z)
    have pnpla : pla ≠ p := ne_of h1t hpt (fun z => by cases z)
    have h1p := kp1.same _ _ h1t (by simpa using pnpla)
    have t1p := Tps.keep kp1.tk _ _ t1t
    have hpp := at_top kp1
    refine ⟨(by show 1 ≤ sizeLine; decide), fun z nz => ?_⟩
    have kz := kp.new (o := .lst [.int 0]) nz
    have kz1 := (Kp.refl [] _).new (o := .lst [.int 0]) nz
    refine ⟨_, _, rfl, rfl, z, _, _, rfl, rfl, upd_same, by decide, by decide, (by show 1 * ((31 : Int) + 1).toNat ≤ sizeLine; decide), fun sl nsl => ?_⟩
    have erep : (List.replicate ((31 : Int) + 1).toNat [V.int 0]).flatten = (List.replicate 32 (0 : Int)).map V.int := rfl
    rw [erep]
    have ks := kz.new (o := .lst ((List.replicate 32 (0 : Int)).map V.int)) nsl
    have ks1 := kz1.new (o := .lst ((List.replicate 32 (0 : Int)).map V.int)) nsl
    have hps := ks1.same _ _ hpp (by simp)
    have h1s := ks1.same _ _ h1p (by simp)
    have t1s := Tps.keep ks1.tk _ _ t1p
    have hss := at_top ks1
    have fsl : H sl = none := k1.dom _ (kt1.dom _ (kp1.dom _ (kz1.dom _ nsl)))
    have nsla : pla ≠ sl := ne_of_none h1p (kz1.dom _ nsl)
    refine ⟨_, rfl, p, C, dx, _, rfl, hps, T.cl, T.n3, (by show 2 < 1000; decide), ?_⟩
    have kq := ks.put (o := .ins C dx (putF f_slots (.ref sl) (putF f_code cv (putF f_places (.ref pla) [])))) (p := p) (by simp) hps (fun _ z => by cases z)
    have kq1 := (Kp.refl [p] _).put (o := .ins C dx (putF f_slots (.ref sl) (putF f_code cv (putF f_places (.ref pla) [])))) (p := p) (by simp) hps (fun _ z => by cases z)
    have pnsl : sl ≠ p := ne_of hss hps (fun z => by cases z)
    have hpq := at_top kq1
    have h1q := kq1.same _ _ h1s (by simpa using pnpla)
    have hsq := kq1.same _ _ hss (by simpa using pnsl)
    have t1q := Tps.keep kq1.tk _ _ t1s
    refine ⟨(by show 3 ≤ sizeLine; decide), fun u nu => ?_⟩
    have ku := kq.new (o := .tup [.int 0, .bl false, .non]) nu
    have ku1 := (Kp.refl [] _).new (o := .tup [.int 0, .bl false, .non]) nu
    have hpu := ku1.same _ _ hpq (by simp)
    have h1u := ku1.same _ _ h1q (by simp)
    have hsu := ku1.same _ _ hsq (by simp)
    have t1u := Tps.keep ku1.tk _ _ t1q
    refine ⟨u, _, rfl, .of upd_same, rfl, _, _, rfl, ⟨_, rfl, p, C, dx, _, rfl, hpu, T.cl, T.n4, (by show 3 < 1000; decide), _, _, rfl, ⟨_, rfl, p, C, dx, _, rfl, upd_same, T.cl, T.n5, (by show 4 < 1000; decide), _, _, rfl, ⟨_, rfl, p, C, dx, _, rfl, upd_same, T.cl, T.n6, (by show 5 < 1000; decide), rfl, ?_⟩⟩⟩⟩
    rw [upd_upd, upd_upd]
    have em : putF (Str.ofString "fault_at") .non (putF (Str.ofString "is_over") (.bl false) (putF (Str.ofString "next_at") (.int 0) (putF f_slots (.ref sl) (putF f_code cv (putF f_places (.ref pla) []))))) = runF pla cv sl 0 false .non := runF_made
    rw [em]
    have kf := ku.put (o := .ins C dx (runF pla cv sl 0 false .non)) (p := p) (by simp) hpu (fun _ z => by cases z)
    have kf1 := (Kp.refl [p] _).put (o := .ins C dx (runF pla cv sl 0 false .non)) (p := p) (by simp) hpu (fun _ z => by cases z)
    exact k _ pla sl kf ⟨⟨dx, .non, at_top kf1⟩, ⟨xs, kf1.same _ _ h1u (by simpa using pnpla), Tps.keep kf1.tk _ _ t1u⟩, ⟨_, kf1.same _ _ hsu (by simpa using pnsl), by simp, freshS⟩, Tp.keep kf.tk _ _ tc, nsla⟩ n1 fsl
end
end Ork
end
section
set_option Elab.async false
set_option linter.all false
set_option maxRecDepth 100000
set_option pp.maxSteps 3000
namespace Ork
open PySem L2 PySem.Spec PyProof.Rows

abbrev Fp := Addr × Addr × Addr
def flat3 (fp : List Fp) : List Addr := fp.flatMap fun p => [p.1, p.2.1, p.2.2]
theorem mem_flat3 {fp : List Fp} {a : Addr} : a ∈ flat3 fp ↔ ∃ p ∈ fp, a = p.1 ∨ a = p.2.1 ∨ a = p.2.2 := by
  unfold flat3
  simp [List.mem_flatMap]
theorem flat3_snoc (fp : List Fp) (p : Fp) : flat3 (fp ++ [p]) = flat3 fp ++ [p.1, p.2.1, p.2.2] := by simp [flat3]
theorem flat3_apart : ∀ {fp : List Fp} {i j : Nat} {p q : Fp}, (flat3 fp).Nodup → fp[i]? = some p → fp[j]? = some q → i ≠ j → ∀ a, a ∈ ([q.1, q.2.1, q.2.2] : List Addr) → a ∉ ([p.1, p.2.1, p.2.2] : List Addr)
  | [], i, _, _, _, _, h, _, _ => by simp at h
  | x :: fp, i, j, p, q, nd, hi, hj, ne => by
    have nd' : (([x.1, x.2.1, x.2.2] : List Addr) ++ flat3 fp).Nodup := nd
    rw [List.nodup_append] at nd'
    obtain ⟨_, n2, n3⟩ := nd'
    intro a ha hb
    cases i with
    | zero =>
      cases j with
      | zero => exact absurd rfl ne
      | succ j =>
        simp at hi
        subst hi
        have hm : q ∈ fp := List.mem_of_getElem? (by simpa using hj)
        have ha2 : a ∈ flat3 fp := mem_flat3.mpr ⟨q, hm, by simpa using ha⟩
        exact n3 a hb a ha2 rfl
    | succ i =>
      cases j with
      | zero =>
        simp at hj
        subst hj
        have hm : p ∈ fp := List.mem_of_getElem? (by simpa using hi)
        have hb2 : a ∈ flat3 fp := mem_flat3.mpr ⟨p, hm, by simpa using hb⟩
        exact n3 a ha a hb2 rfl
      | succ j => exact flat3_apart n2 (by simpa using hi) (by simpa using hj) (fun e => ne (by rw [e])) a ha hb
/-- [Runner(cells, code) for code in codes] -/
theorem runnersComp {K : PySem.W.Frag} {C ca : Addr} {a0 a2 a4 : Option V} {rv : V} {cvs : List V} {rows : List Row} {codes : List (List Ins)} {Hs : Hp} {Q : V → Hp → Prop} (tr : Tp Hs rv (rowsD rows)) (hlen : (placesOf rows).length ≤ 900) (hca : Hs ca = some (.tup cvs)) (tcs : Tps Hs cvs (codes.map codeD)) (hn : codes.length ≤ 3)
    (k : ∀ (D : Addr) (fps : List Fp) (H' : Hp), Kp [] Hs H' → Hs D = none → H' D = some (.lst (fps.map fun p => V.ref p.1)) → fps.length = codes.length →
      (∀ (i : Nat) (q : Fp) (cv : V) (code : List Ins), fps[i]? = some q → cvs[i]? = some cv → codes[i]? = some code → RM C H' q.1 q.2.1 q.2.2 cv (placesOf rows) code freshM) → (flat3 fps).Nodup → (∀ a ∈ flat3 fps, Hs a = none ∧ a ≠ D) → Q (.ref D) H') :
    tLc (iTup K (tVar 3)) (gName 4) tYes (tMake C (spRInit C) [] E0 (tCons (tVar 1) (tCons (tVar 4) tNil))) [4] [a0, some rv, a2, some (.ref ca), a4] Hs Q := by
  refine ⟨_, rfl, ca, rfl, ⟨_, .of hca⟩, fun D nD => ?_⟩
  have kD : Kp [] Hs (upd Hs D (.lst [])) := (Kp.refl [] Hs).new nD
  have hcl : cvs.length = codes.length := by rw [tcs.length, List.length_map]
  have eD : ∀ a, (upd Hs D (.lst []) : Hp) a = none → a ≠ D := fun a z e => by subst e; rw [upd_same] at z; cases z
  refine lc_tup (xs := cvs) (fun i H' => ∃ fps : List Fp, fps.length = i ∧ Kp [D] (upd Hs D (.lst [])) H' ∧ H' D = some (.lst (fps.map fun p => V.ref p.1)) ∧
    (∀ (j : Nat) (q : Fp) (cv : V) (code : List Ins), fps[j]? = some q → cvs[j]? = some cv → codes[j]? = some code → RM C H' q.1 q.2.1 q.2.2 cv (placesOf rows) code freshM) ∧ (flat3 fps).Nodup ∧ ∀ a ∈ flat3 fps, (upd Hs D (.lst []) : Hp) a = none ∧ H' a ≠ none)
    ⟨[], rfl, Kp.refl _ _, upd_same, fun j q cv code h => by simp at h, List.nodup_nil, fun a h => by simp [flat3] at h⟩ (fun i H' _ h => ?_) (fun i x H' hx h => ?_) (fun H' h => ?_)
  · obtain ⟨fps, e, kk, _⟩ := h
    exact .of (kk.tk _ _ (kD.tk _ _ hca))
  · obtain ⟨fps, e, kk, hD, hrm, nd, fr⟩ := h
    have hi : i < codes.length := by rw [← hcl]; exact (List.getElem?_eq_some_iff.mp hx).1
    have hcode : codes[i]? = some codes[i] := List.getElem?_eq_getElem hi
    obtain ⟨x', hx', tx⟩ := tcs.get (i := i) (d := codeD codes[i]) (by rw [List.getElem?_map, hcode]; rfl)
    rw [hx] at hx'
    cases hx'
    have k0 : TK Hs H' := fun b ys z => kk.tk _ _ (kD.tk _ _ z)
    refine ⟨rfl, _, rfl, _, rfl, fun y dy ny ndy nyd => ?_⟩
    have kn1 := (Kp.refl [] H').new (o := .own y) ndy
    have kn := kn1.new (p := y) (o := .ins C dy []) (by rw [upd_ne nyd.symm]; exact ny)
    refine ⟨y, dy, rv, x, rows, codes[i], rfl, upd_same, Tp.keep kn.tk _ _ (Tp.keep k0 _ _ tr), hlen, Tp.keep kn.tk _ _ (Tp.keep k0 _ _ tx), fun H2 pla sl k2 r2 np ns => ⟨rfl, ?_⟩⟩
    have kall : Kp [] H' H2 := ((kn.mono (S' := [y]) (by simp)).trans k2).drop (fun b hb => .inr (by rw [List.mem_singleton.mp hb]; exact ny))
    have hD2 := kall.same _ _ hD (by simp)
    obtain ⟨⟨dx, fa, g1⟩, ⟨xs', g2, _⟩, ⟨ss, g3, _⟩, _, gne⟩ := id r2
    have fy : (upd Hs D (.lst []) : Hp) y = none := kk.dom _ ny
    have fp' : (upd Hs D (.lst []) : Hp) pla = none := kk.dom _ (kn.dom _ np)
    have fs : (upd Hs D (.lst []) : Hp) sl = none := kk.dom _ (kn.dom _ ns)
    have npl : H' pla = none := kn.dom _ np
    have nsl : H' sl = none := kn.dom _ ns
    have y1 : y ≠ pla := ne_of g1 g2 (fun z => by cases z)
    have y2 : y ≠ sl := ne_of g1 g3 (fun z => by cases z)
    have kput := (Kp.refl [D] H2).put (o := .lst ((fps.map fun p => V.ref p.1) ++ [.ref y])) (by simp) hD2 (fun _ z => by cases z)
    refine ⟨_, hD2, by rw [List.length_map]; exact small1000 (by omega), fps ++ [(y, pla, sl)], by rw [List.length_append]; simp [e], (kk.trans (kall.mono (by simp))).put (by simp) hD2 (fun _ z => by cases z), ?_, ?_, ?_, ?_⟩
    · rw [upd_same, List.map_append]
      rfl
    · intro j q cv code hq hcv hcd
      rcases Nat.lt_or_ge j fps.length with hjl | hjl
      · rw [List.getElem?_append_left hjl] at hq
        have hmem := List.mem_of_getElem? hq
        have f1 := eD _ (fr q.1 (mem_flat3.mpr ⟨q, hmem, .inl rfl⟩)).1
        have f2 := eD _ (fr q.2.1 (mem_flat3.mpr ⟨q, hmem, .inr (.inl rfl)⟩)).1
        have f3 := eD _ (fr q.2.2 (mem_flat3.mpr ⟨q, hmem, .inr (.inr rfl)⟩)).1
        exact ((hrm j q cv code hq hcv hcd).kp kall (by simp) (by simp) (by simp)).kp kput (by simpa using f1) (by simpa using f2) (by simpa using f3)
      · have ej : j = i := by
          have := (List.getElem?_eq_some_iff.mp hq).1
          rw [List.length_append] at this
          simp at this
          omega
        subst ej
        rw [hcode] at hcd
        cases hcd
        rw [hx] at hcv
        cases hcv
        rw [List.getElem?_append_right (by omega), e] at hq
        simp at hq
        subst hq
        exact r2.kp kput (by simpa using eD _ fy) (by simpa using eD _ fp') (by simpa using eD _ fs)
    · rw [flat3_snoc, List.nodup_append]
      refine ⟨nd, by simp [y1, y2, gne], fun a ha b hb z => ?_⟩
      subst z
      have := (fr a ha).2
      simp at hb
      obtain rfl | rfl | rfl := hb
      · exact this ny
      · exact this npl
      · exact this nsl
    · intro a ha
      rw [flat3_snoc, List.mem_append] at ha
      rcases ha with ha | ha
      · obtain ⟨f1, f2⟩ := fr a ha
        refine ⟨f1, ?_⟩
        rw [upd_ne (eD _ f1)]
        intro z
        exact f2 (kall.dom _ z)
      · simp at ha
        rcases ha with rfl | rfl | rfl
        · exact ⟨fy, by rw [upd_ne (eD _ fy), g1]; exact fun z => by cases z⟩
        · exact ⟨fp', by rw [upd_ne (eD _ fp'), g2]; exact fun z => by cases z⟩
        · exact ⟨fs, by rw [upd_ne (eD _ fs), g3]; exact fun z => by cases z⟩
  · obtain ⟨fps, e, kk, hD, hrm, nd, fr⟩ := h
    have k0 : Kp [] Hs H' := (kD.mono (S' := [D]) (by simp)).trans kk |>.drop (fun b hb => .inr (by rw [List.mem_singleton.mp hb]; exact nD))
    exact k D fps H' k0 nD hD (by rw [e, hcl]) hrm nd fun a ha => by
      have z := (fr a ha).1
      have q := eD _ z
      rw [upd_ne q] at z
      exact ⟨z, q⟩
end Ork
end
section
set_option Elab.async false
set_option linter.all false
set_option maxRecDepth 100000
set_option pp.maxSteps 3000
namespace Ork
open PySem L2 PySem.Spec PyProof.Rows

theorem fld_intro {K : PySem.W.Frag} {ta tv : TE} {f : Str} {D : Ends} {σ : L2.St} {H : Hp} (h : tv σ H fun y H1 => ta σ H1 fun x H2 => ∃ a C dx fs, x = .ref a ∧ H2 a = some (.ins C dx fs) ∧ Cls K C ∧ NoAttr K C f ∧ fs.length < 1000 ∧ D.nx σ (upd H2 a (.ins C dx (putF f y fs)))) : sFld K ta tv f D σ H := h
def f_held : Str := "held"
def f_runners : Str := "runners"
theorem d_held : ¬ f_held = f_runners := by decide +kernel
def togF (hl rl : Addr) : List (Str × V) := [(f_held, .ref hl), (f_runners, .ref rl)]
section
variable {hl rl : Addr}
theorem tl_held : (togF hl rl).lookup f_held = some (.ref hl) := lk_eq
theorem tl_runners : (togF hl rl).lookup f_runners = some (.ref rl) := (lk_ne (fun e => d_held e.symm)).trans lk_eq
theorem tn_do : (togF hl rl).lookup ("do_event" : Str) = none := by
  unfold togF
  rw [lk_ne (by decide +kernel), lk_ne (by decide +kernel)]
  rfl
theorem tog_made : putF f_runners (.ref rl) (putF f_held (.ref hl) []) = togF hl rl := by
  show putF f_runners (.ref rl) [(f_held, .ref hl)] = _
  rw [pf_ne d_held]
  rfl
end
/-- the program's runners over the held cells -/
structure TogAt (C C2 : Addr) (H : Hp) (t hl rl : Addr) (fps : List Fp) (cvs : List V) (pl : List Nm) (codes : List (List Ins)) (g : Cfg) : Prop where
  ins : ∃ dx, H t = some (.ins C2 dx (togF hl rl))
  held : H hl = some (.lst (g.c.map V.int))
  runners : H rl = some (.lst (fps.map fun p => V.ref p.1))
  len : fps.length = codes.length
  clen : cvs.length = codes.length
  rm : ∀ (i : Nat) (q : Fp) (cv : V) (code : List Ins) (m : Mc), fps[i]? = some q → cvs[i]? = some cv → codes[i]? = some code → g.ms[i]? = some m → RM C H q.1 q.2.1 q.2.2 cv pl code m
  nodup : (flat3 fps).Nodup
  hn : hl ∉ flat3 fps
  rn : rl ∉ flat3 fps
  hr : hl ≠ rl
  tn : t ∉ flat3 fps
structure TT2 (K : PySem.W.Frag) (C : Addr) : Prop where
  cl : Cls K C
  n1 : NoAttr K C f_held
  n2 : NoAttr K C f_runners
theorem codesTup {H : Hp} {codes : List (List Ins)} {v : V} (h : Tp H v (codesD codes)) : ∃ a xs, v = .ref a ∧ H a = some (.tup xs) ∧ Tps H xs (codes.map codeD) := by
  cases h with
  | tup a b => exact ⟨_, _, rfl, a, b⟩
theorem intsTup {H : Hp} {c : List Int} {v : V} (h : Tp H v (intsD c)) : ∃ a, v = .ref a ∧ H a = some (.tup (c.map V.int)) := by
  cases h with
  | tup a b =>
    have e := Tps.toInts b
    subst e
    exact ⟨_, rfl, a⟩
def spTInit (C C2 : Addr) : Sp := fun vs H Q _ => ∃ t dx rv stv csv rows c codes, vs = [.ref t, rv, stv, csv] ∧ H t = some (.ins C2 dx []) ∧ Tp H rv (rowsD rows) ∧ (placesOf rows).length ≤ 900 ∧ Tp H stv (intsD c) ∧ Tp H csv (codesD codes) ∧ codes.length ≤ 3 ∧
  ∀ H' hl rl fps cvs, Kp [t] H H' → TogAt C C2 H' t hl rl fps cvs (placesOf rows) codes (cfg0 codes c) → H hl = none → (∀ a ∈ flat3 fps, H a = none) → Q .non H'
def spDoE (C C2 : Addr) : Sp := fun vs H Q _ => ∃ t hl rl fps cvs pl codes g k, vs = [.ref t, .int (k : Nat)] ∧ TogAt C C2 H t hl rl fps cvs pl codes g ∧ CodesOk pl codes ∧ CfgOk pl codes g ∧ k < codes.length ∧ (∀ n ∈ pl, n.ok = true) ∧
  ∀ H' v, Kp (hl :: flat3 fps) H H' → TogAt C C2 H' t hl rl fps cvs pl codes (evK pl codes k g).1 → ((evK pl codes k g).2 = true → ∃ r, v = .ref r) → ((evK pl codes k g).2 = false → v = .non) → Q v H'
def spHasStep : Sp := fun vs H Q _ => ∃ rv stv csv schv rows c codes ks k, vs = [rv, stv, csv, schv, .int (k : Nat)] ∧ Tp H rv (rowsD rows) ∧ (placesOf rows).length ≤ 900 ∧ (∀ n ∈ placesOf rows, n.ok = true) ∧ Tp H stv (intsD c) ∧ Tp H csv (codesD codes) ∧ CodesOk (placesOf rows) codes ∧
  c.length = (placesOf rows).length ∧ (∀ v ∈ c, v.natAbs < 4) ∧ Tp H schv (natsD ks) ∧ (∀ j ∈ ks, j < codes.length) ∧ k < codes.length ∧
  ∀ H', Kp [] H H' → Q (.bl (evK (placesOf rows) codes k (runS (placesOf rows) codes (cfg0 codes c) ks)).2) H'
section
variable {P : Program} {w : World} {base : Heap} {mg : Str → Option Value} {K : PySem.W.Frag}
theorem ok_tinit {C C2 f fI : Addr} {fdI fd : FuncData} (B : Bn mg) (T2 : TT2 K C2) (F : Fun K "__init__" "Together.__init__" sTInit f fd) (M : Mk K C fI) (hm : mg "Runner" = some (.ref C)) (bI : Binds K fdI ["self", "cells", "code"] [])
    (FI : FnOk P w K mg base CX0 2 fI fdI ["self", "cells", "code"] (spRInit C)) : FnOk P w K mg base CX0 4 f fd ["self", "cells", "state", "codes"] (spTInit C C2) := by
  refine F.ok scTInit (fun vs H Q E h => ?_) (fun cdv A outer s H vs Q E hr h => ?_)
  · obtain ⟨_, _, _, _, _, _, _, _, rfl, _⟩ := h
    rfl
  · obtain ⟨t, dx, rv, stv, csv, rows, c, codes, rfl, ht, tr, hlen, tst, tcs, hn, k⟩ := h
    have hu := hu_of hr
    have nd := scTInit.nd
    obtain ⟨ca, cvs, rfl, hca, tcv⟩ := codesTup tcs
    obtain ⟨sa, rfl, hsa⟩ := intsTup tst
    refine ⟨_, pss_cons (ps_fld (pv 0) (pe_callTy call_list_of (by rfl) B.list (by decide +kernel) (pa_cons (pv 2) pa_nil)) rfl)
      (pss_one (ps_fld (pv 0) (pe_lc (own := [("code", 4)]) (g := gName 4) (tt := tYes) (by rfl) nd (pi_tup (pv 3)) (blkOk_by (own := [("code", 4)]) (N := nTInit) (sc := defScope sTInit) (by decide +kernel)) (fun _ _ _ _ _ => pg_name (i := 4) nd rfl (.inl rfl)) (fun _ _ _ _ _ => pts_nil)
        (fun _ _ _ _ _ => pe_make M FI hr rfl hm bI .nil pass0 (pa_cons (pv 1) (pa_cons (pv 4) pa_nil)))) rfl)), ?_⟩
    refine ⟨_, rfl, sa, _, rfl, .inr (.of hsa), fun hl nhl => ?_⟩
    have kh := (Kp.refl [] H).new (o := .lst (c.map V.int)) nhl
    have hth := kh.same _ _ ht (by simp)
    refine ⟨_, rfl, t, C2, dx, _, rfl, hth, T2.cl, T2.n1, (by show 0 < 1000; decide), ?_⟩
    have kt := (kh.mono (S' := [t]) (by simp)).put (o := .ins C2 dx (putF f_held (.ref hl) [])) (p := t) (by simp) hth (fun _ z => by cases z)
    have kt1 := (Kp.refl [t] _).put (o := .ins C2 dx (putF f_held (.ref hl) [])) (p := t) (by simp) hth (fun _ z => by cases z)
    have nht : hl ≠ t := (ne_of_none ht nhl).symm
    have hhl := kt1.same _ _ (at_top kh) (by simpa using nht)
    have ht1 := at_top kt1
    refine fld_intro (runnersComp (Tp.keep kt.tk _ _ tr) hlen (kt.tk _ _ hca) (Tps.keep kt.tk _ _ tcv) hn fun D fps H2 k2 nD hD lf hrm nod fr => ?_)
    have ht2 := k2.same _ _ ht1 (by simp)
    refine ⟨_, rfl, t, C2, dx, _, rfl, ht2, T2.cl, T2.n2, (by show 1 < 1000; decide), ?_⟩
    have e : putF (Str.ofString "runners") (.ref D) (putF f_held (.ref hl) []) = togF hl D := tog_made
    rw [e]
    have kf := (kt.trans (k2.mono (by simp))).put (o := .ins C2 dx (togF hl D)) (p := t) (by simp) ht2 (fun _ z => by cases z)
    have kf1 := (Kp.refl [t] H2).put (o := .ins C2 dx (togF hl D)) (p := t) (by simp) ht2 (fun _ z => by cases z)
    have hDt : D ≠ t := (ne_of_none ht1 nD).symm
    have fr' : ∀ a ∈ flat3 fps, a ≠ t := fun a ha e => by
      subst e
      have := (fr a ha).1
      rw [ht1] at this
      cases this
    have hhl2 := k2.same _ _ hhl (by simp)
    refine k _ hl D fps cvs kf ⟨⟨dx, at_top kf1⟩, kf1.same _ _ hhl2 (by simpa using nht), kf1.same _ _ hD (by simpa using hDt), lf, by rw [tcv.length, List.length_map], fun i q cv code m h1 h2 h3 h4 => ?_, nod, fun z => ?_, fun z => (fr _ z).2 rfl, fun z => ?_, fun z => fr' t z rfl⟩ nhl fun a ha => ?_
    · have em : m = freshM := by
        obtain ⟨_, _, e⟩ := List.mem_map.mp (List.mem_of_getElem? h4)
        exact e.symm
      subst em
      have hmem := List.mem_of_getElem? h1
      exact (hrm i q cv code h1 h2 h3).kp kf1 (by simpa using fr' _ (mem_flat3.mpr ⟨q, hmem, .inl rfl⟩)) (by simpa using fr' _ (mem_flat3.mpr ⟨q, hmem, .inr (.inl rfl)⟩)) (by simpa using fr' _ (mem_flat3.mpr ⟨q, hmem, .inr (.inr rfl)⟩))
    · have := (fr _ z).1
      rw [hhl] at this
      cases this
    · subst z
      rw [hhl] at nD
      cases nD
    · exact kt.dom _ (fr a ha).1
theorem ok_doE {C C2 f : Addr} {fd : FuncData} (T : RT K C) (T2 : TT2 K C2) (F : Fun K "do_event" "Together.do_event" sTDo f fd) (hN : MHas P w K mg base C "next_event" 3 ["self", "values"] [] (spNextE C)) : FnOk P w K mg base CX0 4 f fd ["self", "k"] (spDoE C C2) := by
  refine F.ok scTDo (fun vs H Q E h => ?_) (fun cdv A outer s H vs Q E hr h => ?_)
  · obtain ⟨_, _, _, _, _, _, _, _, _, rfl, _⟩ := h
    rfl
  · obtain ⟨t, hl, rl, fps, cvs, pl, codes, g, kk, rfl, tg, co, ok, hk, hok, k⟩ := h
    have hu := hu_of hr
    refine ⟨_, pss_one (ps_ret (pe_mhas hN T.cl hr (pe_ix ix_list (pe_fld (pv 0) rfl) (pv 1) (fun _ _ => rfl)) (pa_cons (pe_fld (pv 0) rfl) pa_nil))), ?_⟩
    obtain ⟨dx, ht⟩ := tg.ins
    have hcode : codes[kk]? = some codes[kk] := List.getElem?_eq_getElem hk
    have hkm : kk < g.ms.length := by rw [ok.len]; exact hk
    have hmm : g.ms[kk]? = some g.ms[kk] := List.getElem?_eq_getElem hkm
    have hkf : kk < fps.length := by rw [tg.len]; exact hk
    have hpp : fps[kk]? = some fps[kk] := List.getElem?_eq_getElem hkf
    have hkc : kk < cvs.length := by rw [tg.clen]; exact hk
    have hcc : cvs[kk]? = some cvs[kk] := List.getElem?_eq_getElem hkc
    have rm := tg.rm kk _ _ _ _ hpp hcc hcode hmm
    obtain ⟨⟨dx', fa, e1⟩, ⟨xs, e2, _⟩, ⟨ss, e3, _⟩, _, ne⟩ := id rm
    have hle : codes[kk].length - g.ms[kk].pc ≤ meas codes g := measL_get hcode hmm
    have hsm := ok.small
    have m0 := List.getElem_mem hkf
    have m1 : fps[kk].1 ∈ flat3 fps := mem_flat3.mpr ⟨_, m0, .inl rfl⟩
    have m2 : fps[kk].2.1 ∈ flat3 fps := mem_flat3.mpr ⟨_, m0, .inr (.inl rfl)⟩
    have m3 : fps[kk].2.2 ∈ flat3 fps := mem_flat3.mpr ⟨_, m0, .inr (.inr rfl)⟩
    have h1 : hl ≠ fps[kk].2.1 := fun z => tg.hn (z ▸ m2)
    have h2 : hl ≠ fps[kk].2.2 := fun z => tg.hn (z ▸ m3)
    have EK := evK_eq (pl := pl) hcode hmm
    refine ⟨_, rfl, t, C2, dx, _, _, rfl, ht, T2.cl, T2.n2, tl_runners, _, rfl, rl, _, _, .ref fps[kk].1, rfl, rfl, .of tg.runners, atI_nat (by rw [List.getElem?_map, hpp]; rfl), fps[kk].1, dx', _, rfl, e1, rn_next_event, _, rfl, t, C2, dx, _, _, rfl, ht, T2.cl, T2.n1, tl_held,
      fps[kk].1, fps[kk].2.1, fps[kk].2.2, cvs[kk], hl, pl, codes[kk], g.ms[kk], g.c, 12 - meas codes g, rfl, rm, co.2.2 _ (List.getElem_mem hk), tg.held, ok.cells, h1, h2, hok, ok.bd _ (List.getElem_mem hkm), by omega, by omega, ok.pcs kk _ _ hcode hmm, fun H' v k3 r3 h3 a1 a2 => ?_⟩
    have kS : Kp (hl :: flat3 fps) H H' := k3.mono fun b hb => by
      simp at hb
      obtain rfl | rfl | rfl := hb
      · exact List.mem_cons_of_mem _ m1
      · exact List.mem_cons_of_mem _ m3
      · exact List.mem_cons_self ..
    have tA : t ∉ ([fps[kk].1, fps[kk].2.2, hl] : List Addr) := by
      have n1 : t ≠ fps[kk].1 := fun z => tg.tn (z ▸ m1)
      have n2 : t ≠ fps[kk].2.2 := fun z => tg.tn (z ▸ m3)
      have n3 : t ≠ hl := ne_of ht tg.held (fun z => by cases z)
      simp [n1, n2, n3]
    have rA : rl ∉ ([fps[kk].1, fps[kk].2.2, hl] : List Addr) := by
      have n1 : rl ≠ fps[kk].1 := fun z => tg.rn (z ▸ m1)
      have n2 : rl ≠ fps[kk].2.2 := fun z => tg.rn (z ▸ m3)
      simp [n1, n2, tg.hr.symm]
    refine k H' v kS ⟨⟨dx, k3.same _ _ ht tA⟩, by rw [EK]; exact h3, k3.same _ _ tg.runners rA, tg.len, tg.clen, fun i q cv code m g1 g2 g3 g4 => ?_, tg.nodup, tg.hn, tg.rn, tg.hr, tg.tn⟩ (by rw [EK]; exact a1) (by rw [EK]; exact a2)
    rw [EK] at g4
    by_cases e : kk = i
    · subst e
      rw [List.getElem?_set_self hkm] at g4
      cases g4
      rw [hpp] at g1
      cases g1
      rw [hcc] at g2
      cases g2
      rw [hcode] at g3
      cases g3
      exact r3
    · rw [List.getElem?_set_ne e] at g4
      have apart := flat3_apart tg.nodup hpp g1 e
      have hmem := List.mem_of_getElem? g1
      have outside : ∀ a ∈ ([q.1, q.2.1, q.2.2] : List Addr), a ∉ ([fps[kk].1, fps[kk].2.2, hl] : List Addr) := fun a ha hb => by
        have z := apart a ha
        have hf : a ∈ flat3 fps := mem_flat3.mpr ⟨q, hmem, by simpa using ha⟩
        simp at hb z
        obtain rfl | rfl | rfl := hb
        · exact z.1 rfl
        · exact z.2.2 rfl
        · exact tg.hn hf
      exact (tg.rm i q cv code m g1 g2 g3 g4).kp k3 (outside _ (by simp)) (outside _ (by simp)) (outside _ (by simp))
end
end Ork
end
section
set_option Elab.async false
set_option linter.all false
set_option maxRecDepth 100000
set_option pp.maxSteps 3000
namespace Ork
open PySem L2 PySem.Spec PyProof.Rows
section
variable {P : Program} {w : World} {base : Heap} {mg : Str → Option Value} {K : PySem.W.Frag}
theorem ok_has {C C2 f fI : Addr} {fdI fd : FuncData} (T2 : TT2 K C2) (D : Def K mg "has_step" sHasStep ["cells", "state", "codes", "schedule", "k"] f fd) (M : Mk K C2 fI) (hm : mg "Together" = some (.ref C2)) (bI : Binds K fdI ["self", "cells", "state", "codes"] [])
    (FI : FnOk P w K mg base CX0 4 fI fdI ["self", "cells", "state", "codes"] (spTInit C C2)) (hD : MHas P w K mg base C2 "do_event" 4 ["self", "k"] [] (spDoE C C2)) :
    Has P w K mg base "has_step" 6 ["cells", "state", "codes", "schedule", "k"] spHasStep := by
  refine D.has (D.fn.ok scHasStep (fun vs H Q E h => ?_) (fun cdv A outer s H vs Q E hr h => ?_))
  · obtain ⟨_, _, _, _, _, _, _, _, _, rfl, _⟩ := h
    rfl
  · obtain ⟨rv, stv, csv, schv, rows, c, codes, ks, kk, rfl, tr, hlen, hok, tst, tcs, co, hc, hb, tsch, hks, hk, k⟩ := h
    have hu := hu_of hr
    have nd := scHasStep.nd
    obtain ⟨sc, rfl, hsc⟩ := nats_of tsch
    refine ⟨_, pss_cons (ps_set (i := 5) nd rfl (.inl rfl) (pe_make M FI hr rfl hm bI .nil pass0 (pa_cons (pv 0) (pa_cons (pv 1) (pa_cons (pv 2) pa_nil)))))
      (pss_cons (ps_for PassesOwn.never rfl (pi_tup (pv 3)) (pg_name (i := 6) nd rfl (.inl rfl)) (pss_one (ps_expr (pe_mhas hD T2.cl (hr.mono (by decide)) (pv 5) (pa_cons (pv 6) pa_nil)))))
      (pss_one (ps_ret (pe_cmpR op_notN (pe_mhas hD T2.cl (hr.mono (by decide)) (pv 5) (pa_cons (pv 4) pa_nil)) pe_non (nomark _))))), ?_⟩
    refine ⟨_, rfl, _, rfl, _, rfl, fun t dt nt ndt ntd => ?_⟩
    have kn1 := (Kp.refl [] H).new (o := .own t) ndt
    have kn := kn1.new (p := t) (o := .ins C2 dt []) (by rw [upd_ne ntd.symm]; exact nt)
    refine ⟨t, dt, rv, stv, csv, rows, c, codes, rfl, upd_same, Tp.keep kn.tk _ _ tr, hlen, Tp.keep kn.tk _ _ tst, Tp.keep kn.tk _ _ tcs, co.1, fun H1 hl rl fps cvs k1 tg fhl fr => ⟨rfl, ?_⟩⟩
    have k01 : Kp [] H H1 := ((kn.mono (S' := [t]) (by simp)).trans k1).drop (fun b hb => .inr (by rw [List.mem_singleton.mp hb]; exact nt))
    have ok0 := cfg0_ok co hc hb
    have fH : ∀ b ∈ hl :: flat3 fps, H b = none := fun b hb => by
      obtain e | hb := List.mem_cons.mp hb
      · rw [e]; exact kn.dom _ fhl
      · exact kn.dom _ (fr b hb)
    refine ⟨_, rfl, sc, rfl, ⟨_, .of (k01.tk _ _ hsc)⟩, ?_⟩
    refine for_tup (xs := ks.map fun (j : Nat) => V.int j) (fun i σ H' => ∃ o', σ = [some rv, some stv, some csv, some (.ref sc), some (.int (kk : Nat)), some (.ref t), o'] ∧ Kp [] H H' ∧ TogAt C C2 H' t hl rl fps cvs (placesOf rows) codes (runS (placesOf rows) codes (cfg0 codes c) (ks.take i)))
      ⟨_, rfl, k01, tg⟩ (fun i σ H' _ h => ?_) (fun i x σ Hs hx h => ?_) (fun σ H' h => ?_)
    · obtain ⟨o', rfl, kq, _⟩ := h
      exact .of (kq.tk _ _ hsc)
    · obtain ⟨o', rfl, kq, tq⟩ := h
      have hil : i < ks.length := by
        have := (List.getElem?_eq_some_iff.mp hx).1
        simpa using this
      have hki : ks[i]? = some ks[i] := List.getElem?_eq_getElem hil
      obtain rfl : x = .int (ks[i] : Nat) := by
        rw [List.getElem?_map, hki] at hx
        exact (Option.some.inj hx).symm
      have okq := runS_ok co (ks.take i) _ ok0 fun j hj => hks j (List.mem_of_mem_take hj)
      obtain ⟨dx, ht⟩ := tq.ins
      refine ⟨_, rfl, t, dx, _, rfl, ht, tn_do, _, rfl, t, hl, rl, fps, cvs, placesOf rows, codes, _, ks[i], rfl, tq, co, okq, hks _ (List.getElem_mem hil), hok, fun H2 v k2 t2 _ _ => ?_⟩
      exact ⟨_, rfl, ((kq.mono (S' := hl :: flat3 fps) (by simp)).trans k2).drop (fun b hb => .inr (fH b hb)), by rw [take_snoc hki, runS_snoc]; exact t2⟩
    · obtain ⟨o', rfl, kq, tq⟩ := h
      rw [List.length_map, List.take_length] at tq
      have okq := runS_ok co ks _ ok0 hks
      obtain ⟨dx, ht⟩ := tq.ins
      refine ⟨_, rfl, t, dx, _, rfl, ht, tn_do, _, rfl, t, hl, rl, fps, cvs, placesOf rows, codes, _, kk, rfl, tq, co, okq, hk, hok, fun H2 v k2 t2 a1 a2 => ⟨rfl, ?_⟩⟩
      have kk2 := k H2 (((kq.mono (S' := hl :: flat3 fps) (by simp)).trans k2).drop (fun b hb => .inr (fH b hb)))
      cases he : (evK (placesOf rows) codes kk (runS (placesOf rows) codes (cfg0 codes c) ks)).2 with
      | true =>
        obtain ⟨r, rfl⟩ := a1 he
        rw [he] at kk2
        exact kk2
      | false =>
        obtain rfl := a2 he
        rw [he] at kk2
        exact kk2
end
end Ork
end
section
set_option Elab.async false
set_option linter.all false
set_option maxRecDepth 100000
set_option pp.maxSteps 3000
namespace Ork
open PySem L2 PySem.Spec PyProof.Rows

/-- [row[0] for row in rows if ..] -/
theorem namesComp {K : PySem.W.Frag} {tt : TT} {p : Row → Bool} {a0 a2 a3 a4 a5 a6 a7 a8 a9 a10 a11 : Option V} {a : Addr} {rvs : List V} {rows : List Row} {Hs : Hp} {Q : V → Hp → Prop} (ha : Hs a = some (.tup rvs)) (trs : Tps Hs rvs (rows.map Row.toD)) (hl : rows.length ≤ 900)
    (htt : ∀ (b : Addr) (r : Row) (H : Hp) (Q : Bool → Hp → Prop), r ∈ rows → H b = some (.tup [.str r.name, .int r.size, .int r.lo, .int r.hi, .bl r.b1, .bl r.b2, .int r.z]) → Q (p r) H → tt [a0, some (.ref a), a2, a3, a4, a5, a6, a7, a8, a9, a10, some (.ref b)] H Q)
    (k : ∀ (D : Addr) (H' : Hp), Kp [] Hs H' → Hs D = none → H' D = some (.lst ((rows.filter p).map fun r => V.str r.name)) → Q (.ref D) H') :
    tLc (iTup K (tVar 1)) (gName 11) tt (tOp (rIxT K) (tVar 11) (tC (.int 0))) [11] [a0, some (.ref a), a2, a3, a4, a5, a6, a7, a8, a9, a10, a11] Hs Q := by
  refine ⟨_, rfl, a, rfl, ⟨_, .of ha⟩, fun D nD => ?_⟩
  have kD : Kp [] Hs (upd Hs D (.lst [])) := (Kp.refl [] Hs).new nD
  have hrl : rvs.length = rows.length := by rw [trs.length, List.length_map]
  have na : a ≠ D := ne_of_none ha nD
  refine lc_tup (xs := rvs) (fun i H' => Kp [D] (upd Hs D (.lst [])) H' ∧ H' D = some (.lst (((rows.take i).filter p).map fun r => V.str r.name))) ⟨Kp.refl _ _, upd_same⟩ (fun i H' _ h => ?_) (fun i x H' hx h => ?_) (fun H' h => ?_)
  · exact .of (h.1.tk _ _ (kD.tk _ _ ha))
  · obtain ⟨kk, hD⟩ := h
    have hi : i < rows.length := by rw [← hrl]; exact (List.getElem?_eq_some_iff.mp hx).1
    have hrow : rows[i]? = some rows[i] := List.getElem?_eq_getElem hi
    obtain ⟨x', hx', tx⟩ := trs.get (i := i) (d := rows[i].toD) (by rw [List.getElem?_map, hrow]; rfl)
    rw [hx] at hx'
    cases hx'
    obtain ⟨b, rfl, hb⟩ := row_of tx
    have hbs := kk.tk _ _ (kD.tk _ _ hb)
    have hlen : (((rows.take i).filter p).map fun r => V.str r.name).length ≤ 900 := by
      rw [List.length_map]
      refine Nat.le_trans (List.length_filter_le _ _) ?_
      rw [List.length_take]
      omega
    refine ⟨rfl, htt b rows[i] H' _ (List.getElem_mem hi) hbs ?_⟩
    rw [take_snoc hrow]
    cases hp : p rows[i] with
    | true =>
      refine iteT ⟨_, rfl, b, _, 0, _, rfl, rfl, .of hbs, rfl, _, hD, small1000 (by omega), kk.put (by simp) hD (fun _ z => by cases z), ?_⟩
      rw [upd_same, List.filter_append, List.map_append]
      simp [hp]
    | false =>
      refine iteF ⟨kk, ?_⟩
      rw [hD, List.filter_append, List.map_append]
      simp [hp]
  · obtain ⟨kk, hD⟩ := h
    rw [hrl, List.take_length] at hD
    have k0 : Kp [] Hs H' := (kD.mono (S' := [D]) (by simp)).trans kk |>.drop (fun b hb => .inr (by rw [List.mem_singleton.mp hb]; exact nD))
    exact k D H' k0 nD hD
def isSc (r : Row) : Bool := decide (r.size = 0)
def isTb (r : Row) : Bool := decide (0 < r.size)
def namesOf (rows : List Row) : List Nm := ((rows.filter isSc).map fun r => Nm.sc r.name) ++ tabOf rows
theorem idx_some {pl : List Nm} {n : Nm} (h : n ∈ pl) : (idx pl n).isSome = true := by
  unfold idx
  rw [List.findIdx?_isSome]
  exact List.any_eq_true.mpr ⟨n, h, decide_eq_true rfl⟩
theorem names_in {rows : List Row} {n : Nm} (h : n ∈ namesOf rows) : n ∈ placesOf rows := by
  unfold namesOf at h
  obtain h | h := List.mem_append.mp h
  · obtain ⟨r, hr, rfl⟩ := List.mem_map.mp h
    obtain ⟨h1, h2⟩ := List.mem_filter.mp hr
    have h2 := of_decide_eq_true h2
    refine List.mem_flatMap.mpr ⟨r, h1, ?_⟩
    unfold Row.places
    rw [if_pos h2]
    exact List.mem_singleton.mpr rfl
  · obtain ⟨r, h1, h2⟩ := List.mem_flatMap.mp h
    refine List.mem_flatMap.mpr ⟨r, h1, ?_⟩
    unfold Row.places
    split
    · rename_i hz
      unfold Row.cells at h2
      rw [hz] at h2
      simp at h2
    · exact h2
theorem names_len {rows : List Row} : (namesOf rows).length = (placesOf rows).length := by
  induction rows with
  | nil => rfl
  | cons r rows ih =>
    have h1 : (namesOf (r :: rows)).length = r.places.length + (namesOf rows).length := by
      unfold namesOf isSc tabOf
      simp only [List.length_append, List.length_map, List.filter_cons, List.flatMap_cons]
      rw [places_len]
      by_cases hz : r.size = 0
      · rw [if_pos (by simpa using hz), if_pos hz]
        simp [Row.cells, hz]
        omega
      · rw [if_neg (by simpa using hz), if_neg hz]
        simp [Row.cells]
        omega
    have h2 : (placesOf (r :: rows)).length = r.places.length + (placesOf rows).length := by simp [placesOf]
    rw [h1, h2, ih]
theorem sc_tps {H : Hp} : ∀ (l : List Row), Tps H (l.map fun r => V.str r.name) ((l.map fun r => Nm.sc r.name).map Nm.toD)
  | [] => .nil
  | r :: l => .cons (.str r.name) (sc_tps l)
theorem strs_tps {H : Hp} : ∀ (l : List Row), Tps H (l.map fun r => V.str r.name) (l.map fun r => PyData.str r.name)
  | [] => .nil
  | r :: l => .cons (.str r.name) (strs_tps l)
theorem strs_lay : ∀ l : List Row, (∀ r ∈ l, PyData.strOk r.name = true) → PyData.canLayAll0 (l.map fun r => PyData.str r.name) = true
  | [], _ => by simp [PyData.canLayAll0]
  | i :: l, h => by simp [PyData.canLayAll0, PyData.canLay0, strs_lay l fun r hr => h r (List.mem_cons_of_mem _ hr), h i (List.mem_cons_self ..)]
theorem strs_depth : ∀ l : List Row, PyData.depthAll (l.map fun r => PyData.str r.name) ≤ 1
  | .nil => by simp [PyData.depthAll]
  | i :: l => by
    have := strs_depth l
    simp only [PyData.depth, PyData.depthAll, List.map_cons]
    omega
theorem strs_shaped (l : List Row) (h : ∀ r ∈ l, PyData.strOk r.name = true) : SeqAt.shaped (.list (l.map fun r => PyData.str r.name)) = true := by
  have h1 := strs_depth l
  show (PyData.canLay0 (.list (l.map fun r => PyData.str r.name)) && decide (PyData.depth (.list (l.map fun r => PyData.str r.name)) ≤ 64)) = true
  rw [Bool.and_eq_true]
  refine ⟨by simp only [PyData.canLay0]; exact strs_lay l h, decide_eq_true ?_⟩
  simp only [PyData.depth]
  omega
theorem op_intro {r : R2} {ta tb : TE} {σ : L2.St} {H : Hp} {Q : VK} (h : ta σ H fun x H1 => tb σ H1 fun y H2 => r x y H2 Q) : tOp r ta tb σ H Q := h
theorem asg_intro {te : TE} {g : TG} {D : Ends} {σ : L2.St} {H : Hp} (h : te σ H fun x H1 => g x σ H1 D.nx) : tAsg te g D σ H := h
theorem seq_intro {a b : TS} {D : Ends} {σ : L2.St} {H : Hp} (h : a { D with nx := b D } σ H) : tSeq a b D σ H := h
theorem opsAt : ∀ (j : Nat), j < 10 → ∃ o' : Op, ([.str "+", .str "-", .str "*", .str "least", .str "most", .str "=", .str "<", .str "<=", .str "div", .str "mod"] : List V)[j]? = some (.str o'.str)
  | 0, _ => ⟨.add, rfl⟩
  | 1, _ => ⟨.sub, rfl⟩
  | 2, _ => ⟨.mul, rfl⟩
  | 3, _ => ⟨.least, rfl⟩
  | 4, _ => ⟨.most, rfl⟩
  | 5, _ => ⟨.eq, rfl⟩
  | 6, _ => ⟨.lt, rfl⟩
  | 7, _ => ⟨.le, rfl⟩
  | 8, _ => ⟨.div, rfl⟩
  | 9, _ => ⟨.mod, rfl⟩
  | n + 10, h => by omega
def spPart : Sp := fun vs H Q _ => ∃ o cl n rv rows at_ many, vs = [.ref o, rv, .int (at_ : Nat), .int (many : Nat)] ∧ Src H o cl n ∧ n ≤ 80000 ∧ Tp H rv (rowsD rows) ∧ rows.length ≤ 900 ∧ (placesOf rows).length ≤ 900 ∧ placesOf rows ≠ [] ∧ (∀ r ∈ rows, PyData.strOk r.name = true ∧ r.name.length ≤ 8) ∧ at_ < many ∧ many ≤ 5 ∧
  ∀ H' v ins, Kp [o] H H' → Src H' o cl (n + 8) → InsOk (placesOf rows) many at_ ins → Tp H' v ins.toD → Q v H'
section
variable {P : Program} {w : World} {base : Heap} {mg : Str → Option Value} {K : PySem.W.Frag}
theorem ok_part {f : Addr} {fd : FuncData} (B : Bn mg) (D : Def K mg "_law_part" sLPart ["_law_source_here", "_law_rows_here", "_law_at", "_law_many"] f fd)
    (hN : Has P w K mg base "_law_next" 1 ["_law_source_here", "_law_limit"] spNext) (hT : Has P w K mg base "_law_table_places" 1 ["_law_rows_here"] spTab) :
    Has P w K mg base "_law_part" 2 ["_law_source_here", "_law_rows_here", "_law_at", "_law_many"] spPart := by
  refine D.has (D.fn.ok scLPart (fun vs H Q E h => ?_) (fun cdv A outer s H vs Q E hr h => ?_))
  · obtain ⟨_, _, _, _, _, _, _, rfl, _⟩ := h
    rfl
  · obtain ⟨o, cl, n, rv, rows, at_, many, rfl, sr, hn, tp, hrl, hpl, hne, hok, ham, hm5, k⟩ := h
    have hu := hu_of hr
    have nd := scLPart.nd
    obtain ⟨a, rvs, rfl, ha, trs⟩ := rows_of tp
    refine ⟨_, pss_cons (ps_set (i := 4) nd rfl (.inl rfl) (pe_op op_cat (pe_lc (own := [("_law_row", 11)]) (g := gName 11) (by rfl) nd (pi_tup (pv 1)) (blkOk_by (own := [("_law_row", 11)]) (N := nLPart) (sc := defScope sLPart) (by decide +kernel)) (fun _ _ _ _ _ => pg_name (i := 11) nd rfl (.inl rfl)) (fun _ _ _ _ _ => pts_one (pt_cmpR op_eq (pe_ix (r := rIxT K) ix_tup (pv 11) pe_int (fun _ _ => rfl)) pe_int (nomark _)))
          (fun _ _ _ _ _ => pe_ix (r := rIxT K) ix_tup (pv 11) pe_int (fun _ _ => rfl))) (pe_has hT hr rfl (pa_cons (pv 1) pa_nil))))
      (pss_cons (ps_setLc (i := 5) (own := [("_law_row", 11)]) (g := gName 11) (by rfl) nd rfl rfl (sw_true rfl rfl rfl (by decide +kernel)) (pi_tup (pv 1)) (blkOk_by (own := [("_law_row", 11)]) (N := nLPart) (sc := defScope sLPart) (by decide +kernel)) (fun _ _ _ _ _ => pg_name (i := 11) nd rfl (.inl rfl)) (fun _ _ _ _ _ => pts_one (pt_cmpR op_gt (pe_ix (r := rIxT K) ix_tup (pv 11) pe_int (fun _ _ => rfl)) pe_int (nomark _)))
          (fun _ _ _ _ _ => pe_ix (r := rIxT K) ix_tup (pv 11) pe_int (fun _ _ => rfl)))
      (pss_cons (ps_par3 (i := 6) (j := 7) (l := 8) (by rfl) nd rfl rfl rfl (by decide) (by decide) (by decide) rfl rfl rfl (pa_cons (pe_has hN hr rfl (pa_cons (pv 0) (pa_cons pe_int pa_nil))) (pa_cons (pe_has hN hr rfl (pa_cons (pv 0) (pa_cons pe_int pa_nil))) (pa_cons (pe_has hN hr rfl (pa_cons (pv 0) (pa_cons pe_int pa_nil))) pa_nil))) (by rfl))
      (pss_cons (ps_if (pt_cmpR op_lt (pv 6) pe_int (nomark _)) (pss_one (ps_ret (pe_tup (pa_cons pe_str (pa_cons (pv 7) (pa_cons (pe_ix ix_list (pv 4) (pe_has hN hr rfl (pa_cons (pv 0) (pa_cons (pe_callB call_len_seq (by rfl) B.len PySem.boot_len (pa_cons (pv 4) pa_nil)) pa_nil))) (fun _ _ => rfl)) pa_nil)))))) pss_nil)
      (pss_cons (ps_if (pt_cmpR op_lt (pv 6) pe_int (nomark _)) (pss_one (ps_ret (pe_tup (pa_cons pe_str (pa_cons (pe_ix ix_list (pv 4) (pe_has hN hr rfl (pa_cons (pv 0) (pa_cons (pe_callB call_len_seq (by rfl) B.len PySem.boot_len (pa_cons (pv 4) pa_nil)) pa_nil))) (fun _ _ => rfl)) (pa_cons (pv 7) pa_nil)))))) pss_nil)
      (pss_cons (ps_if (PW.pt (pw_and (pt_cmpR op_eq (pv 6) pe_int (nomark _)) (pw_and1 (pt_cmpR (op_neD hr.units) (pv 5) (pe_lst pa_nil) (nomark _)))))
        (pss_one (ps_ret (pe_ix ix_list (pe_lst (pa_cons (pe_tup (pa_cons pe_str (pa_cons (pv 7) (pa_cons (pe_ix ix_list (pv 5) pe_int (fun _ _ => rfl)) (pa_cons (pv 8) pa_nil))))) (pa_cons (pe_tup (pa_cons pe_str (pa_cons (pe_ix ix_list (pv 5) pe_int (fun _ _ => rfl)) (pa_cons (pv 7) (pa_cons (pv 8) pa_nil))))) pa_nil))) (pe_has hN hr rfl (pa_cons (pv 0) (pa_cons pe_int pa_nil))) (fun _ _ => rfl)))) pss_nil)
      (pss_cons (ps_if (pt_cmpR op_lt (pv 6) pe_int (nomark _)) (pss_one (ps_ret (pe_tup (pa_cons pe_str (pa_cons (pv 7) (pa_cons (pe_op op_sub (pe_has hN hr rfl (pa_cons (pv 0) (pa_cons pe_int pa_nil))) pe_int) pa_nil)))))) pss_nil)
      (pss_cons (ps_if (pt_cmpR op_lt (pv 6) pe_int (nomark _))
        (pss_cons (ps_set (i := 9) nd rfl (.inl rfl) (pe_ix ix_list (pe_lst (pa_cons pe_str (pa_cons pe_str (pa_cons pe_str (pa_cons pe_str (pa_cons pe_str (pa_cons pe_str (pa_cons pe_str (pa_cons pe_str (pa_cons pe_str (pa_cons pe_str pa_nil))))))))))) (pe_has hN hr rfl (pa_cons (pv 0) (pa_cons pe_int pa_nil))) (fun _ _ => rfl)))
        (pss_cons (ps_set (i := 9) nd rfl (.inl rfl) (pe_ifExp (PW.pt (pw_and (pt_cmpR op_eq (pv 9) pe_str (nomark _)) (pw_and1 (pt_cmpR op_gt (pv 2) pe_int (nomark _))))) pe_str (pv 9)))
        (pss_one (ps_ret (pe_tup (pa_cons pe_str (pa_cons (pv 9) (pa_cons (pv 7) (pa_cons (pv 8) (pa_cons (pe_has hN hr rfl (pa_cons (pv 0) (pa_cons pe_int pa_nil))) pa_nil)))))))))) pss_nil)
      (pss_cons (ps_set (i := 10) nd rfl (.inl rfl) (pe_op op_add (pe_op op_add (pv 2) pe_int) (pe_has hN hr rfl (pa_cons (pv 0) (pa_cons (pe_op op_sub (pv 3) (pv 2)) pa_nil)))))
      (pss_one (ps_ret (pe_ix ix_list (pe_lst (pa_cons (pe_tup (pa_cons pe_str (pa_cons (pv 8) (pa_cons (pv 10) pa_nil)))) (pa_cons (pe_tup (pa_cons pe_str (pa_cons (pv 7) (pa_cons (pv 10) pa_nil)))) (pa_cons (pe_tup (pa_cons pe_str (pa_cons (pv 10) pa_nil))) (pa_cons (pe_tup (pa_cons pe_str pa_nil)) pa_nil))))) (pe_has hN hr rfl (pa_cons (pv 0) (pa_cons pe_int pa_nil))) (fun _ _ => rfl)))))))))))), ?_⟩
    have tt1 : ∀ (a0 a2 a3 a4 a5 a6 a7 a8 a9 a10 : Option V) (b : Addr) (r : Row) (H : Hp) (Q : Bool → Hp → Prop), r ∈ rows → H b = some (.tup [.str r.name, .int r.size, .int r.lo, .int r.hi, .bl r.b1, .bl r.b2, .int r.z]) → Q (isSc r) H →
        tTest (tOp rEq (tOp (rIxT K) (tVar 11) (tC (.int 1))) (tC (.int 0))) [a0, some (.ref a), a2, a3, a4, a5, a6, a7, a8, a9, a10, some (.ref b)] H Q := fun a0 a2 a3 a4 a5 a6 a7 a8 a9 a10 b r H Q _ hb hq => by
      refine ⟨_, rfl, b, _, 1, _, rfl, rfl, .of hb, rfl, rfl, isSc r, ?_, hq⟩
      unfold isSc
      congr 1
      by_cases hz : r.size = 0
      · rw [hz]; rfl
      · rw [decide_eq_false hz, decide_eq_false (fun z => hz (by injection z with z; omega))]
    have tt2 : ∀ (a0 a2 a3 a4 a5 a6 a7 a8 a9 a10 : Option V) (b : Addr) (r : Row) (H : Hp) (Q : Bool → Hp → Prop), r ∈ rows → H b = some (.tup [.str r.name, .int r.size, .int r.lo, .int r.hi, .bl r.b1, .bl r.b2, .int r.z]) → Q (isTb r) H →
        tTest (tOp (rI0 fun i j => .bl (decide (j < i))) (tOp (rIxT K) (tVar 11) (tC (.int 1))) (tC (.int 0))) [a0, some (.ref a), a2, a3, a4, a5, a6, a7, a8, a9, a10, some (.ref b)] H Q := fun a0 a2 a3 a4 a5 a6 a7 a8 a9 a10 b r H Q _ hb hq => by
      refine ⟨_, rfl, b, _, 1, _, rfl, rfl, .of hb, rfl, _, _, rfl, rfl, isTb r, ?_, hq⟩
      unfold isTb
      show V.bl (decide ((0 : Int) < (r.size : Int))) = V.bl (decide (0 < r.size))
      by_cases hz : 0 < r.size
      · rw [decide_eq_true hz, decide_eq_true (by omega)]
      · rw [decide_eq_false hz, decide_eq_false (by omega)]
    refine seq_intro (asg_intro (op_intro (namesComp (p := isSc) ha trs hrl (tt1 _ _ _ _ _ _ _ _ _ _) fun D1 H1 k1 nD1 hD1 => ?_)))
    refine ⟨_, rfl, .ref a, rows, rfl, Tp.keep k1.tk _ _ tp, hpl, fun p2 xs2 H2 k2 np2 hp2 t2 => ?_⟩
    have hD1' := k2.lst hD1 (by simp)
    have hl1 : ((rows.filter isSc).map fun r => V.str r.name).length ≤ 900 := by
      rw [List.length_map]
      exact Nat.le_trans (List.length_filter_le _ _) hrl
    have hl2 : xs2.length ≤ 900 := by
      rw [t2.length, List.length_map]
      exact Nat.le_trans cells_len hpl
    refine ⟨D1, p2, _, _, rfl, rfl, hD1', hp2, by rw [sizeLine_eq]; omega, fun NL nNL => ?_⟩
    have k3 : Kp [] H (upd H2 NL (.lst (((rows.filter isSc).map fun r => V.str r.name) ++ xs2))) := (k1.trans k2).new nNL
    have k23 := (Kp.refl [] H2).new (o := .lst (((rows.filter isSc).map fun r => V.str r.name) ++ xs2)) nNL
    have hNL : (upd H2 NL (.lst (((rows.filter isSc).map fun r => V.str r.name) ++ xs2)) : Hp) NL = some (.lst (((rows.filter isSc).map fun r => V.str r.name) ++ xs2)) := upd_same
    have tNL : Tps (upd H2 NL (.lst (((rows.filter isSc).map fun r => V.str r.name) ++ xs2))) (((rows.filter isSc).map fun r => V.str r.name) ++ xs2) ((namesOf rows).map Nm.toD) := by
      unfold namesOf
      rw [List.map_append]
      exact (sc_tps _).append (Tps.keep k23.tk _ _ t2)
    generalize hnv : ((rows.filter isSc).map fun r => V.str r.name) ++ xs2 = nvs at k3 k23 hNL tNL ⊢
    have hnl : nvs.length = (namesOf rows).length := by rw [tNL.length, List.length_map]
    have hn0 : 0 < (namesOf rows).length := by
      rw [names_len]
      exact List.length_pos_iff.2 hne
    have hn9 : (namesOf rows).length ≤ 900 := by rw [names_len]; exact hpl
    generalize (upd H2 NL (.lst nvs) : Hp) = H3 at k3 k23 hNL tNL ⊢
    refine seq_intro (asg_intro (namesComp (p := isTb) (k3.tk _ _ ha) (Tps.keep k3.tk _ _ trs) hrl (tt2 _ _ _ _ _ _ _ _ _ _) fun TL H4 k4 nTL hTL => ?_))
    have k04 := k3.trans k4
    have hNL4 := k4.lst hNL (by simp)
    have tNL4 := Tps.keep k4.tk _ _ tNL
    have nTN : TL ≠ NL := fun z => by rw [z] at nTL; rw [nTL] at hNL; cases hNL
    obtain ⟨o1, o2⟩ : o ≠ NL ∧ o ≠ TL := by
      obtain ⟨⟨cs, r, u, d, e1, _⟩, _⟩ := sr
      have e4 := k04.same _ _ e1 (by simp)
      exact ⟨ne_of e4 hNL4 (fun z => by cases z), ne_of e4 hTL (fun z => by cases z)⟩
    refine ⟨_, rfl, o, cl, 12, n, rfl, sr.kp k04 (by simp) (by simp), by omega, by decide, by decide, fun H5 way k5 s5 hw0 hw1 => ?_⟩
    refine ⟨_, rfl, o, cl, 3, n + 1, rfl, s5, by omega, by decide, by decide, fun H6 r' k6 s6 hr0 hr1 => ?_⟩
    refine ⟨_, rfl, o, cl, 3, n + 2, rfl, s6, by omega, by decide, by decide, fun H7 s' k7 s7 hs0 hs1 => ?_⟩
    obtain ⟨r, rfl⟩ : ∃ r : Nat, r' = (r : Nat) := ⟨r'.toNat, by omega⟩
    obtain ⟨sl, rfl⟩ : ∃ r : Nat, s' = (r : Nat) := ⟨s'.toNat, by omega⟩
    have hr3 : r < 3 := by omega
    have hs3 : sl < 3 := by omega
    have k47 : Kp [o] H4 H7 := k5.trans (k6.trans k7)
    have k07 : Kp [o] H H7 := (k04.mono (by simp)).trans k47
    have hNL7 := k47.lst hNL4 (by simpa using o1.symm)
    have hTL7 := k47.lst hTL (by simpa using o2.symm)
    have tNL7 := Tps.keep k47.tk _ _ tNL4
    -- what is kept and what came of another draw
    have more : ∀ {m : Nat} {H8 : Hp}, Kp [o] H7 H8 → Src H8 o cl m → m ≤ n + 8 → Kp [o] H H8 ∧ Src H8 o cl (n + 8) := fun k8 s8 hm => ⟨k07.trans k8, s8.mono hm⟩
    refine ⟨_, _, _, rfl, ?_⟩
    refine ⟨_, rfl, _, _, rfl, rfl, _, rfl, ite2 (fun q1 => ?_) (fun q1 => ?_)⟩
    · -- load
      refine ⟨_, rfl, _, rfl, _, rfl, _, rfl, NL, _, rfl, .inl (.of hNL7), o, cl, _, n + 3, rfl, s7, by omega, by omega, by omega, fun H8 v k8 s8 h0 h1 => ?_⟩
      obtain ⟨j, rfl⟩ : ∃ j : Nat, v = (j : Nat) := ⟨v.toNat, by omega⟩
      have hj : j < (namesOf rows).length := by omega
      obtain ⟨nv, hnv', tnv⟩ := tNL7.get (i := j) (d := (namesOf rows)[j].toD) (by rw [List.getElem?_map, List.getElem?_eq_getElem hj]; rfl)
      have hNL8 := k8.lst hNL7 (by simpa using o1.symm)
      refine ⟨NL, _, _, nv, rfl, rfl, .of hNL8, atI_nat hnv', (by show 3 ≤ sizeLine; decide), fun t nt => ?_⟩
      obtain ⟨k9, s9⟩ := more (m := n + 4) k8 s8 (by omega)
      have kt := (Kp.refl [] H8).new (o := .tup [.str "load", .int r, nv]) nt
      exact k _ _ (.load r (namesOf rows)[j]) (k9.trans (kt.mono (by simp))) (s9.kp kt (by simp) (by simp)) ⟨hr3, idx_some (names_in (List.getElem_mem hj))⟩ (Tp.new nt (.cons (.str _) (.cons (.int _) (.cons (Tp.keep k8.tk _ _ tnv) .nil))))
    refine ⟨_, rfl, _, _, rfl, rfl, _, rfl, ite2 (fun q2 => ?_) (fun q2 => ?_)⟩
    · -- store
      refine ⟨_, rfl, _, rfl, _, rfl, NL, _, rfl, .inl (.of hNL7), o, cl, _, n + 3, rfl, s7, by omega, by omega, by omega, fun H8 v k8 s8 h0 h1 => ?_⟩
      obtain ⟨j, rfl⟩ : ∃ j : Nat, v = (j : Nat) := ⟨v.toNat, by omega⟩
      have hj : j < (namesOf rows).length := by omega
      obtain ⟨nv, hnv', tnv⟩ := tNL7.get (i := j) (d := (namesOf rows)[j].toD) (by rw [List.getElem?_map, List.getElem?_eq_getElem hj]; rfl)
      have hNL8 := k8.lst hNL7 (by simpa using o1.symm)
      refine ⟨NL, _, _, nv, rfl, rfl, .of hNL8, atI_nat hnv', _, rfl, (by show 3 ≤ sizeLine; decide), fun t nt => ?_⟩
      obtain ⟨k9, s9⟩ := more (m := n + 4) k8 s8 (by omega)
      have kt := (Kp.refl [] H8).new (o := .tup [.str "store", nv, .int r]) nt
      exact k _ _ (.store (namesOf rows)[j] r) (k9.trans (kt.mono (by simp))) (s9.kp kt (by simp) (by simp)) ⟨hr3, idx_some (names_in (List.getElem_mem hj))⟩ (Tp.new nt (.cons (.str _) (.cons (Tp.keep k8.tk _ _ tnv) (.cons (.int _) .nil))))
    refine ⟨_, rfl, rfl, _, rfl, ite2 (fun q3 => ?_) (fun q3 => iteF ?_)⟩
    · refine ⟨_, rfl, (by show 0 ≤ sizeLine; decide), fun z nz => ?_⟩
      have kz := (Kp.refl [] H7).new (o := .lst []) nz
      have hTLz := kz.lst hTL7 (by simp)
      refine ⟨_, _, .lst (.of hTLz) (Tps.dp _ _ (strs_tps _)), .lst (.of upd_same) .nil, strs_shaped _ (fun r hr => (hok r (List.mem_filter.mp hr).1).1), rfl, _, rfl, ?_⟩
      have kq := k07.trans (kz.mono (by simp))
      have sq := s7.kp kz (by simp) (by simp)
      generalize (upd H7 z (.lst []) : Hp) = Hq at kz hTLz kq sq ⊢
      rw [list_eqv_nil]
      cases htb : rows.filter isTb with
      | nil =>
        refine iteF ?_
        refine ⟨_, rfl, _, _, rfl, rfl, _, rfl, ite2 (fun q4 => ?_) (fun q4 => ?_)⟩
        · -- const
          refine ⟨_, rfl, _, rfl, o, cl, 4, n + 3, rfl, sq, by omega, by decide, by decide, fun H8 v k8 s8 h0 h1 => ?_⟩
          refine ⟨_, _, rfl, rfl, (by show 3 ≤ sizeLine; decide), fun t nt => ?_⟩
          have kt := (Kp.refl [] H8).new (o := .tup [.str "const", .int r, .int (v - 1)]) nt
          exact k _ _ (.const r (v - 1)) ((kq.trans k8).trans (kt.mono (by simp))) ((s8.mono (by omega)).kp kt (by simp) (by simp)) ⟨hr3, by omega⟩ (Tp.new nt (.cons (.str _) (.cons (.int _) (.cons (.int _) .nil))))
        refine ⟨_, rfl, _, _, rfl, rfl, _, rfl, ite2 (fun q5 => ?_) (fun q5 => ?_)⟩
        · -- do
          refine ⟨(by show 10 ≤ sizeLine; decide), fun l nl => ?_⟩
          have kl0 := (Kp.refl [] Hq).new (o := .lst [.str "+", .str "-", .str "*", .str "least", .str "most", .str "=", .str "<", .str "<=", .str "div", .str "mod"]) nl
          have kl := kq.trans (kl0.mono (by simp))
          have sl0 := sq.kp kl0 (by simp) (by simp)
          have hl : (upd Hq l (.lst [.str "+", .str "-", .str "*", .str "least", .str "most", .str "=", .str "<", .str "<=", .str "div", .str "mod"]) : Hp) l = some (.lst [.str "+", .str "-", .str "*", .str "least", .str "most", .str "=", .str "<", .str "<=", .str "div", .str "mod"]) := upd_same
          have lo : l ≠ o := by
            obtain ⟨⟨cs, r, u, d, e1, _⟩, _⟩ := sl0
            exact ne_of hl e1 (fun z => by cases z)
          refine ⟨_, rfl, o, cl, 10, n + 3, rfl, sl0, by omega, by decide, by decide, fun H8 v k8 s8 h0 h1 => ?_⟩
          obtain ⟨j, rfl⟩ : ∃ j : Nat, v = (j : Nat) := ⟨v.toNat, by omega⟩
          have hl8 := k8.lst hl (by simpa using lo)
          obtain ⟨o', ho'⟩ : ∃ o' : Op, ([.str "+", .str "-", .str "*", .str "least", .str "most", .str "=", .str "<", .str "<=", .str "div", .str "mod"] : List V)[j]? = some (.str o'.str) := opsAt j (by omega)
          refine ⟨l, _, _, _, rfl, rfl, .of hl8, atI_nat ho', ?_⟩
          refine ⟨_, rfl, rfl, _, rfl, ite2 (fun _ => ⟨_, rfl, _, _, rfl, rfl, _, rfl, ite2 (fun _ => ?_) (fun _ => ?_)⟩) (fun _ => iteF ?_)⟩
          · refine ⟨_, rfl, _, rfl, _, rfl, _, rfl, o, cl, 3, n + 4, rfl, s8, by omega, by decide, by decide, fun H9 v9 k9 s9 h90 h91 => ?_⟩
            obtain ⟨x9, rfl⟩ : ∃ x : Nat, v9 = (x : Nat) := ⟨v9.toNat, by omega⟩
            refine ⟨(by show 5 ≤ sizeLine; decide), fun t nt => ?_⟩
            have kt := (Kp.refl [] H9).new (o := .tup [.str "do", .str (Op.most).str, .int r, .int sl, .int x9]) nt
            exact k _ _ (.op .most r sl x9) ((kl.trans (k8.trans k9)).trans (kt.mono (by simp))) ((s9.mono (by omega)).kp kt (by simp) (by simp)) ⟨hr3, hs3, by omega⟩ (Tp.new nt (.cons (.str _) (.cons (.str _) (.cons (.int _) (.cons (.int _) (.cons (.int _) .nil))))))
          · refine ⟨_, rfl, ?_⟩
            refine ⟨_, rfl, _, rfl, _, rfl, _, rfl, o, cl, 3, n + 4, rfl, s8, by omega, by decide, by decide, fun H9 v9 k9 s9 h90 h91 => ?_⟩
            obtain ⟨x9, rfl⟩ : ∃ x : Nat, v9 = (x : Nat) := ⟨v9.toNat, by omega⟩
            refine ⟨(by show 5 ≤ sizeLine; decide), fun t nt => ?_⟩
            have kt := (Kp.refl [] H9).new (o := .tup [.str "do", .str (o').str, .int r, .int sl, .int x9]) nt
            exact k _ _ (.op (o') r sl x9) ((kl.trans (k8.trans k9)).trans (kt.mono (by simp))) ((s9.mono (by omega)).kp kt (by simp) (by simp)) ⟨hr3, hs3, by omega⟩ (Tp.new nt (.cons (.str _) (.cons (.str _) (.cons (.int _) (.cons (.int _) (.cons (.int _) .nil))))))
          · refine ⟨_, rfl, ?_⟩
            refine ⟨_, rfl, _, rfl, _, rfl, _, rfl, o, cl, 3, n + 4, rfl, s8, by omega, by decide, by decide, fun H9 v9 k9 s9 h90 h91 => ?_⟩
            obtain ⟨x9, rfl⟩ : ∃ x : Nat, v9 = (x : Nat) := ⟨v9.toNat, by omega⟩
            refine ⟨(by show 5 ≤ sizeLine; decide), fun t nt => ?_⟩
            have kt := (Kp.refl [] H9).new (o := .tup [.str "do", .str (o').str, .int r, .int sl, .int x9]) nt
            exact k _ _ (.op (o') r sl x9) ((kl.trans (k8.trans k9)).trans (kt.mono (by simp))) ((s9.mono (by omega)).kp kt (by simp) (by simp)) ⟨hr3, hs3, by omega⟩ (Tp.new nt (.cons (.str _) (.cons (.str _) (.cons (.int _) (.cons (.int _) (.cons (.int _) .nil))))))
        · -- jumps
          have q5' : True := trivial
          refine ⟨_, rfl, _, _, rfl, rfl, _, rfl, _, rfl, _, rfl, _, _, rfl, rfl, o, cl, (many : Int) - (at_ : Int), n + 3, rfl, sq, by omega, by omega, by omega, fun H8 v k8 s8 h0 h1 => ?_⟩
          obtain ⟨x, rfl⟩ : ∃ x : Nat, v = (x : Nat) := ⟨v.toNat, by omega⟩
          have hx : at_ < at_ + 1 + x ∧ at_ + 1 + x ≤ many := by omega
          refine ⟨_, _, rfl, rfl, ?_⟩
          refine ⟨_, rfl, _, rfl, (by show 3 ≤ sizeLine; decide), fun t1 n1 => ⟨_, rfl, _, rfl, (by show 3 ≤ sizeLine; decide), fun t2 n2 => ⟨_, rfl, (by show 2 ≤ sizeLine; decide), fun t3 n3 => ⟨(by show 1 ≤ sizeLine; decide), fun t4 n4 => ⟨(by show 4 ≤ sizeLine; decide), fun l nl => ?_⟩⟩⟩⟩⟩
          have f1 : Tp _ _ (Ins.unless sl (at_ + 1 + x)).toD := Tp.new n1 (.cons (.str _) (.cons (.int _) (.cons (.int _) .nil)))
          have u1 := (Kp.refl [] H8).new (o := .tup [.str "unless", .int sl, .int ((at_ : Int) + 1 + (x : Nat))]) n1
          have f2 : Tp _ _ (Ins.unless r (at_ + 1 + x)).toD := Tp.new n2 (.cons (.str _) (.cons (.int _) (.cons (.int _) .nil)))
          have f1 := Tp.keep (TK.new (o := .tup [.str "unless", .int r, .int ((at_ : Int) + 1 + (x : Nat))]) n2) _ _ f1
          have u2 := u1.new (o := .tup [.str "unless", .int r, .int ((at_ : Int) + 1 + (x : Nat))]) n2
          have f3 : Tp _ _ (Ins.jump (at_ + 1 + x)).toD := Tp.new n3 (.cons (.str _) (.cons (.int _) .nil))
          have f1 := Tp.keep (TK.new (o := .tup [.str "jump", .int ((at_ : Int) + 1 + (x : Nat))]) n3) _ _ f1
          have f2 := Tp.keep (TK.new (o := .tup [.str "jump", .int ((at_ : Int) + 1 + (x : Nat))]) n3) _ _ f2
          have u3 := u2.new (o := .tup [.str "jump", .int ((at_ : Int) + 1 + (x : Nat))]) n3
          have f4 : Tp _ _ Ins.fin.toD := Tp.new n4 (.cons (.str _) .nil)
          have f1 := Tp.keep (TK.new (o := .tup [.str "end"]) n4) _ _ f1
          have f2 := Tp.keep (TK.new (o := .tup [.str "end"]) n4) _ _ f2
          have f3 := Tp.keep (TK.new (o := .tup [.str "end"]) n4) _ _ f3
          have u4 := u3.new (o := .tup [.str "end"]) n4
          have f1 := Tp.keep (TK.new (o := .lst [.ref t1, .ref t2, .ref t3, .ref t4]) nl) _ _ f1
          have f2 := Tp.keep (TK.new (o := .lst [.ref t1, .ref t2, .ref t3, .ref t4]) nl) _ _ f2
          have f3 := Tp.keep (TK.new (o := .lst [.ref t1, .ref t2, .ref t3, .ref t4]) nl) _ _ f3
          have f4 := Tp.keep (TK.new (o := .lst [.ref t1, .ref t2, .ref t3, .ref t4]) nl) _ _ f4
          have u5 := u4.new (o := .lst [.ref t1, .ref t2, .ref t3, .ref t4]) nl
          have hl := at_top u5
          have s8' := s8.kp u5 (by simp) (by simp)
          have lo : l ≠ o := by
            obtain ⟨⟨cs, r, u, d, e1, _⟩, _⟩ := s8'
            exact ne_of hl e1 (fun z => by cases z)
          refine ⟨_, rfl, o, cl, 4, n + 4, rfl, s8', by omega, by decide, by decide, fun H9 v9 k9 s9 h90 h91 => ?_⟩
          have hl9 := k9.lst hl (by simpa using lo)
          have kf := kq.trans (k8.trans ((u5.mono (by simp)).trans k9))
          have sf := s9.mono (m := n + 8) (by omega)
          have c4 : v9 = ((0 : Nat) : Int) ∨ v9 = ((1 : Nat) : Int) ∨ v9 = ((2 : Nat) : Int) ∨ v9 = ((3 : Nat) : Int) := by omega
          rcases c4 with rfl | rfl | rfl | rfl
          · exact ⟨l, _, _, _, rfl, rfl, .of hl9, atI_nat rfl, k _ _ (.unless sl (at_ + 1 + x)) kf sf ⟨hs3, hx⟩ (Tp.keep k9.tk _ _ f1)⟩
          · exact ⟨l, _, _, _, rfl, rfl, .of hl9, atI_nat rfl, k _ _ (.unless r (at_ + 1 + x)) kf sf ⟨hr3, hx⟩ (Tp.keep k9.tk _ _ f2)⟩
          · exact ⟨l, _, _, _, rfl, rfl, .of hl9, atI_nat rfl, k _ _ (.jump (at_ + 1 + x)) kf sf hx (Tp.keep k9.tk _ _ f3)⟩
          · exact ⟨l, _, _, _, rfl, rfl, .of hl9, atI_nat rfl, k _ _ .fin kf sf trivial (Tp.keep k9.tk _ _ f4)⟩
      | cons r0 rs0 =>
        refine iteT ?_
        rw [htb] at hTLz
        refine ⟨_, rfl, _, rfl, TL, _, (0 : Nat), .str r0.name, rfl, rfl, .of hTLz, atI_nat rfl, _, rfl, (by show 4 ≤ sizeLine; decide), fun t1 n1 => ?_⟩
        have u1 := (Kp.refl [] Hq).new (o := .tup [.str "loadat", .int r, .str r0.name, .int sl]) n1
        have hTL1 := u1.lst hTLz (by simp)
        refine ⟨_, rfl, TL, _, (0 : Nat), .str r0.name, rfl, rfl, .of hTL1, atI_nat rfl, _, rfl, _, rfl, (by show 4 ≤ sizeLine; decide), fun t2 n2 => ⟨(by show 2 ≤ sizeLine; decide), fun l nl => ?_⟩⟩
        have f1 : Tp _ _ (Ins.loadat r r0.name sl).toD := Tp.new n1 (.cons (.str _) (.cons (.int _) (.cons (.str _) (.cons (.int _) .nil))))
        have f2 : Tp _ _ (Ins.storeat r0.name r sl).toD := Tp.new n2 (.cons (.str _) (.cons (.str _) (.cons (.int _) (.cons (.int _) .nil))))
        have f1 := Tp.keep (TK.new (o := .tup [.str "storeat", .str r0.name, .int r, .int sl]) n2) _ _ f1
        have u2 := u1.new (o := .tup [.str "storeat", .str r0.name, .int r, .int sl]) n2
        have f1 := Tp.keep (TK.new (o := .lst [.ref t1, .ref t2]) nl) _ _ f1
        have f2 := Tp.keep (TK.new (o := .lst [.ref t1, .ref t2]) nl) _ _ f2
        have u3 := u2.new (o := .lst [.ref t1, .ref t2]) nl
        have hl := at_top u3
        have s8' := sq.kp u3 (by simp) (by simp)
        have lo : l ≠ o := by
          obtain ⟨⟨cs, r, u, d, e1, _⟩, _⟩ := s8'
          exact ne_of hl e1 (fun z => by cases z)
        refine ⟨_, rfl, o, cl, 2, n + 3, rfl, s8', by omega, by decide, by decide, fun H9 v9 k9 s9 h90 h91 => ?_⟩
        have hl9 := k9.lst hl (by simpa using lo)
        have kf := kq.trans ((u3.mono (by simp)).trans k9)
        have sf := s9.mono (m := n + 8) (by omega)
        have c2 : v9 = ((0 : Nat) : Int) ∨ v9 = ((1 : Nat) : Int) := by omega
        rcases c2 with rfl | rfl
        · exact ⟨l, _, _, _, rfl, rfl, .of hl9, atI_nat rfl, k _ _ (.loadat r r0.name sl) kf sf ⟨hr3, hs3, hok r0 (List.mem_filter.mp (by rw [htb]; exact List.mem_cons_self ..)).1⟩ (Tp.keep k9.tk _ _ f1)⟩
        · exact ⟨l, _, _, _, rfl, rfl, .of hl9, atI_nat rfl, k _ _ (.storeat r0.name r sl) kf sf ⟨hs3, hr3, hok r0 (List.mem_filter.mp (by rw [htb]; exact List.mem_cons_self ..)).1⟩ (Tp.keep k9.tk _ _ f2)⟩
    · have kq := k07
      have sq := s7
      refine ⟨_, rfl, _, _, rfl, rfl, _, rfl, ite2 (fun q4 => ?_) (fun q4 => ?_)⟩
      · -- const
        refine ⟨_, rfl, _, rfl, o, cl, 4, n + 3, rfl, sq, by omega, by decide, by decide, fun H8 v k8 s8 h0 h1 => ?_⟩
        refine ⟨_, _, rfl, rfl, (by show 3 ≤ sizeLine; decide), fun t nt => ?_⟩
        have kt := (Kp.refl [] H8).new (o := .tup [.str "const", .int r, .int (v - 1)]) nt
        exact k _ _ (.const r (v - 1)) ((kq.trans k8).trans (kt.mono (by simp))) ((s8.mono (by omega)).kp kt (by simp) (by simp)) ⟨hr3, by omega⟩ (Tp.new nt (.cons (.str _) (.cons (.int _) (.cons (.int _) .nil))))
      refine ⟨_, rfl, _, _, rfl, rfl, _, rfl, ite2 (fun q5 => ?_) (fun q5 => ?_)⟩
      · -- do
        refine ⟨(by show 10 ≤ sizeLine; decide), fun l nl => ?_⟩
        have kl0 := (Kp.refl [] H7).new (o := .lst [.str "+", .str "-", .str "*", .str "least", .str "most", .str "=", .str "<", .str "<=", .str "div", .str "mod"]) nl
        have kl := kq.trans (kl0.mono (by simp))
        have sl0 := sq.kp kl0 (by simp) (by simp)
        have hl : (upd H7 l (.lst [.str "+", .str "-", .str "*", .str "least", .str "most", .str "=", .str "<", .str "<=", .str "div", .str "mod"]) : Hp) l = some (.lst [.str "+", .str "-", .str "*", .str "least", .str "most", .str "=", .str "<", .str "<=", .str "div", .str "mod"]) := upd_same
        have lo : l ≠ o := by
          obtain ⟨⟨cs, r, u, d, e1, _⟩, _⟩ := sl0
          exact ne_of hl e1 (fun z => by cases z)
        refine ⟨_, rfl, o, cl, 10, n + 3, rfl, sl0, by omega, by decide, by decide, fun H8 v k8 s8 h0 h1 => ?_⟩
        obtain ⟨j, rfl⟩ : ∃ j : Nat, v = (j : Nat) := ⟨v.toNat, by omega⟩
        have hl8 := k8.lst hl (by simpa using lo)
        obtain ⟨o', ho'⟩ : ∃ o' : Op, ([.str "+", .str "-", .str "*", .str "least", .str "most", .str "=", .str "<", .str "<=", .str "div", .str "mod"] : List V)[j]? = some (.str o'.str) := opsAt j (by omega)
        refine ⟨l, _, _, _, rfl, rfl, .of hl8, atI_nat ho', ?_⟩
        refine ⟨_, rfl, rfl, _, rfl, ite2 (fun _ => ⟨_, rfl, _, _, rfl, rfl, _, rfl, ite2 (fun _ => ?_) (fun _ => ?_)⟩) (fun _ => iteF ?_)⟩
        · refine ⟨_, rfl, _, rfl, _, rfl, _, rfl, o, cl, 3, n + 4, rfl, s8, by omega, by decide, by decide, fun H9 v9 k9 s9 h90 h91 => ?_⟩
          obtain ⟨x9, rfl⟩ : ∃ x : Nat, v9 = (x : Nat) := ⟨v9.toNat, by omega⟩
          refine ⟨(by show 5 ≤ sizeLine; decide), fun t nt => ?_⟩
          have kt := (Kp.refl [] H9).new (o := .tup [.str "do", .str (Op.most).str, .int r, .int sl, .int x9]) nt
          exact k _ _ (.op .most r sl x9) ((kl.trans (k8.trans k9)).trans (kt.mono (by simp))) ((s9.mono (by omega)).kp kt (by simp) (by simp)) ⟨hr3, hs3, by omega⟩ (Tp.new nt (.cons (.str _) (.cons (.str _) (.cons (.int _) (.cons (.int _) (.cons (.int _) .nil))))))
        · refine ⟨_, rfl, ?_⟩
          refine ⟨_, rfl, _, rfl, _, rfl, _, rfl, o, cl, 3, n + 4, rfl, s8, by omega, by decide, by decide, fun H9 v9 k9 s9 h90 h91 => ?_⟩
          obtain ⟨x9, rfl⟩ : ∃ x : Nat, v9 = (x : Nat) := ⟨v9.toNat, by omega⟩
          refine ⟨(by show 5 ≤ sizeLine; decide), fun t nt => ?_⟩
          have kt := (Kp.refl [] H9).new (o := .tup [.str "do", .str (o').str, .int r, .int sl, .int x9]) nt
          exact k _ _ (.op (o') r sl x9) ((kl.trans (k8.trans k9)).trans (kt.mono (by simp))) ((s9.mono (by omega)).kp kt (by simp) (by simp)) ⟨hr3, hs3, by omega⟩ (Tp.new nt (.cons (.str _) (.cons (.str _) (.cons (.int _) (.cons (.int _) (.cons (.int _) .nil))))))
        · refine ⟨_, rfl, ?_⟩
          refine ⟨_, rfl, _, rfl, _, rfl, _, rfl, o, cl, 3, n + 4, rfl, s8, by omega, by decide, by decide, fun H9 v9 k9 s9 h90 h91 => ?_⟩
          obtain ⟨x9, rfl⟩ : ∃ x : Nat, v9 = (x : Nat) := ⟨v9.toNat, by omega⟩
          refine ⟨(by show 5 ≤ sizeLine; decide), fun t nt => ?_⟩
          have kt := (Kp.refl [] H9).new (o := .tup [.str "do", .str (o').str, .int r, .int sl, .int x9]) nt
          exact k _ _ (.op (o') r sl x9) ((kl.trans (k8.trans k9)).trans (kt.mono (by simp))) ((s9.mono (by omega)).kp kt (by simp) (by simp)) ⟨hr3, hs3, by omega⟩ (Tp.new nt (.cons (.str _) (.cons (.str _) (.cons (.int _) (.cons (.int _) (.cons (.int _) .nil))))))
      · -- jumps
        have q5' : True := trivial
        refine ⟨_, rfl, _, _, rfl, rfl, _, rfl, _, rfl, _, rfl, _, _, rfl, rfl, o, cl, (many : Int) - (at_ : Int), n + 3, rfl, sq, by omega, by omega, by omega, fun H8 v k8 s8 h0 h1 => ?_⟩
        obtain ⟨x, rfl⟩ : ∃ x : Nat, v = (x : Nat) := ⟨v.toNat, by omega⟩
        have hx : at_ < at_ + 1 + x ∧ at_ + 1 + x ≤ many := by omega
        refine ⟨_, _, rfl, rfl, ?_⟩
        refine ⟨_, rfl, _, rfl, (by show 3 ≤ sizeLine; decide), fun t1 n1 => ⟨_, rfl, _, rfl, (by show 3 ≤ sizeLine; decide), fun t2 n2 => ⟨_, rfl, (by show 2 ≤ sizeLine; decide), fun t3 n3 => ⟨(by show 1 ≤ sizeLine; decide), fun t4 n4 => ⟨(by show 4 ≤ sizeLine; decide), fun l nl => ?_⟩⟩⟩⟩⟩
        have f1 : Tp _ _ (Ins.unless sl (at_ + 1 + x)).toD := Tp.new n1 (.cons (.str _) (.cons (.int _) (.cons (.int _) .nil)))
        have u1 := (Kp.refl [] H8).new (o := .tup [.str "unless", .int sl, .int ((at_ : Int) + 1 + (x : Nat))]) n1
        have f2 : Tp _ _ (Ins.unless r (at_ + 1 + x)).toD := Tp.new n2 (.cons (.str _) (.cons (.int _) (.cons (.int _) .nil)))
        have f1 := Tp.keep (TK.new (o := .tup [.str "unless", .int r, .int ((at_ : Int) + 1 + (x : Nat))]) n2) _ _ f1
        have u2 := u1.new (o := .tup [.str "unless", .int r, .int ((at_ : Int) + 1 + (x : Nat))]) n2
        have f3 : Tp _ _ (Ins.jump (at_ + 1 + x)).toD := Tp.new n3 (.cons (.str _) (.cons (.int _) .nil))
        have f1 := Tp.keep (TK.new (o := .tup [.str "jump", .int ((at_ : Int) + 1 + (x : Nat))]) n3) _ _ f1
        have f2 := Tp.keep (TK.new (o := .tup [.str "jump", .int ((at_ : Int) + 1 + (x : Nat))]) n3) _ _ f2
        have u3 := u2.new (o := .tup [.str "jump", .int ((at_ : Int) + 1 + (x : Nat))]) n3
        have f4 : Tp _ _ Ins.fin.toD := Tp.new n4 (.cons (.str _) .nil)
        have f1 := Tp.keep (TK.new (o := .tup [.str "end"]) n4) _ _ f1
        have f2 := Tp.keep (TK.new (o := .tup [.str "end"]) n4) _ _ f2
        have f3 := Tp.keep (TK.new (o := .tup [.str "end"]) n4) _ _ f3
        have u4 := u3.new (o := .tup [.str "end"]) n4
        have f1 := Tp.keep (TK.new (o := .lst [.ref t1, .ref t2, .ref t3, .ref t4]) nl) _ _ f1
        have f2 := Tp.keep (TK.new (o := .lst [.ref t1, .ref t2, .ref t3, .ref t4]) nl) _ _ f2
        have f3 := Tp.keep (TK.new (o := .lst [.ref t1, .ref t2, .ref t3, .ref t4]) nl) _ _ f3
        have f4 := Tp.keep (TK.new (o := .lst [.ref t1, .ref t2, .ref t3, .ref t4]) nl) _ _ f4
        have u5 := u4.new (o := .lst [.ref t1, .ref t2, .ref t3, .ref t4]) nl
        have hl := at_top u5
        have s8' := s8.kp u5 (by simp) (by simp)
        have lo : l ≠ o := by
          obtain ⟨⟨cs, r, u, d, e1, _⟩, _⟩ := s8'
          exact ne_of hl e1 (fun z => by cases z)
        refine ⟨_, rfl, o, cl, 4, n + 4, rfl, s8', by omega, by decide, by decide, fun H9 v9 k9 s9 h90 h91 => ?_⟩
        have hl9 := k9.lst hl (by simpa using lo)
        have kf := kq.trans (k8.trans ((u5.mono (by simp)).trans k9))
        have sf := s9.mono (m := n + 8) (by omega)
        have c4 : v9 = ((0 : Nat) : Int) ∨ v9 = ((1 : Nat) : Int) ∨ v9 = ((2 : Nat) : Int) ∨ v9 = ((3 : Nat) : Int) := by omega
        rcases c4 with rfl | rfl | rfl | rfl
        · exact ⟨l, _, _, _, rfl, rfl, .of hl9, atI_nat rfl, k _ _ (.unless sl (at_ + 1 + x)) kf sf ⟨hs3, hx⟩ (Tp.keep k9.tk _ _ f1)⟩
        · exact ⟨l, _, _, _, rfl, rfl, .of hl9, atI_nat rfl, k _ _ (.unless r (at_ + 1 + x)) kf sf ⟨hr3, hx⟩ (Tp.keep k9.tk _ _ f2)⟩
        · exact ⟨l, _, _, _, rfl, rfl, .of hl9, atI_nat rfl, k _ _ (.jump (at_ + 1 + x)) kf sf hx (Tp.keep k9.tk _ _ f3)⟩
        · exact ⟨l, _, _, _, rfl, rfl, .of hl9, atI_nat rfl, k _ _ .fin kf sf trivial (Tp.keep k9.tk _ _ f4)⟩
end
end Ork
end
section
set_option Elab.async false
set_option linter.all false
set_option maxRecDepth 100000
set_option pp.maxSteps 3000
namespace Ork
open PySem L2 PySem.Spec PyProof.Rows

structure RowsOk (rows : List Row) : Prop where
  len : rows.length ≤ 3
  pl : (placesOf rows).length ≤ 4
  ne : placesOf rows ≠ []
  ok : ∀ r ∈ rows, PyData.strOk r.name = true ∧ r.name.length ≤ 8
  nodup : (placesOf rows).Nodup
  rg : ∀ r ∈ rows, -2 ≤ r.lo ∧ r.lo ≤ r.hi ∧ r.hi ≤ 2
theorem lawRows_ok : ∀ rows ∈ lawRows, RowsOk rows := by
  intro rows h
  simp only [lawRows, List.mem_cons, List.not_mem_nil, or_false] at h
  rcases h with rfl | rfl | rfl | rfl
  all_goals exact ⟨by decide +kernel, by decide +kernel, by decide +kernel, by decide +kernel, by decide +kernel, by decide +kernel⟩
theorem rowSetF_ok : RowsOk rowSetF := ⟨by decide +kernel, by decide +kernel, by decide +kernel, by decide +kernel, by decide +kernel, by decide +kernel⟩
def spCode : Sp := fun vs H Q _ => ∃ o cl n rv rows, vs = [.ref o, rv, .int 5] ∧ Src H o cl n ∧ n ≤ 70000 ∧ Tp H rv (rowsD rows) ∧ RowsOk rows ∧
  ∀ H' v code, Kp [o] H H' → Src H' o cl (n + 50) → CodeOk (placesOf rows) code → Tp H' v (codeD code) → Q v H'
section
variable {P : Program} {w : World} {base : Heap} {mg : Str → Option Value} {K : PySem.W.Frag}
theorem ok_code {f : Addr} {fd : FuncData} (B : Bn mg) (D : Def K mg "_law_code" sLCode ["_law_source_here", "_law_rows_here", "_law_most"] f fd)
    (hN : Has P w K mg base "_law_next" 1 ["_law_source_here", "_law_limit"] spNext) (hP : Has P w K mg base "_law_part" 2 ["_law_source_here", "_law_rows_here", "_law_at", "_law_many"] spPart) :
    Has P w K mg base "_law_code" 3 ["_law_source_here", "_law_rows_here", "_law_most"] spCode := by
  refine D.has (D.fn.ok scLCode (fun vs H Q E h => ?_) (fun cdv A outer s H vs Q E hr h => ?_))
  · obtain ⟨_, _, _, _, _, rfl, _⟩ := h
    rfl
  · obtain ⟨o, cl, n, rv, rows, rfl, sr, hn, tp, ro, k⟩ := h
    have hu := hu_of hr
    have nd := scLCode.nd
    refine ⟨_, pss_cons (ps_set (i := 3) nd rfl (.inr rfl) (pe_op op_add pe_int (pe_has hN (hr.mono (by decide)) rfl (pa_cons (pv 0) (pa_cons (pv 2) pa_nil)))))
      (pss_one (ps_ret (pe_callTy call_tuple_of (by rfl) B.tuple (by decide +kernel) (pa_cons
        (pe_lc (own := [("_law_at", 4)]) (g := gName 4) (tt := tYes) (by rfl) nd (pi_range1 rfl B.range (pa_cons (pv 3) pa_nil)) (blkOk_by (own := [("_law_at", 4)]) (N := nLCode) (sc := defScope sLCode) (by decide +kernel)) (fun _ _ _ _ _ => pg_name (i := 4) nd rfl (.inl rfl)) (fun _ _ _ _ _ => pts_nil)
          (fun _ _ _ _ _ => pe_has hP hr rfl (pa_cons (pv 0) (pa_cons (pv 1) (pa_cons (pv 4) (pa_cons (pv 3) pa_nil)))))) pa_nil)))), ?_⟩
    refine ⟨_, rfl, _, rfl, o, cl, 5, n, rfl, sr, by omega, by decide, by decide, fun H1 v k1 s1 h0 h1 => ?_⟩
    obtain ⟨x, rfl⟩ : ∃ x : Nat, v = (x : Nat) := ⟨v.toNat, by omega⟩
    have hm : (1 : Int) + (x : Nat) = ((x + 1 : Nat) : Int) := by omega
    refine ⟨_, _, rfl, rfl, ?_⟩
    dsimp only
    rw [hm]
    have hm5 : x + 1 ≤ 5 := by omega
    generalize x + 1 = many at hm5 ⊢
    refine ⟨_, rfl, _, rfl, by omega, by omega, fun L nL => ?_⟩
    have e1 : ((many : Nat) : Int).toNat = many := Int.toNat_natCast _
    rw [e1]
    have oL : o ≠ L := by
      obtain ⟨⟨cs, r, u, d, e1, _⟩, _⟩ := s1
      exact ne_of_none e1 nL
    have clL : cl ≠ L := by
      obtain ⟨⟨cs, r, u, d, _, e2, _⟩, _⟩ := s1
      exact ne_of_none e2 nL
    have kL := (Kp.refl [] H1).new (o := .lst []) nL
    refine lc_range (lo := 0) (n := many) (fun i H' => ∃ xs code, Kp [o, L] (upd H1 L (.lst [])) H' ∧ Src H' o cl (n + 1 + 8 * i) ∧ H' L = some (.lst xs) ∧ code.length = i ∧ Tps H' xs (code.map Ins.toD) ∧ ∀ j ins, code[j]? = some ins → InsOk (placesOf rows) many j ins)
      ⟨[], [], Kp.refl _ _, (s1.kp kL (by simp) (by simp)), upd_same, rfl, .nil, fun j ins h => by simp at h⟩ (fun i H' hi h => ?_) (fun H' h => ?_)
    · obtain ⟨xs, code, kk, ss, hL, hc, ta, hok⟩ := h
      have e0 : (0 : Int) + (i : Int) = (i : Nat) := Int.zero_add _
      rw [e0]
      have tk : TK H H' := fun b ys e => kk.tk _ _ (kL.tk _ _ (k1.tk _ _ e))
      refine ⟨rfl, _, rfl, _, rfl, _, rfl, _, rfl, o, cl, n + 1 + 8 * i, rv, rows, i, many, rfl, ss, by omega, Tp.keep tk _ _ tp, by have := ro.len; omega, by have := ro.pl; omega, ro.ne, ro.ok, hi, hm5, fun H2 v ins k2 s2 io t2 => ?_⟩
      have hL2 := k2.lst hL (by simpa using oL.symm)
      refine ⟨xs, hL2, small1000 (by have := ta.length; rw [List.length_map] at this; omega), xs ++ [v], code ++ [ins], (kk.trans (k2.mono (by simp))).put (by simp) hL2 (fun _ z => by cases z), ?_, upd_same, by rw [List.length_append, hc]; rfl, ?_, ?_⟩
      · have e : n + 1 + 8 * (i + 1) = n + 1 + 8 * i + 8 := by omega
        rw [e]
        exact s2.kp ((Kp.refl [L] H2).put (by simp) hL2 (fun _ z => by cases z)) (by simpa using oL) (by simpa using clL)
      · rw [List.map_append]
        have kz : TK H2 (upd H2 L (.lst (xs ++ [v]))) := TK.put hL2 (fun _ z => by cases z)
        exact (Tps.keep kz _ _ (Tps.keep k2.tk _ _ ta)).snoc (Tp.keep kz _ _ t2)
      · intro j ins' hj
        rcases Nat.lt_or_ge j code.length with q | q
        · rw [List.getElem?_append_left q] at hj
          exact hok j ins' hj
        · rw [List.getElem?_append_right q] at hj
          have ej : j - code.length = 0 := by
            have := (List.getElem?_eq_some_iff.mp hj).1
            simp at this
            omega
          rw [ej] at hj
          simp at hj
          subst hj
          have : j = i := by omega
          subst this
          exact io
    · obtain ⟨xs, code, kk, ss, hL, hc, ta, hok⟩ := h
      refine ⟨L, xs, rfl, .inl ⟨.of hL, fun T nT => ?_⟩⟩
      have kT := (Kp.refl [] H').new (o := .tup xs) nT
      have kall : Kp [o] H H' := k1.trans (((kL.mono (S' := [o, L]) (by simp)).trans kk).drop fun b hb => by
        simp at hb
        rcases hb with rfl | rfl
        · exact .inl (by simp)
        · exact .inr nL)
      exact k _ _ code (kall.trans (kT.mono (by simp))) ((ss.mono (by omega)).kp kT (by simp) (by simp)) ⟨by omega, by rw [hc]; exact hok⟩ (Tp.new nT ta)
end
end Ork
end
section
set_option Elab.async false
set_option linter.all false
set_option maxRecDepth 100000
set_option pp.maxSteps 3000
namespace Ork
open PySem L2 PySem.Spec PyProof.Rows

def keysD (r : Row) : List PyData := if 0 < r.size then (List.range r.size).map fun i => .int (i : Nat) else [.none]
def ents (rows : List Row) : List (Row × PyData) := rows.flatMap fun r => (keysD r).map fun k => (r, k)
def entD (e : Row × PyData) : PyData := .tuple [e.1.toD, e.2]
def rangeD (e : Row × PyData) : PyData := .tuple [.int e.1.lo, .int e.1.hi]
theorem keys_len (r : Row) : (keysD r).length = r.places.length := by
  unfold keysD
  rw [places_len]
  by_cases h : r.size = 0
  · rw [if_neg (by omega), if_pos h]; rfl
  · rw [if_pos (by omega), if_neg h]; simp
theorem ents_len (rows : List Row) : (ents rows).length = (placesOf rows).length := by
  induction rows with
  | nil => rfl
  | cons r rows ih =>
    have h1 : (ents (r :: rows)).length = (keysD r).length + (ents rows).length := by simp [ents]
    have h2 : (placesOf (r :: rows)).length = r.places.length + (placesOf rows).length := by simp [placesOf]
    rw [h1, h2, ih, keys_len]
theorem ents_take {rows : List Row} {i : Nat} {r : Row} (h : rows[i]? = some r) : ents (rows.take (i + 1)) = ents (rows.take i) ++ (keysD r).map fun k => (r, k) := by
  rw [take_snoc h]
  simp [ents, List.flatMap_append]
theorem ents_mem {rows : List Row} {e : Row × PyData} (h : e ∈ ents rows) : e.1 ∈ rows := by
  obtain ⟨r, hr, h⟩ := List.mem_flatMap.mp h
  obtain ⟨k, _, rfl⟩ := List.mem_map.mp h
  exact hr
theorem rg_tps {H : Hp} (n : Nat) : Tps H (rgV 0 n) ((List.range n).map fun i => PyData.int (i : Nat)) := by
  unfold rgV
  have e : ((n : Int) - 0).toNat = n := by omega
  rw [e]
  generalize List.range n = l
  induction l with
  | nil => exact .nil
  | cons x l ih =>
    refine .cons ?_ ih
    have e2 : (0 : Int) + (x : Nat) = (x : Nat) := Int.zero_add _
    show Tp H (.int (0 + (x : Nat))) (.int (x : Nat))
    rw [e2]
    exact .int _
/-- [(row, key) for key in keys] -/
theorem entComp {K : PySem.W.Frag} {a0 a1 a4 : Option V} {kl : Addr} {rv : V} {kvs : List V} {r : Row} {ks : List PyData} {Hs : Hp} {Q : V → Hp → Prop} (hk : Hs kl = some (.lst kvs)) (tk : Tps Hs kvs ks) (tr : Tp Hs rv r.toD) (hz : ks.length ≤ 900)
    (k : ∀ (D : Addr) (xs : List V) (H' : Hp), Kp [] Hs H' → Hs D = none → H' D = some (.lst xs) → Tps H' xs ((ks.map fun k => (r, k)).map entD) → Q (.ref D) H') :
    tLc (iList K (tVar 3)) (gName 4) tYes (tTup (tCons (tVar 2) (tCons (tVar 4) tNil))) [4] [a0, a1, some rv, some (.ref kl), a4] Hs Q := by
  refine ⟨_, rfl, kl, rfl, ⟨_, .of hk⟩, fun D nD => ?_⟩
  have kD : Kp [] Hs (upd Hs D (.lst [])) := (Kp.refl [] Hs).new nD
  have nkl : kl ≠ D := ne_of_none hk nD
  have hkl := tk.length
  refine lc_list (xs := kvs) (fun i H' => ∃ xs, Kp [D] (upd Hs D (.lst [])) H' ∧ H' D = some (.lst xs) ∧ Tps H' xs (((ks.take i).map fun k => (r, k)).map entD)) ⟨[], Kp.refl _ _, upd_same, .nil⟩ (fun i H' _ h => ?_) (fun i x H' hx h => ?_) (fun H' h => ?_)
  · obtain ⟨xs, kk, _⟩ := h
    exact .of (kk.same _ _ ((upd_ne nkl).trans hk) (by simpa using nkl))
  · obtain ⟨xs, kk, hD, ta⟩ := h
    have hi : i < ks.length := by rw [← hkl]; exact (List.getElem?_eq_some_iff.mp hx).1
    have hki : ks[i]? = some ks[i] := List.getElem?_eq_getElem hi
    obtain ⟨x', hx', tx⟩ := tk.get hki
    rw [hx] at hx'
    cases hx'
    have tk0 : TK Hs H' := fun b ys z => kk.tk _ _ (kD.tk _ _ z)
    refine ⟨rfl, _, rfl, _, rfl, (by show 2 ≤ sizeLine; decide), fun t nt => ?_⟩
    have hDt := (upd_ne (ne_of_none hD nt) : (upd H' t (.tup [rv, x]) : Hp) D = _).trans hD
    have hxl : xs.length = i := by rw [ta.length, List.length_map, List.length_map, List.length_take, Nat.min_eq_left (by omega)]
    have ntD : t ≠ D := fun z => by subst z; rw [hD] at nt; cases nt
    refine ⟨xs, hDt, small1000 (by omega), xs ++ [.ref t], (kk.new nt).put (by simp) hDt (fun _ z => by cases z), upd_same, ?_⟩
    rw [take_snoc hki, List.map_append, List.map_append]
    have kz : TK H' (upd (upd H' t (.tup [rv, x])) D (.lst (xs ++ [.ref t]))) := fun c ys z => by
      rw [upd_ne (ne_of z hD (fun z => by cases z)), upd_ne (ne_of_none z nt)]
      exact z
    exact (Tps.keep kz _ _ ta).snoc (.tup ((upd_ne ntD).trans upd_same) (.cons (Tp.keep kz _ _ (Tp.keep tk0 _ _ tr)) (.cons (Tp.keep kz _ _ (Tp.keep tk0 _ _ tx)) .nil)))
  · obtain ⟨xs, kk, hD, ta⟩ := h
    have k0 : Kp [] Hs H' := (kD.mono (S' := [D]) (by simp)).trans kk |>.drop (fun b hb => .inr (by rw [List.mem_singleton.mp hb]; exact nD))
    rw [hkl, List.take_length] at ta
    exact k D xs H' k0 nD hD ta
def spEntries : Sp := fun vs H Q _ => ∃ rv rows, vs = [rv] ∧ Tp H rv (rowsD rows) ∧ (placesOf rows).length ≤ 900 ∧ ∀ p xs H', Kp [] H H' → H p = none → H' p = some (.lst xs) → Tps H' xs ((ents rows).map entD) → Q (.ref p) H'
def spRanges : Sp := fun vs H Q _ => ∃ rv rows, vs = [rv] ∧ Tp H rv (rowsD rows) ∧ (placesOf rows).length ≤ 900 ∧ ∀ v H', Kp [] H H' → Tp H' v (.tuple ((ents rows).map rangeD)) → Q v H'
def spRangesOf : Sp := fun vs H Q _ => ∃ a rv rest rows, vs = [.ref a] ∧ H a = some (.tup (rv :: rest)) ∧ Tp H rv (rowsD rows) ∧ (placesOf rows).length ≤ 900 ∧ ∀ v H', Kp [] H H' → Tp H' v (.tuple ((ents rows).map rangeD)) → Q v H'
section
variable {P : Program} {w : World} {base : Heap} {mg : Str → Option Value} {K : PySem.W.Frag}
theorem ok_entries {f : Addr} {fd : FuncData} (B : Bn mg) (D : Def K mg "entries_of" sEntries ["cells"] f fd) : Has P w K mg base "entries_of" 1 ["cells"] spEntries := by
  refine D.has (D.fn.ok scEntries (fun vs H Q E h => ?_) (fun cdv A outer s H vs Q E hr h => ?_))
  · obtain ⟨_, _, rfl, _⟩ := h
    rfl
  · obtain ⟨rv, rows, rfl, tp, hlen, k⟩ := h
    have hu := hu_of hr
    have nd := scEntries.nd
    obtain ⟨a, rvs, rfl, ha, trs⟩ := rows_of tp
    refine ⟨_, pss_cons (ps_set (i := 1) nd rfl (.inl rfl) (pe_lst pa_nil))
      (pss_cons (ps_for PassesOwn.never rfl (pi_tup (pv 0)) (pg_name (i := 2) nd rfl (.inr rfl))
        (pss_cons (ps_set (i := 3) nd rfl (.inl rfl) (pe_ifExp (pt_cmpR op_gt (pe_ix ix_tup (pv 2) pe_int (fun _ _ => rfl)) pe_int (nomark _)) (pe_listRg rfl rfl B.list (prg_1 rfl B.range (pe_ix ix_tup (pv 2) pe_int (fun _ _ => rfl)))) (pe_lst (pa_cons pe_non pa_nil))))
        (pss_one (ps_expr (pe_bm PySem.F.plainAttrs_list PySem.F.slot_list_extend PySem.F.type_list_extend mt_extend (pv 1) (pa_cons
          (pe_lc (own := [("key", 4)]) (g := gName 4) (tt := tYes) (by rfl) nd (pi_list (pv 3)) (blkOk_by (own := [("key", 4)]) (N := nEntries) (sc := defScope sEntries) (by decide +kernel)) (fun _ _ _ _ _ => pg_name (i := 4) nd rfl (.inl rfl)) (fun _ _ _ _ _ => pts_nil)
            (fun _ _ _ _ _ => pe_tup (pa_cons (pv 2) (pa_cons (pv 4) pa_nil)))) pa_nil))))))
      (pss_one (ps_ret (pv 1)))), ?_⟩
    refine ⟨(by show 0 ≤ sizeLine; decide), fun F nF => ?_⟩
    have kF : Kp [] H (upd H F (.lst [])) := (Kp.refl [] H).new nF
    refine ⟨_, rfl, a, rfl, ⟨_, .of (kF.tk _ _ ha)⟩, ?_⟩
    have hrl : rvs.length = rows.length := by rw [trs.length, List.length_map]
    refine for_tup (xs := rvs) (fun i σ H' => ∃ r' k' y' xs, σ = [some (.ref a), some (.ref F), r', k', y'] ∧ Kp [F] (upd H F (.lst [])) H' ∧ H' F = some (.lst xs) ∧ Tps H' xs ((ents (rows.take i)).map entD))
      ⟨_, _, _, [], rfl, Kp.refl _ _, upd_same, .nil⟩ (fun i σ H' _ h => ?_) (fun i x σ Hs hx h => ?_) (fun σ H' h => ?_)
    · obtain ⟨r', k', y', xs, rfl, kk, _⟩ := h
      exact .of (kk.tk _ _ (kF.tk _ _ ha))
    · obtain ⟨r', k', y', xs, rfl, kk, hF, ta⟩ := h
      have hi : i < rows.length := by rw [← hrl]; exact (List.getElem?_eq_some_iff.mp hx).1
      have hrow : rows[i]? = some rows[i] := List.getElem?_eq_getElem hi
      obtain ⟨x', hx', tx⟩ := trs.get (i := i) (d := rows[i].toD) (by rw [List.getElem?_map, hrow]; rfl)
      rw [hx] at hx'
      cases hx'
      obtain ⟨b, rfl, hb⟩ := row_of tx
      have hbs := kk.tk _ _ (kF.tk _ _ hb)
      have txs := Tp.keep kk.tk _ _ (Tp.keep kF.tk _ _ tx)
      have hl1 : xs.length ≤ 900 := by rw [ta.length, List.length_map, ents_len]; exact Nat.le_trans (take_le rows i) hlen
      have hl2 : (keysD rows[i]).length ≤ 900 := by rw [keys_len]; have := places_le hrow; omega
      have hsz := size_le hrow hlen
      have fin : ∀ (kl : Addr) (kvs : List V) (H1 : Hp), Kp [] Hs H1 → H1 kl = some (.lst kvs) → Tps H1 kvs (keysD rows[i]) →
          tBM K "list" rExtend (tVar 1) (tCons (tLc (iList K (tVar 3)) (gName 4) tYes (tTup (tCons (tVar 2) (tCons (tVar 4) tNil))) [4]) tNil) [some (.ref a), some (.ref F), some (.ref b), some (.ref kl), y'] H1 fun _ H' =>
            ∃ r3 k3 y3 xs, ([some (.ref a), some (.ref F), some (.ref b), some (.ref kl), y'] : List (Option V)) = [some (.ref a), some (.ref F), r3, k3, y3] ∧ Kp [F] (upd H F (.lst [])) H' ∧ H' F = some (.lst xs) ∧ Tps H' xs ((ents (rows.take (i + 1))).map entD) := fun kl kvs H1 k1 hkl tkl => by
        have hF1 := k1.lst hF (by simp)
        refine ⟨_, rfl, .inl ⟨rfl, _, .inl (.inl hF1)⟩, entComp (r := rows[i]) hkl tkl (Tp.keep k1.tk _ _ txs) hl2 fun D2 ys H2 k2 nD2 hD2 t2 => ?_⟩
        have hF2 := k2.lst hF1 (by simp)
        have hl3 : ys.length ≤ 900 := by rw [t2.length, List.length_map, List.length_map]; exact hl2
        refine ⟨F, D2, xs, ys, rfl, rfl, hF2, hD2, by rw [sizeLine_eq]; omega, _, _, _, xs ++ ys, rfl, (kk.trans ((k1.trans k2).mono (by simp))).put (by simp) hF2 (fun _ z => by cases z), upd_same, ?_⟩
        rw [ents_take hrow, List.map_append]
        have kz : TK H2 (upd H2 F (.lst (xs ++ ys))) := TK.put hF2 (fun _ z => by cases z)
        exact (Tps.keep kz _ _ (Tps.keep (k1.trans k2).tk _ _ ta)).append (Tps.keep kz _ _ t2)
      refine ⟨_, rfl, b, _, 1, _, rfl, rfl, .of hbs, rfl, _, _, rfl, rfl, _, rfl, ite2 (fun q => ?_) (fun q => ?_)⟩
      · have q : (0 : Int) < (rows[i].size : Int) := of_decide_eq_true q
        refine ⟨_, rfl, b, _, 1, _, rfl, rfl, .of hbs, rfl, _, rfl, RgOk.of_le (by omega) (by omega) (by omega) (by omega), fun kl nkl => ?_⟩
        refine fin kl _ _ ((Kp.refl [] Hs).new nkl) upd_same ?_
        unfold keysD
        rw [if_pos (by omega)]
        exact rg_tps _
      · have q : ¬ (0 : Int) < (rows[i].size : Int) := fun z => q (decide_eq_true z)
        refine ⟨(by show 1 ≤ sizeLine; decide), fun kl nkl => ?_⟩
        refine fin kl _ _ ((Kp.refl [] Hs).new nkl) upd_same ?_
        unfold keysD
        rw [if_neg (by omega)]
        exact .cons .non .nil
    · obtain ⟨r', k', y', xs, rfl, kk, hF, ta⟩ := h
      rw [hrl, List.take_length] at ta
      have kH : Kp [] H H' := ((kF.mono (S' := [F]) (by simp)).trans kk).drop (fun b hb => .inr (by rw [List.mem_singleton.mp hb]; exact nF))
      exact ⟨_, rfl, k F xs _ kH nF hF ta⟩
theorem ok_ranges {f : Addr} {fd : FuncData} (B : Bn mg) (D : Def K mg "cell_ranges" sRanges ["cells"] f fd) (hE : Has P w K mg base "entries_of" 1 ["cells"] spEntries) : Has P w K mg base "cell_ranges" 2 ["cells"] spRanges := by
  refine D.has (D.fn.ok scRanges (fun vs H Q E h => ?_) (fun cdv A outer s H vs Q E hr h => ?_))
  · obtain ⟨_, _, rfl, _⟩ := h
    rfl
  · obtain ⟨rv, rows, rfl, tp, hlen, k⟩ := h
    have nd := scRanges.nd
    refine ⟨_, pss_one (ps_ret (pe_callTy call_tuple_of (by rfl) B.tuple (by decide +kernel) (pa_cons
      (pe_lc (own := [("row", 1), ("key", 2)]) (g := gTup K 2 (gCons (gName 1) (gCons (gName 2) gNil))) (tt := tYes) (by rfl) nd (pi_list (pe_has hE hr rfl (pa_cons (pv 0) pa_nil))) (blkOk_by (own := [("row", 1), ("key", 2)]) (N := nRanges) (sc := defScope sRanges) (by decide +kernel))
        (fun _ _ _ _ _ => pg_tup rfl (pgs_cons (pg_name (i := 1) nd rfl (.inl rfl)) (pgs_cons (pg_name (i := 2) nd rfl (.inl rfl)) pgs_nil))) (fun _ _ _ _ _ => pts_nil)
        (fun _ _ _ _ _ => pe_tup (pa_cons (pe_ix (r := rIxT K) ix_tup (pv 1) pe_int (fun _ _ => rfl)) (pa_cons (pe_ix (r := rIxT K) ix_tup (pv 1) pe_int (fun _ _ => rfl)) pa_nil)))) pa_nil))), ?_⟩
    refine ⟨_, rfl, rv, rows, rfl, tp, hlen, fun p xs H1 k1 np hp t1 => ⟨p, rfl, ⟨_, .of hp⟩, fun D nD => ?_⟩⟩
    have kD : Kp [] H1 (upd H1 D (.lst [])) := (Kp.refl [] H1).new nD
    have npD : p ≠ D := ne_of_none hp nD
    have hxl : xs.length = (ents rows).length := by rw [t1.length, List.length_map]
    have hel : (ents rows).length ≤ 900 := by rw [ents_len]; exact hlen
    refine lc_list (xs := xs) (fun i H' => ∃ ys, Kp [D] (upd H1 D (.lst [])) H' ∧ H' D = some (.lst ys) ∧ Tps H' ys (((ents rows).take i).map rangeD)) ⟨[], Kp.refl _ _, upd_same, .nil⟩ (fun i H' _ h => ?_) (fun i x H' hx h => ?_) (fun H' h => ?_)
    · obtain ⟨ys, kk, _⟩ := h
      exact .of (kk.same _ _ ((upd_ne npD).trans hp) (by simpa using npD))
    · obtain ⟨ys, kk, hD, ta⟩ := h
      have hi : i < (ents rows).length := by rw [← hxl]; exact (List.getElem?_eq_some_iff.mp hx).1
      have hei : (ents rows)[i]? = some (ents rows)[i] := List.getElem?_eq_getElem hi
      obtain ⟨x', hx', tx⟩ := t1.get (i := i) (d := entD (ents rows)[i]) (by rw [List.getElem?_map, hei]; rfl)
      rw [hx] at hx'
      cases hx'
      have tk0 : TK H1 H' := fun b zs z => kk.tk _ _ (kD.tk _ _ z)
      have tx := Tp.keep tk0 _ _ tx
      generalize (ents rows)[i] = e at hei tx
      cases tx with
      | tup ha hb =>
        rename_i t es
        cases hb with
        | cons b1 b2 =>
          rename_i r0 rest
          cases b2 with
          | cons c1 c2 =>
            rename_i k0 rest2
            cases c2
            obtain ⟨b, rfl, hbb⟩ := row_of b1
            refine ⟨t, _, rfl, .of ha, rfl, _, _, rfl, _, _, rfl, rfl, rfl, ?_⟩
            refine ⟨_, rfl, b, _, 2, _, rfl, rfl, .of hbb, rfl, _, rfl, b, _, 3, _, rfl, rfl, .of hbb, rfl, (by show 2 ≤ sizeLine; decide), fun u nu => ?_⟩
            have hDu := (upd_ne (ne_of_none hD nu) : (upd H' u (.tup [.int e.1.lo, .int e.1.hi]) : Hp) D = _).trans hD
            have hyl : ys.length = i := by rw [ta.length, List.length_map, List.length_take, Nat.min_eq_left (by omega)]
            have nuD : u ≠ D := fun z => by subst z; rw [hD] at nu; cases nu
            refine ⟨ys, hDu, small1000 (by omega), ys ++ [.ref u], (kk.new nu).put (by simp) hDu (fun _ z => by cases z), upd_same, ?_⟩
            rw [take_snoc hei, List.map_append]
            have kz : TK H' (upd (upd H' u (.tup [.int e.1.lo, .int e.1.hi])) D (.lst (ys ++ [.ref u]))) := fun c zs z => by
              rw [upd_ne (ne_of z hD (fun z => by cases z)), upd_ne (ne_of_none z nu)]
              exact z
            exact (Tps.keep kz _ _ ta).snoc (.tup ((upd_ne nuD).trans upd_same) (.cons (.int _) (.cons (.int _) .nil)))
    · obtain ⟨ys, kk, hD, ta⟩ := h
      rw [hxl, List.take_length] at ta
      have k0 : Kp [] H1 H' := (kD.mono (S' := [D]) (by simp)).trans kk |>.drop (fun b hb => .inr (by rw [List.mem_singleton.mp hb]; exact nD))
      refine ⟨D, ys, rfl, .inl ⟨.of hD, fun T nT => ?_⟩⟩
      have kT := (Kp.refl [] H').new (o := .tup ys) nT
      exact k _ _ ((k1.trans k0).trans kT) (Tp.new nT ta)
theorem ok_ranges_of {f : Addr} {fd : FuncData} (D : Def K mg "ranges_of" sRangesOf ["program"] f fd) (hR : Has P w K mg base "cell_ranges" 2 ["cells"] spRanges) : Has P w K mg base "ranges_of" 3 ["program"] spRangesOf := by
  refine D.has (D.fn.ok scRangesOf (fun vs H Q E h => ?_) (fun cdv A outer s H vs Q E hr h => ?_))
  · obtain ⟨_, _, _, _, rfl, _⟩ := h
    rfl
  · obtain ⟨a, rv, rest, rows, rfl, ha, tp, hlen, k⟩ := h
    refine ⟨_, pss_one (ps_ret (pe_has hR hr rfl (pa_cons (pe_ix ix_tup (pv 0) pe_int (fun _ _ => rfl)) pa_nil))), ?_⟩
    exact ⟨_, rfl, a, _, (0 : Nat), rv, rfl, rfl, .of ha, atI_nat rfl, rv, rows, rfl, tp, hlen, k⟩
end
end Ork
end
section
set_option Elab.async false
set_option linter.all false
set_option maxRecDepth 100000
set_option pp.maxSteps 3000
namespace Ork
open PySem L2 PySem.Spec PyProof.Rows

/-- all states of ranges, ascending -/
def stsOf : List (Int × Int) → List (List Int)
  | [] => [[]]
  | p :: ps => (List.range (p.2 + 1 - p.1).toNat).flatMap fun (i : Nat) => (stsOf ps).map fun t => (p.1 + (i : Nat)) :: t
def rgD (p : Int × Int) : PyData := .tuple [.int p.1, .int p.2]
theorem flat_len {α β : Type} (f : α → List β) (m : Nat) (h : ∀ a, (f a).length = m) : ∀ l : List α, (l.flatMap f).length = l.length * m
  | [] => by simp
  | a :: l => by rw [List.flatMap_cons, List.length_append, h, flat_len f m h l, List.length_cons, Nat.succ_mul, Nat.add_comm]
theorem sts_cons_len (p : Int × Int) (ps : List (Int × Int)) : (stsOf (p :: ps)).length = (p.2 + 1 - p.1).toNat * (stsOf ps).length := by
  show ((List.range _).flatMap _).length = _
  rw [flat_len _ (stsOf ps).length (fun a => by rw [List.length_map])]
  rw [List.length_range]
/-- what the first i turns hand out -/
def stsPart (vals : List Int) (lo : Int) (tl : List (Int × Int)) (i : Nat) : List PyData := (List.range i).flatMap fun (j : Nat) => (stsOf tl).map fun t => intsD (vals ++ (lo + (j : Nat)) :: t)
theorem part_len (vals : List Int) (lo : Int) (tl : List (Int × Int)) (i : Nat) : (stsPart vals lo tl i).length = i * (stsOf tl).length := by
  unfold stsPart
  rw [flat_len _ (stsOf tl).length (fun a => by rw [List.length_map]), List.length_range]
theorem part_succ (vals : List Int) (lo : Int) (tl : List (Int × Int)) (i : Nat) : stsPart vals lo tl (i + 1) = stsPart vals lo tl i ++ (stsOf tl).map fun t => intsD ((vals ++ [lo + (i : Nat)]) ++ t) := by
  unfold stsPart
  rw [List.range_succ, List.flatMap_append, List.flatMap_cons, List.flatMap_nil, List.append_nil]
  congr 1
  refine List.map_congr_left fun t _ => ?_
  rw [List.append_assoc]; rfl
theorem part_all (vals : List Int) (p : Int × Int) (tl : List (Int × Int)) : stsPart vals p.1 tl (p.2 + 1 - p.1).toNat = (stsOf (p :: tl)).map fun t => intsD (vals ++ t) := by
  show _ = ((List.range _).flatMap _).map _
  unfold stsPart
  rw [List.map_flatMap]
  congr 1
  funext j
  rw [List.map_map]
  rfl
theorem ints_of {H : Hp} {l : List Int} {v : V} (h : Tp H v (intsD l)) : ∃ b, v = .ref b ∧ H b = some (.tup (l.map V.int)) := by
  cases h with
  | tup a b =>
    have e := Tps.toInts b
    subst e
    exact ⟨_, rfl, a⟩
theorem rg_of {H : Hp} {p : Int × Int} {v : V} (h : Tp H v (rgD p)) : ∃ b, v = .ref b ∧ H b = some (.tup [.int p.1, .int p.2]) := by
  cases h with
  | tup a b =>
    have e := Tps.toInts (l := [p.1, p.2]) b
    subst e
    exact ⟨_, rfl, a⟩
def spLonger (n : Nat) : SpJ := fun vs H Q => ∃ (rv vv : V) (rs : List (Int × Int)) (vals : List Int), vs = [rv, vv] ∧ Tp H rv (.tuple (rs.map rgD)) ∧ Tp H vv (intsD vals) ∧ vals.length ≤ rs.length ∧ rs.length < vals.length + n ∧ rs.length ≤ 900 ∧
  (∀ p ∈ rs, (-1000 : Int) ≤ p.1 ∧ p.1 ≤ 1000 ∧ p.2 ≤ 1000 ∧ (-1000 : Int) ≤ p.2) ∧ (stsOf (rs.drop vals.length)).length ≤ 900 ∧
  ∀ ys H', TK H H' → Tps H' ys ((stsOf (rs.drop vals.length)).map fun t => intsD (vals ++ t)) → Q ys H'
section
variable {P : Program} {w : World} {base : Heap} {mg : Str → Option Value} {K : PySem.W.Frag}
theorem gok_longer_step {f : Addr} {fd : FuncData} {n k : Nat} (B : Bn mg) (D : Def K mg "longer_states" sLonger ["ranges", "values"] f fd) (h : GHas P w K mg base "longer_states" k (1000 * n) ["ranges", "values"] (spLonger n)) :
    GHas P w K mg base "longer_states" (k + 3) (1000 * (n + 1)) ["ranges", "values"] (spLonger (n + 1)) := by
  refine D.ghas (gfnJ_of D.fn scLonger (fun vs H Q h => ?_) (fun cdv A outer s H vs Q S pre HW g hr h' hS hcn old => ?_))
  · obtain ⟨_, _, _, _, rfl, _⟩ := h
    rfl
  · obtain ⟨rv, vv, rs, vals, rfl, tr, tv, hl, hn, hz, hb, hlen, kQ⟩ := h'
    have nd := scLonger.nd
    have tkW : TK H HW := fun b ys e => old b _ e
    refine ⟨_, gss_one (gs_if (pt_cmpR op_eq (pe_callB call_len_seq (by rfl) B.len PySem.boot_len (pa_cons (pv 1) pa_nil)) (pe_callB call_len_seq (by rfl) B.len PySem.boot_len (pa_cons (pv 0) pa_nil)) (nomark _))
       (gss_one (gs_yield (pv 1)))
       (gss_cons (gs_ps (ps_asg (pe_ix ix_tup (pv 0) (pe_callB call_len_seq (by rfl) B.len PySem.boot_len (pa_cons (pv 1) pa_nil)) (fun _ _ => rfl)) (pg_tup rfl (pgs_cons (pg_name (i := 2) nd rfl (.inl rfl)) (pgs_cons (pg_name (i := 3) nd rfl (.inl rfl)) pgs_nil)))))
         (gss_one (gs_for rfl (pi_range2 rfl B.range (pa_cons (pv 2) (pa_cons (pe_op op_add (pv 3) pe_int) pa_nil))) (pg_name (i := 4) nd rfl (.inl rfl))
            (gss_one (gs_yieldFrom (pgs_has h (hr.mono (by omega)) rfl (pa_cons (pv 0) (pa_cons (pe_tup (StX.pa_star (pv 1) (pa_cons (pv 4) pa_nil))) pa_nil))) hr)))))), ?_⟩
    obtain ⟨ra, rvs, rfl, hra, trs⟩ : ∃ ra rvs, rv = .ref ra ∧ H ra = some (.tup rvs) ∧ Tps H rvs (rs.map rgD) := by
      cases tr with
      | tup a b => exact ⟨_, _, rfl, a, b⟩
    obtain ⟨va, rfl, hva⟩ := ints_of tv
    have hrW := old _ _ hra
    have hvW := old _ _ hva
    have hrl : rvs.length = rs.length := by rw [trs.length, List.length_map]
    have hlt : pre.length + 1000 * (n + 1) ≤ sizeLine := hcn
    intro xs hxs
    refine ⟨_, rfl, va, _, rfl, .inr (.of hvW), _, rfl, ra, _, rfl, .inr (.of hrW), rfl, _, rfl, hxs, ?_⟩
    rw [List.length_map, hrl]
    by_cases e : vals.length = rs.length
    · rw [if_pos (by simp; omega)]
      intro xs' hxs'
      rw [hS] at hxs'
      cases hxs'
      refine ⟨by omega, _, rfl, hS, fun b o hb e => e, [.ref va], upd_same, fun b o hb e => (upd_ne hb).trans e, kQ _ _ (fun b ys e => TK.put hS (fun _ z => by cases z) b ys (tkW b ys e)) ?_⟩
      have e2 : rs.drop vals.length = [] := List.drop_eq_nil_of_le (by omega)
      rw [e2]
      have e3 : (stsOf []).map (fun t => intsD (vals ++ t)) = [intsD vals] := by
        show [intsD (vals ++ [])] = _
        rw [List.append_nil]
      rw [e3]
      exact .cons (Tp.keep (TK.put hS (fun _ z => by cases z)) _ _ (Tp.keep tkW _ _ tv)) .nil
    · rw [if_neg (by simp; omega)]
      have hlt2 : vals.length < rs.length := by omega
      have hdr : rs.drop vals.length = rs[vals.length] :: rs.drop (vals.length + 1) := List.drop_eq_getElem_cons hlt2
      have hpm := hb _ (List.getElem_mem hlt2)
      have hpe : rs[vals.length]? = some rs[vals.length] := List.getElem?_eq_getElem hlt2
      obtain ⟨q0, hq0, tq⟩ := trs.get (i := vals.length) (d := rgD rs[vals.length]) (by rw [List.getElem?_map, hpe]; rfl)
      obtain ⟨qa, rfl, hqa⟩ := rg_of tq
      rw [hdr] at kQ hlen
      generalize rs[vals.length] = p at *
      generalize htl : rs.drop (vals.length + 1) = tl at *
      rw [sts_cons_len] at hlen
      intro xs' hxs'
      rw [hS] at hxs'
      cases hxs'
      refine ⟨_, rfl, _, rfl, va, _, rfl, .inr (.of hvW), ra, _, _, _, rfl, rfl, .of hrW, atI_nat (by rw [List.length_map]; exact hq0), qa, _, rfl, .of (old _ _ hqa), rfl, _, _, rfl, _, _, rfl, rfl, hS, ?_⟩
      intro xs' hxs'
      rw [hS] at hxs'
      cases hxs'
      have hm0 : 1 * (stsOf tl).length ≤ (p.2 + 1 - p.1).toNat * (stsOf tl).length ∨ (p.2 + 1 - p.1).toNat = 0 := by
        by_cases z : (p.2 + 1 - p.1).toNat = 0
        · exact .inr z
        · exact .inl (Nat.mul_le_mul_right _ (by omega))
      refine ⟨_, rfl, _, rfl, _, _, rfl, rfl, _, _, rfl, ⟨by omega, by omega, by omega, by omega⟩, hS, ?_⟩
      refine forG_range (n := (p.2 + 1 - p.1).toNat) (fun i σ H' => ∃ o4, σ = [some (.ref ra), some (.ref va), some (.int p.1), some (.int p.2), o4] ∧ Kp [S] HW H' ∧ ∃ ys, H' S = some (.lst (pre ++ ys)) ∧ Tps H' ys (stsPart vals p.1 tl i))
        ⟨_, rfl, Kp.refl _ _, [], by rw [List.append_nil]; exact hS, .nil⟩ (fun i σ H' xs hi hxs h => ?_) (fun σ H' h => ?_)
      · obtain ⟨o4, rfl, kk, ys, hS', ta⟩ := h
        rw [hS'] at hxs
        cases hxs
        have hyl : ys.length = i * (stsOf tl).length := by rw [ta.length, part_len]
        have hil : i * (stsOf tl).length ≤ (p.2 + 1 - p.1).toNat * (stsOf tl).length := Nat.mul_le_mul_right _ (Nat.le_of_lt hi)
        refine ⟨hS', ?_⟩
        intro xs1 hxs1
        rw [hS'] at hxs1
        cases hxs1
        refine ⟨by rw [List.length_append]; omega, ?_⟩
        intro xs2 hxs2
        rw [hS'] at hxs2
        cases hxs2
        refine ⟨_, rfl, _, rfl, va, _, rfl, .inl (.of (kk.tk _ _ hvW)), _, rfl, (by rw [List.length_append, List.length_map]; show vals.length + 1 ≤ sizeLine; rw [sizeLine_eq]; omega), fun t nt => ?_⟩
        have k1 := kk.new (o := .tup (vals.map V.int ++ [.int (p.1 + (i : Nat))])) nt
        have ntS : S ≠ t := fun z => by rw [z, nt] at hS'; cases hS'
        refine ⟨(upd_ne ntS).trans hS', same_kp k1, .ref ra, .ref t, rs, vals ++ [p.1 + (i : Nat)], rfl, Tp.keep (fun b ys e => k1.tk _ _ (tkW b ys e)) _ _ tr, ?_, by rw [List.length_append]; exact hlt2, by rw [List.length_append, List.length_singleton]; omega, hz, hb, ?_, ?_⟩
        · exact .tup (by rw [upd_same]) (by
            have e : vals.map V.int ++ [V.int (p.1 + (i : Nat))] = (vals ++ [p.1 + ((i : Nat) : Int)]).map V.int := by rw [List.map_append]; rfl
            rw [e]
            exact Tps.ints _)
        · rw [List.length_append, List.length_singleton, htl]; omega
        · rw [List.length_append, List.length_singleton, htl]
          intro ys2 H2 tk2 t2 hS2 hSB
          have kz := kp_same hSB ((upd_ne ntS).trans hS') hS2
          refine ⟨_, rfl, k1.trans kz, ys ++ ys2, by rw [hS2, List.append_assoc], ?_⟩
          rw [part_succ]
          exact (Tps.keep tk2 _ _ (Tps.keep (TK.new nt) _ _ ta)).append t2
      · obtain ⟨o4, rfl, kk, ys, hS', ta⟩ := h
        refine ⟨ys, hS', same_kp kk, kQ _ _ (fun b ys e => kk.tk _ _ (tkW b ys e)) ?_⟩
        rw [← part_all]
        exact ta
theorem gok_longer0 {f : Addr} {fd : FuncData} (D : Def K mg "longer_states" sLonger ["ranges", "values"] f fd) : GHas P w K mg base "longer_states" 1 (1000 * 0) ["ranges", "values"] (spLonger 0) :=
  D.ghas ⟨fun vs H Q h => by obtain ⟨_, _, _, _, _, _, _, a, b, _⟩ := h; omega, fun A outer s H args us vs Q hr e0 hb r h => by obtain ⟨_, _, _, _, _, _, _, a, b, _⟩ := h; omega⟩
theorem gok_longer {f : Addr} {fd : FuncData} (B : Bn mg) (D : Def K mg "longer_states" sLonger ["ranges", "values"] f fd) : ∀ n, GHas P w K mg base "longer_states" (3 * n + 1) (1000 * n) ["ranges", "values"] (spLonger n)
  | 0 => gok_longer0 D
  | n + 1 => gok_longer_step B D (gok_longer B D n)
def rgOf (e : Row × PyData) : Int × Int := (e.1.lo, e.1.hi)
def statesOf (rows : List Row) : List (List Int) := stsOf ((ents rows).map rgOf)
def spAllStates : SpJ := fun vs H Q => ∃ (a : Addr) (rv : V) (rest : List V) (rows : List Row), vs = [.ref a] ∧ H a = some (.tup (rv :: rest)) ∧ Tp H rv (rowsD rows) ∧ (placesOf rows).length ≤ 6 ∧
  (∀ r ∈ rows, (-1000 : Int) ≤ r.lo ∧ r.lo ≤ 1000 ∧ r.hi ≤ 1000 ∧ (-1000 : Int) ≤ r.hi) ∧ (statesOf rows).length ≤ 900 ∧
  ∀ ys H', TK H H' → Tps H' ys ((statesOf rows).map intsD) → Q ys H'
theorem gok_all_states {f : Addr} {fd : FuncData} (D : Def K mg "all_states" sAllStates ["program"] f fd) (hL : GHas P w K mg base "longer_states" 22 7000 ["ranges", "values"] (spLonger 7)) (hR : Has P w K mg base "ranges_of" 3 ["program"] spRangesOf) :
    GHas P w K mg base "all_states" 25 8000 ["program"] spAllStates := by
  refine D.ghas (gfnJ_of D.fn scAllStates (fun vs H Q h => ?_) (fun cdv A outer s H vs Q S pre HW g hr h' hS hcn old => ?_))
  · obtain ⟨_, _, _, _, rfl, _⟩ := h
    rfl
  · obtain ⟨a, rv, rest, rows, rfl, ha, tr, hz, hb, hlen, kQ⟩ := h'
    have nd := scAllStates.nd
    have tkW : TK H HW := fun b ys e => old b _ e
    refine ⟨_, gss_one (gs_yieldFrom (pgs_has hL (hr.mono (by decide)) rfl (pa_cons (pe_has hR (hr.mono (by decide)) rfl (pa_cons (pv 0) pa_nil)) (pa_cons (pe_tup pa_nil) pa_nil))) hr), ?_⟩
    intro xs hxs
    rw [hS] at hxs
    cases hxs
    refine ⟨by omega, ?_⟩
    intro xs hxs
    rw [hS] at hxs
    cases hxs
    refine ⟨_, rfl, a, rv, rest, rows, rfl, old _ _ ha, Tp.keep tkW _ _ tr, by omega, fun v H1 k1 t1 => ⟨(by show 0 ≤ sizeLine; rw [sizeLine_eq]; omega), fun t nt => ?_⟩⟩
    have k2 := k1.new (o := .tup []) nt
    have kS : Kp [S] HW (upd H1 t (.tup [])) := k2.mono (by simp)
    have hS1 : upd H1 t (.tup []) S = some (.lst pre) := k2.lst hS (by simp)
    have hel : (ents rows).length ≤ 6 := by rw [ents_len]; exact hz
    refine ⟨hS1, same_kp kS, v, .ref t, (ents rows).map rgOf, [], rfl, ?_, Tp.new nt .nil, Nat.zero_le _, by rw [List.length_map]; simp; omega, by rw [List.length_map]; omega, fun p hp => ?_, ?_, fun ys H2 tk2 t2 hS2 hSB => ?_⟩
    · rw [List.map_map]
      exact Tp.keep (TK.new nt) _ _ t1
    · obtain ⟨e, he, rfl⟩ := List.mem_map.mp hp
      exact hb _ (ents_mem he)
    · exact hlen
    · have kz := kp_same hSB hS1 hS2
      exact ⟨ys, hS2, same_kp (kS.trans kz), kQ _ _ (fun b zs e => tk2 _ _ (kS.tk _ _ (tkW _ _ e))) t2⟩
end
end Ork
end
section
set_option Elab.async false
set_option linter.all false
set_option maxRecDepth 100000
set_option pp.maxSteps 3000
namespace Ork
open PySem L2 PySem.Spec PyProof.Rows

def spBehind (n : Nat) : SpJ := fun vs H Q => ∃ (rv stv csv schv : V) (rows : List Row) (c : List Int) (codes : List (List Ins)) (ks : List Nat), vs = [rv, stv, csv, schv] ∧ Tp H rv (rowsD rows) ∧ (placesOf rows).length ≤ 900 ∧ (∀ nm ∈ placesOf rows, nm.ok = true) ∧
  Tp H stv (intsD c) ∧ Tp H csv (codesD codes) ∧ CodesOk (placesOf rows) codes ∧ c.length = (placesOf rows).length ∧ (∀ v ∈ c, v.natAbs < 4) ∧ Tp H schv (natsD ks) ∧ (∀ j ∈ ks, j < codes.length) ∧ ks.length + n ≤ 800 ∧
  meas codes (runS (placesOf rows) codes (cfg0 codes c) ks) < n ∧
  ∀ ys H', TK H H' → Tps H' ys ((behind (placesOf rows) codes (n - 1) (runS (placesOf rows) codes (cfg0 codes c) ks)).map fun r => natsD (ks ++ r)) → Q ys H'
theorem evs_succ {pl codes g n} : evs pl codes g (n + 1) = evs pl codes g n ++ if (evK pl codes n g).2 = true then [n] else [] := by
  unfold evs
  rw [List.range_succ, List.filter_append]
  congr 1
  by_cases h : (evK pl codes n g).2 = true
  · rw [if_pos h]; simp [h]
  · rw [if_neg h]; simp [h]
theorem evs_le {pl codes g n} : (evs pl codes g n).length ≤ n := by
  unfold evs
  exact Nat.le_trans (List.length_filter_le _ _) (by simp)
def bpart (pl : List Nm) (codes : List (List Ins)) (ks : List Nat) (n : Nat) (g : Cfg) (es : List Nat) : List PyData := es.flatMap fun k => (behind pl codes (n - 1) (evK pl codes k g).1).map fun r => natsD ((ks ++ [k]) ++ r)
theorem bpart_len {pl codes ks n g} (hc : codes.length ≤ 3) (hn : n ≤ 11) : ∀ es : List Nat, (bpart pl codes ks n g es).length ≤ es.length * 59049
  | [] => by simp [bpart]
  | e :: es => by
    have h1 := bpart_len (pl := pl) (ks := ks) (g := g) hc hn es
    have h2 := behind_len (pl := pl) hc (n - 1) (evK pl codes e g).1
    have h3 : 3 ^ (n - 1) ≤ 3 ^ 10 := Nat.pow_le_pow_right (by decide) (by omega)
    have h4 : (3 : Nat) ^ 10 = 59049 := by decide
    unfold bpart at h1 ⊢
    rw [List.flatMap_cons, List.length_append, List.length_map, List.length_cons]
    omega
theorem bpart_all {pl codes ks n g} : bpart pl codes ks n g (evs pl codes g codes.length) = (parts pl codes (behind pl codes (n - 1)) g codes.length).map fun r => natsD (ks ++ r) := by
  unfold bpart parts
  rw [List.map_flatMap]
  congr 1
  funext k
  rw [List.map_map]
  refine List.map_congr_left fun r _ => ?_
  show natsD ((ks ++ [k]) ++ r) = natsD (ks ++ k :: r)
  rw [List.append_assoc]; rfl
theorem bpart_snoc {pl codes ks n g es k} : bpart pl codes ks n g (es ++ [k]) = bpart pl codes ks n g es ++ (behind pl codes (n - 1) (evK pl codes k g).1).map fun r => natsD ((ks ++ [k]) ++ r) := by
  unfold bpart
  rw [List.flatMap_append]
  simp
theorem behindLoop {K : PySem.W.Frag} {S L : Addr} {HW H1 : Hp} {n : Nat} {D : Ends} {rv stv csv schv : V} {o5 o6 : Option V} {rows : List Row} {c : List Int} {codes : List (List Ins)} {ks : List Nat} {g0 : Cfg} {xs pre : List V} (hn11 : n ≤ 11)
    (kW : Kp [S] HW H1) (tr : Tp H1 rv (rowsD rows)) (hlen : (placesOf rows).length ≤ 900) (hok : ∀ nm ∈ placesOf rows, nm.ok = true) (tst : Tp H1 stv (intsD c)) (tcs : Tp H1 csv (codesD codes)) (co : CodesOk (placesOf rows) codes)
    (hc : c.length = (placesOf rows).length) (hb : ∀ v ∈ c, v.natAbs < 4) (hks : ∀ j ∈ ks, j < codes.length) (hkn : ks.length + (n + 1) ≤ 800) (hg0 : runS (placesOf rows) codes (cfg0 codes c) ks = g0) (okg : CfgOk (placesOf rows) codes g0) (hm : meas codes g0 < n + 1)
    (hL : H1 L = some (.lst xs)) (hLS : L ≠ S) (ta : Tps H1 xs ((evs (placesOf rows) codes g0 codes.length).map fun k => natsD (ks ++ [k]))) (hS : H1 S = some (.lst pre)) (hpre : pre.length + 177147 + 200000 * n ≤ sizeLine)
    (k : ∀ o ys H', Kp [S] H1 H' → H' S = some (.lst (pre ++ ys)) → Tps H' ys (bpart (placesOf rows) codes ks n g0 (evs (placesOf rows) codes g0 codes.length)) → D.nx [some rv, some stv, some csv, some schv, some (.ref L), o, o6] H') :
    tForG S (iList K (tVar 4)) (gName 5) (tFrom S HW (200000 * n) (fun σ H Q => ∀ xs, H S = some (.lst xs) → tCons (tVar 0) (tCons (tVar 1) (tCons (tVar 2) (tCons (tVar 5) tNil))) σ H fun vs H1 => H1 S = some (.lst xs) ∧ SameBut S HW H1 ∧ spBehind n vs H1 (Q H1)))
      D [some rv, some stv, some csv, some schv, some (.ref L), o5, o6] H1 := by
  intro zs hz
  rw [hS] at hz
  cases hz
  have hxl : xs.length = (evs (placesOf rows) codes g0 codes.length).length := by rw [ta.length, List.length_map]
  have hev3 : (evs (placesOf rows) codes g0 codes.length).length ≤ 3 := Nat.le_trans evs_le co.1
  refine ⟨_, rfl, L, rfl, ⟨_, .of hL⟩, hS, ?_⟩
  refine forG_list (zs := xs) (fun i σ H' => ∃ o, σ = [some rv, some stv, some csv, some schv, some (.ref L), o, o6] ∧ Kp [S] H1 H' ∧ ∃ ys, H' S = some (.lst (pre ++ ys)) ∧ Tps H' ys (bpart (placesOf rows) codes ks n g0 ((evs (placesOf rows) codes g0 codes.length).take i)))
    ⟨_, rfl, Kp.refl _ _, [], by rw [List.append_nil]; exact hS, .nil⟩ (fun i σ H' _ h => ?_) (fun i x σ H' zs hx hzs h => ?_) (fun σ H' h => ?_)
  · obtain ⟨o, rfl, kk, _⟩ := h
    exact .of (kk.lst hL (by simpa using hLS))
  · obtain ⟨o, rfl, kk, ys, hS', tb⟩ := h
    rw [hS'] at hzs
    cases hzs
    have hi : i < (evs (placesOf rows) codes g0 codes.length).length := by rw [← hxl]; exact (List.getElem?_eq_some_iff.mp hx).1
    have hmem := List.getElem_mem hi
    have hei : (evs (placesOf rows) codes g0 codes.length)[i]? = some (evs (placesOf rows) codes g0 codes.length)[i] := List.getElem?_eq_getElem hi
    have hyl : ys.length ≤ 3 * 59049 := by
      rw [tb.length]
      refine Nat.le_trans (bpart_len co.1 hn11 _) (Nat.mul_le_mul_right _ ?_)
      rw [List.length_take]
      omega
    obtain ⟨x', hx', tx⟩ := ta.get (i := i) (d := natsD (ks ++ [(evs (placesOf rows) codes g0 codes.length)[i]])) (by rw [List.getElem?_map, hei]; rfl)
    rw [hx] at hx'
    cases hx'
    rw [take_snoc hei, bpart_snoc] 
    generalize (evs (placesOf rows) codes g0 codes.length)[i] = e at *
    have hek : e < codes.length := List.mem_range.mp (List.mem_filter.mp hmem).1
    have hev : (evK (placesOf rows) codes e g0).2 = true := (List.mem_filter.mp hmem).2
    refine ⟨hS', ?_⟩
    intro zs hzs
    rw [hS'] at hzs
    cases hzs
    refine ⟨by rw [List.length_append]; omega, ?_⟩
    intro zs hzs
    rw [hS'] at hzs
    cases hzs
    have e1 : runS (placesOf rows) codes (cfg0 codes c) (ks ++ [e]) = (evK (placesOf rows) codes e g0).1 := by rw [runS_snoc, hg0]
    refine ⟨_, rfl, _, rfl, _, rfl, _, rfl, hS', same_kp (kW.trans kk), rv, stv, csv, x, rows, c, codes, ks ++ [e], rfl, Tp.keep kk.tk _ _ tr, hlen, hok, Tp.keep kk.tk _ _ tst, Tp.keep kk.tk _ _ tcs, co, hc, hb, Tp.keep kk.tk _ _ tx, ?_, ?_, ?_, ?_⟩
    · intro j hj
      rcases List.mem_append.mp hj with q | q
      · exact hks j q
      · rw [List.mem_singleton.mp q]; exact hek
    · simp only [List.length_append, List.length_singleton]; omega
    · rw [e1]
      have := (evK_ok co okg hek).2.2 hev
      omega
    · rw [e1]
      intro ys2 H2 tk2 t2 hS2 hSB
      have kz := kp_same hSB hS' hS2
      exact ⟨_, rfl, kk.trans kz, ys ++ ys2, by rw [hS2, List.append_assoc], (Tps.keep kz.tk _ _ tb).append t2⟩
  · obtain ⟨o, rfl, kk, ys, hS', tb⟩ := h
    rw [hxl, List.take_length] at tb
    exact k _ _ _ kk hS' tb
section
variable {P : Program} {w : World} {base : Heap} {mg : Str → Option Value} {K : PySem.W.Frag}
theorem gok_behind_step {f : Addr} {fd : FuncData} {n k : Nat} (hk4 : 4 ≤ k) (hn11 : n ≤ 11) (B : Bn mg) (D : Def K mg "schedules_behind" sBehind ["cells", "state", "codes", "schedule"] f fd)
    (hH : Has P w K mg base "has_step" 6 ["cells", "state", "codes", "schedule", "k"] spHasStep) (h : GHas P w K mg base "schedules_behind" k (200000 * n) ["cells", "state", "codes", "schedule"] (spBehind n)) :
    GHas P w K mg base "schedules_behind" (k + 3) (200000 * (n + 1)) ["cells", "state", "codes", "schedule"] (spBehind (n + 1)) := by
  refine D.ghas (gfnJ_of D.fn scBehind (fun vs H Q h => ?_) (fun cdv A outer s H vs Q S pre HW g hr h' hS hcn old => ?_))
  · obtain ⟨_, _, _, _, _, _, _, _, rfl, _⟩ := h
    rfl
  · obtain ⟨rv, stv, csv, schv, rows, c, codes, ks, rfl, tr, hlen, hok, tst, tcs, co, hc, hb, tsch, hks, hkn, hm, kQ⟩ := h'
    have nd := scBehind.nd
    have tkW : TK H HW := fun b ys e => old b _ e
    refine ⟨_, gss_cons (gs_ps (ps_setLc (i := 4) (own := [("k", 6)]) (g := gName 6) (by rfl) nd rfl rfl (sw_true rfl rfl rfl (by decide +kernel)) (pi_range1 rfl B.range (pa_cons (pe_callB call_len_seq (by rfl) B.len PySem.boot_len (pa_cons (pv 2) pa_nil)) pa_nil))
        (blkOk_by (own := [("k", 6)]) (N := nBehind) (sc := defScope sBehind) (by decide +kernel)) (fun _ _ _ _ _ => pg_name (i := 6) nd rfl (.inl rfl))
        (fun _ _ _ _ _ => pts_one (pt_val (pe_has hH (hr.mono (by omega)) rfl (pa_cons (pv 0) (pa_cons (pv 1) (pa_cons (pv 2) (pa_cons (pv 3) (pa_cons (pv 6) pa_nil))))))))
        (te := tTup (StX.tStar K (tVar 3) (tCons (tVar 6) tNil))) (fun _ _ _ _ _ => pe_tup (StX.pa_star (pv 3) (pa_cons (pv 6) pa_nil)))))
      (gss_cons (gs_if (pt_cmpR (op_eqD hr.units) (pv 4) (pe_lst pa_nil) (nomark _)) (gss_one (gs_yield (pv 3))) gss_nil)
      (gss_one (gs_for rfl (pi_list (pv 4)) (pg_name (i := 5) nd rfl (.inl rfl))
        (gss_one (gs_yieldFrom (pgs_has h (hr.mono (by omega)) rfl (pa_cons (pv 0) (pa_cons (pv 1) (pa_cons (pv 2) (pa_cons (pv 5) pa_nil))))) hr))))), ?_⟩
    obtain ⟨ca, cvs, rfl, hca, tcv⟩ : ∃ ca cvs, csv = .ref ca ∧ H ca = some (.tup cvs) ∧ Tps H cvs (codes.map codeD) := by
      cases tcs with
      | tup a b => exact ⟨_, _, rfl, a, b⟩
    obtain ⟨sc, rfl, hsc⟩ := nats_of tsch
    have hcl : cvs.length = codes.length := by rw [tcv.length, List.length_map]
    have hc3 := co.1
    have okg := runS_ok co ks _ (cfg0_ok co hc hb) hks
    generalize hg0 : runS (placesOf rows) codes (cfg0 codes c) ks = g0 at *
    intro xs hxs
    rw [hS] at hxs
    cases hxs
    refine ⟨_, rfl, ca, _, rfl, .inr (.of (old _ _ hca)), _, rfl, by omega, by omega, fun D nD => ?_⟩
    have kD : Kp [] HW (upd HW D (.lst [])) := (Kp.refl [] HW).new nD
    have nSD : S ≠ D := fun z => by rw [z, nD] at hS; cases hS
    refine lc_range (n := cvs.length) (fun i H' => ∃ xs, Kp [D] (upd HW D (.lst [])) H' ∧ H' D = some (.lst xs) ∧ Tps H' xs ((evs (placesOf rows) codes g0 i).map fun k => natsD (ks ++ [k]))) ⟨[], Kp.refl _ _, upd_same, .nil⟩ (fun i H' hi h => ?_) (fun H' h => ?_)
    · obtain ⟨xs, kk, hD, ta⟩ := h
      have tk0 : TK H H' := fun b ys e => kk.tk _ _ (kD.tk _ _ (tkW b ys e))
      have hxl : xs.length ≤ 900 := by rw [ta.length, List.length_map]; have := evs_le (pl := placesOf rows) (codes := codes) (g := g0) (n := i); omega
      have hi' : i < codes.length := by omega
      refine ⟨rfl, _, rfl, _, rfl, _, rfl, _, rfl, _, rfl, ?_⟩
      refine ⟨rv, stv, .ref ca, .ref sc, rows, c, codes, ks, i, by rw [Int.zero_add]; rfl, Tp.keep tk0 _ _ tr, hlen, hok, Tp.keep tk0 _ _ tst, Tp.keep tk0 _ _ tcs, co, hc, hb, Tp.keep tk0 _ _ tsch, hks, hi', fun H2 k2 => ⟨_, rfl, ?_⟩⟩
      have hD2 := k2.lst hD (by simp)
      rw [hg0, evs_succ]
      have kk2 := kk.trans (k2.mono (S' := [D]) (by simp))
      cases hev : (evK (placesOf rows) codes i g0).2 with
      | false =>
        refine iteF ⟨xs, kk2, hD2, ?_⟩
        rw [if_neg (by decide), List.append_nil]
        exact Tps.keep k2.tk _ _ ta
      | true =>
        refine iteT ⟨_, rfl, sc, _, rfl, .inl (.of (k2.tk _ _ (tk0 _ _ hsc))), _, rfl, (by rw [List.length_append, List.length_map]; show ks.length + 1 ≤ sizeLine; rw [sizeLine_eq]; omega), fun t nt => ?_⟩
        have hDt := (upd_ne (ne_of_none hD2 nt) : (upd H2 t (.tup ((ks.map fun (j : Nat) => V.int j) ++ [.int (0 + (i : Nat))])) : Hp) D = _).trans hD2
        have ntD : t ≠ D := fun z => by subst z; rw [hD2] at nt; cases nt
        refine ⟨xs, hDt, small1000 (by omega), xs ++ [.ref t], (kk2.new nt).put (by simp) hDt (fun _ z => by cases z), upd_same, ?_⟩
        rw [if_pos rfl, List.map_append]
        have kz : TK H2 (upd (upd H2 t (.tup ((ks.map fun (j : Nat) => V.int j) ++ [.int (0 + (i : Nat))]))) D (.lst (xs ++ [.ref t]))) := fun c zs z => by
          rw [upd_ne (ne_of z hD2 (fun z => by cases z)), upd_ne (ne_of_none z nt)]
          exact z
        refine (Tps.keep kz _ _ (Tps.keep k2.tk _ _ ta)).snoc (nats_to ?_)
        rw [upd_ne ntD, upd_same, List.map_append, Int.zero_add]
        rfl
    · obtain ⟨xs, kk, hD, ta⟩ := h
      rw [hcl] at ta
      have k0 : Kp [] HW H' := ((kD.mono (S' := [D]) (by simp)).trans kk).drop (fun b hb => .inr (by rw [List.mem_singleton.mp hb]; exact nD))
      have hS' := k0.lst hS (by simp)
      refine ⟨hS', ?_⟩
      intro zs hzs
      rw [hS'] at hzs
      cases hzs
      refine ⟨_, rfl, (by show 0 ≤ sizeLine; rw [sizeLine_eq]; omega), fun E nE => ?_⟩
      have kE := (Kp.refl [] H').new (o := .lst []) nE
      have hDE := kE.lst hD (by simp)
      have hSE := kE.lst hS' (by simp)
      have kWE : Kp [S] HW (upd H' E (.lst [])) := (k0.trans kE).mono (by simp)
      have tk1 : TK H (upd H' E (.lst [])) := fun b ys e => kWE.tk _ _ (tkW b ys e)
      have hDS : D ≠ S := Ne.symm nSD
      have ta1 := Tps.keep kE.tk _ _ ta
      have em : ((evs (placesOf rows) codes g0 codes.length).map fun k => natsD (ks ++ [k])) = ((evs (placesOf rows) codes g0 codes.length).map fun k => ks ++ [k]).map natsD := by rw [List.map_map]; rfl
      refine ⟨_, _, .lst (.of hDE) (Tps.dp _ _ (em ▸ ta1)), .lst (.of upd_same) .nil, nats_shaped _, rfl, _, rfl, hSE, ?_⟩
      rw [list_eqv_nil]
      have hst := behind_step (n := n) co okg (by omega)
      by_cases hev : evs (placesOf rows) codes g0 codes.length = []
      · have hp0 : parts (placesOf rows) codes (behind (placesOf rows) codes (n - 1)) g0 codes.length = [] := by
          unfold parts
          rw [hev]
          rfl
        rw [if_pos hp0] at hst
        rw [hev]
        rw [if_pos (by rfl)]
        intro zs hzs
        rw [hSE] at hzs
        cases hzs
        refine ⟨by omega, _, rfl, hSE, same_kp kWE, ?_⟩
        have kS : Kp [S] HW (upd (upd H' E (.lst [])) S (.lst (pre ++ [.ref sc]))) := kWE.put (by simp) hSE (fun _ z => by cases z)
        have tkS := fun b ys e => kS.tk _ _ (tkW b ys e)
        have kz : TK (upd H' E (.lst [])) (upd (upd H' E (.lst [])) S (.lst (pre ++ [.ref sc]))) := TK.put hSE (fun _ z => by cases z)
        refine behindLoop hn11 kS (Tp.keep tkS _ _ tr) hlen hok (Tp.keep tkS _ _ tst) (Tp.keep tkS _ _ tcs) co hc hb hks hkn hg0 okg hm ((upd_ne hDS).trans hDE) hDS (Tps.keep kz _ _ ta1) upd_same (by rw [List.length_append, List.length_singleton]; omega) fun o ys H2 k2 h2 t2 => ?_
        rw [hev] at t2
        obtain rfl : ys = [] := by cases t2; rfl
        refine ⟨[.ref sc], by rw [h2, List.append_nil], same_kp (kS.trans k2), kQ _ _ (fun b ys e => k2.tk _ _ (tkS b ys e)) ?_⟩
        show Tps H2 _ ((behind (placesOf rows) codes n g0).map fun r => natsD (ks ++ r))
        rw [hst]
        refine .cons ?_ .nil
        show Tp H2 _ (natsD (ks ++ []))
        rw [List.append_nil]
        exact Tp.keep (fun b ys e => k2.tk _ _ (tkS b ys e)) _ _ tsch
      · have hp0 : ¬ parts (placesOf rows) codes (behind (placesOf rows) codes (n - 1)) g0 codes.length = [] := fun z => hev (parts_nil.mp z)
        rw [if_neg hp0] at hst
        rw [if_neg (by
          cases he : evs (placesOf rows) codes g0 codes.length with
          | nil => exact absurd he hev
          | cons e es => simp)]
        refine behindLoop hn11 kWE (Tp.keep tk1 _ _ tr) hlen hok (Tp.keep tk1 _ _ tst) (Tp.keep tk1 _ _ tcs) co hc hb hks hkn hg0 okg hm hDE hDS ta1 hSE (by omega) fun o ys H2 k2 h2 t2 => ?_
        refine ⟨ys, h2, same_kp (kWE.trans k2), kQ _ _ (fun b ys e => k2.tk _ _ (tk1 b ys e)) ?_⟩
        show Tps H2 _ ((behind (placesOf rows) codes n g0).map fun r => natsD (ks ++ r))
        rw [hst, ← bpart_all]
        exact t2
end
end Ork
end
section
set_option Elab.async false
set_option linter.all false
set_option maxRecDepth 100000
set_option pp.maxSteps 3000
namespace Ork
open PySem L2 PySem.Spec PyProof.Rows
section
variable {P : Program} {w : World} {base : Heap} {mg : Str → Option Value} {K : PySem.W.Frag}
theorem gok_behind0 {f : Addr} {fd : FuncData} (D : Def K mg "schedules_behind" sBehind ["cells", "state", "codes", "schedule"] f fd) : GHas P w K mg base "schedules_behind" 6 (200000 * 0) ["cells", "state", "codes", "schedule"] (spBehind 0) :=
  D.ghas ⟨fun vs H Q h => by obtain ⟨_, _, _, _, _, _, _, _, _, _, _, _, _, _, _, _, _, _, _, _, z, _⟩ := h; omega, fun A outer s H args us vs Q hr e0 hb r h => by obtain ⟨_, _, _, _, _, _, _, _, _, _, _, _, _, _, _, _, _, _, _, _, z, _⟩ := h; omega⟩
theorem gok_behind {f : Addr} {fd : FuncData} (B : Bn mg) (D : Def K mg "schedules_behind" sBehind ["cells", "state", "codes", "schedule"] f fd) (hH : Has P w K mg base "has_step" 6 ["cells", "state", "codes", "schedule", "k"] spHasStep) :
    ∀ n, n ≤ 12 → GHas P w K mg base "schedules_behind" (3 * n + 6) (200000 * n) ["cells", "state", "codes", "schedule"] (spBehind n)
  | 0, _ => gok_behind0 D
  | n + 1, hn => gok_behind_step (by omega) (by omega) B D hH (gok_behind B D hH n (by omega))
def spSched : SpJ := fun vs H Q => ∃ (rv stv csv : V) (rows : List Row) (c : List Int) (codes : List (List Ins)), vs = [rv, stv, csv] ∧ Tp H rv (rowsD rows) ∧ (placesOf rows).length ≤ 900 ∧ (∀ nm ∈ placesOf rows, nm.ok = true) ∧
  Tp H stv (intsD c) ∧ Tp H csv (codesD codes) ∧ CodesOk (placesOf rows) codes ∧ c.length = (placesOf rows).length ∧ (∀ v ∈ c, v.natAbs < 4) ∧
  ∀ ys H', TK H H' → Tps H' ys ((behind (placesOf rows) codes 10 (cfg0 codes c)).map natsD) → Q ys H'
theorem meas_cfg0 {pl : List Nm} {codes : List (List Ins)} {c : List Int} (co : CodesOk pl codes) : meas codes (cfg0 codes c) ≤ 10 := by
  show measL codes (codes.map fun _ => freshM) ≤ 10
  rw [measL_fresh]
  exact co.2.1
theorem gok_sched {f : Addr} {fd : FuncData} (D : Def K mg "schedules_of" sSchedOf ["cells", "state", "codes"] f fd) (hB : GHas P w K mg base "schedules_behind" 39 2200000 ["cells", "state", "codes", "schedule"] (spBehind 11)) :
    GFnJ P w K mg base 42 2400000 f fd ["cells", "state", "codes"] spSched := by
  refine gfnJ_of D.fn scSchedOf (fun vs H Q h => ?_) (fun cdv A outer s H vs Q S pre HW g hr h' hS hcn old => ?_)
  · obtain ⟨_, _, _, _, _, _, rfl, _⟩ := h
    rfl
  · obtain ⟨rv, stv, csv, rows, c, codes, rfl, tr, hlen, hok, tst, tcs, co, hc, hb, kQ⟩ := h'
    have nd := scSchedOf.nd
    have tkW : TK H HW := fun b ys e => old b _ e
    refine ⟨_, gss_one (gs_yieldFrom (pgs_has hB (hr.mono (by decide)) rfl (pa_cons (pv 0) (pa_cons (pv 1) (pa_cons (pv 2) (pa_cons (pe_tup pa_nil) pa_nil))))) hr), ?_⟩
    intro xs hxs
    rw [hS] at hxs
    cases hxs
    refine ⟨by omega, ?_⟩
    intro xs hxs
    rw [hS] at hxs
    cases hxs
    refine ⟨_, rfl, _, rfl, _, rfl, (by show 0 ≤ sizeLine; rw [sizeLine_eq]; omega), fun t nt => ?_⟩
    have k1 := (Kp.refl [] HW).new (o := .tup []) nt
    have hS1 := k1.lst hS (by simp)
    have kS : Kp [S] HW (upd HW t (.tup [])) := k1.mono (by simp)
    have tk1 : TK H (upd HW t (.tup [])) := fun b ys e => k1.tk _ _ (tkW b ys e)
    refine ⟨hS1, same_kp kS, rv, stv, csv, .ref t, rows, c, codes, [], rfl, Tp.keep tk1 _ _ tr, hlen, hok, Tp.keep tk1 _ _ tst, Tp.keep tk1 _ _ tcs, co, hc, hb, nats_to upd_same, (fun j hj => nomatch hj), by simp, ?_, ?_⟩
    · have := meas_cfg0 (c := c) co
      show meas codes (cfg0 codes c) < 11
      omega
    · intro ys H2 tk2 t2 hS2 hSB
      have kz := kp_same hSB hS1 hS2
      exact ⟨ys, hS2, same_kp (kS.trans kz), kQ _ _ (fun b zs e => tk2 _ _ (tk1 b zs e)) t2⟩
end
end Ork
end
section
set_option Elab.async false
set_option linter.all false
set_option maxRecDepth 100000
set_option pp.maxSteps 3000
namespace Ork
open PySem L2 PySem.Spec PyProof.Rows

/-- data that shows within a line: depth, weight -/
structure Ft (n w : Nat) (d : PyData) : Prop where
  lv : d.leavesShort 8 = true
  sh : d.showable = true
  ly : d.canLay0 = true
  dp : d.depth ≤ n
  wt : d.weight ≤ w
structure FtAll (n w : Nat) (d : List PyData) : Prop where
  lv : PyData.leavesShortAll 8 d = true
  sh : PyData.showableAll d = true
  ly : PyData.canLayAll0 d = true
  dp : PyData.depthAll d ≤ n
  wt : PyData.weightAll d ≤ w
theorem Ft.mono {n w n' w' : Nat} {d : PyData} (h : Ft n w d) (a : n ≤ n') (b : w ≤ w') : Ft n' w' d := ⟨h.lv, h.sh, h.ly, Nat.le_trans h.dp a, Nat.le_trans h.wt b⟩
theorem FtAll.mono {n w n' w' : Nat} {d : List PyData} (h : FtAll n w d) (a : n ≤ n') (b : w ≤ w') : FtAll n' w' d := ⟨h.lv, h.sh, h.ly, Nat.le_trans h.dp a, Nat.le_trans h.wt b⟩
theorem FtAll.nil {n w : Nat} : FtAll n w [] := ⟨rfl, rfl, rfl, by simp [PyData.depthAll], by simp [PyData.weightAll]⟩
theorem FtAll.cons {n w w' : Nat} {d : PyData} {ds : List PyData} (a : Ft n w d) (b : FtAll n w' ds) : FtAll n (w + 1 + w') (d :: ds) := by
  have h1 := a.dp
  have h2 := b.dp
  have h3 := a.wt
  have h4 := b.wt
  refine ⟨?_, ?_, ?_, ?_, ?_⟩
  · simp only [PyData.leavesShortAll, a.lv, b.lv, Bool.and_self]
  · simp only [PyData.showableAll, a.sh, b.sh, Bool.and_self]
  · simp only [PyData.canLayAll0, a.ly, b.ly, Bool.and_self]
  · simp only [PyData.depthAll]
    omega
  · simp only [PyData.weightAll]
    omega
theorem Ft.tuple {n w : Nat} {ds : List PyData} (a : FtAll n w ds) : Ft (n + 1) w (.tuple ds) := by
  have h1 := a.dp
  have h2 := a.wt
  refine ⟨?_, ?_, ?_, ?_, ?_⟩
  · simp only [PyData.leavesShort, a.lv]
  · simp only [PyData.showable, a.sh]
  · simp only [PyData.canLay0, a.ly]
  · simp only [PyData.depth]
    omega
  · simp only [PyData.weight]
    omega
theorem FtAll.map {α : Type} {f : α → PyData} {n w : Nat} : ∀ {l : List α}, (∀ x ∈ l, Ft n w (f x)) → FtAll n (l.length * (w + 1)) (l.map f)
  | [], _ => .nil
  | x :: l, h => (FtAll.cons (h x (List.mem_cons_self ..)) (FtAll.map fun y hy => h y (List.mem_cons_of_mem _ hy))).mono (Nat.le_refl _) (by rw [List.length_cons, Nat.add_mul]; omega)
theorem small_ints : ∀ i : Fin 17, (PyData.int ((i.val : Int) - 8)).leavesShort 8 = true ∧ (PyData.int ((i.val : Int) - 8)).showable = true ∧ (PyData.int ((i.val : Int) - 8)).weight ≤ 4 := by decide +kernel
theorem Ft.int {v : Int} (h : v.natAbs ≤ 8) : Ft 1 4 (.int v) := by
  have hb : (v + 8).toNat < 17 := by omega
  have e : (((v + 8).toNat : Nat) : Int) - 8 = v := by omega
  have q := small_ints ⟨_, hb⟩
  simp only [e] at q
  exact ⟨q.1, q.2.1, rfl, by simp [PyData.depth], q.2.2⟩
theorem Ft.str {x : Str} (h : PyData.strOk x = true) (hl : x.length ≤ 8) : Ft 1 8 (.str x) := by
  refine ⟨?_, rfl, ?_, by simp [PyData.depth], hl⟩
  · show x.cps.toList.all (fun c => decide (c < 16 ^ 8)) = true
    have h : x.cps.all (fun c => decide (c < 0x110000)) = true := h
    rw [List.all_eq_true]
    intro c hc
    rw [Array.all_eq_true'] at h
    have := of_decide_eq_true (h c (by simpa using hc))
    refine decide_eq_true ?_; omega
  · show PyData.canLay0 (.str x) = true
    simpa only [PyData.canLay0] using h
theorem nm_fit {rows : List Row} (ro : RowsOk rows) {n : Nm} (h : n ∈ placesOf rows) : Ft 2 20 n.toD := by
  obtain ⟨r, hr, h⟩ := List.mem_flatMap.mp h
  have h1 := ro.ok r hr
  have hs : r.size ≤ 4 := by
    obtain ⟨i, hi⟩ := List.mem_iff_getElem?.mp hr
    have := places_le hi
    have := ro.pl
    have h3 := places_len r
    split at h3 <;> omega
  unfold Row.places at h
  split at h
  · rw [List.mem_singleton] at h
    subst h
    exact (Ft.str h1.1 h1.2).mono (by decide) (by decide)
  · obtain ⟨i, hi, rfl⟩ := List.mem_map.mp h
    have hi := List.mem_range.mp hi
    exact (Ft.tuple (.cons (.str h1.1 h1.2) (.cons (.int (by omega)) (FtAll.nil (w := 0))))).mono (by decide) (by decide)
theorem Ft.strs : ∀ x ∈ (["load", "store", "loadat", "storeat", "const", "do", "unless", "jump", "end"] : List Str), Ft 1 8 (.str x) := fun x h => by
  simp only [List.mem_cons, List.not_mem_nil, or_false] at h
  rcases h with rfl | rfl | rfl | rfl | rfl | rfl | rfl | rfl | rfl <;> exact Ft.str (by decide +kernel) (by decide +kernel)
theorem Ft.op (o : Op) : Ft 1 8 (.str o.str) := by
  cases o <;> exact Ft.str (by decide +kernel) (by decide +kernel)
theorem ins_fit {rows : List Row} (ro : RowsOk rows) {len i : Nat} (hl : len ≤ 5) {ins : Ins} (h : InsOk (placesOf rows) len i ins) : Ft 3 60 ins.toD := by
  have z := FtAll.nil (n := 1) (w := 0)
  have z2 := FtAll.nil (n := 2) (w := 0)
  have up : ∀ {w : Nat} {d : PyData}, Ft 1 w d → Ft 2 w d := fun h => h.mono (by decide) (Nat.le_refl _)
  have inm : ∀ {n : Nm}, (idx (placesOf rows) n).isSome = true → Ft 2 20 n.toD := fun {n} h => by
    obtain ⟨j, hj⟩ := Option.isSome_iff_exists.mp h
    exact nm_fit ro (List.mem_of_getElem? (idx_get hj).1)
  cases ins with
  | load r n => exact (Ft.tuple (.cons (up (Ft.strs _ (by simp))) (.cons (up (.int (by have := h.1; omega))) (.cons (inm h.2) z2)))).mono (by decide) (by decide)
  | store n r => exact (Ft.tuple (.cons (up (Ft.strs _ (by simp))) (.cons (inm h.2) (.cons (up (.int (by have := h.1; omega))) z2)))).mono (by decide) (by decide)
  | loadat r t s => exact (Ft.tuple (.cons (Ft.strs _ (by simp)) (.cons (.int (by have := h.1; omega)) (.cons (.str h.2.2.1 h.2.2.2) (.cons (.int (by have := h.2.1; omega)) z))))).mono (by decide) (by decide)
  | storeat t s r => exact (Ft.tuple (.cons (Ft.strs _ (by simp)) (.cons (.str h.2.2.1 h.2.2.2) (.cons (.int (by have := h.2.1; omega)) (.cons (.int (by have := h.1; omega)) z))))).mono (by decide) (by decide)
  | const r v => exact (Ft.tuple (.cons (Ft.strs _ (by simp)) (.cons (.int (by have := h.1; omega)) (.cons (.int (by have := h.2; omega)) z)))).mono (by decide) (by decide)
  | op o r a b => exact (Ft.tuple (.cons (Ft.strs _ (by simp)) (.cons (Ft.op o) (.cons (.int (by have := h.1; omega)) (.cons (.int (by have := h.2.1; omega)) (.cons (.int (by have := h.2.2; omega)) z)))))).mono (by decide) (by decide)
  | «unless» s j => exact (Ft.tuple (.cons (Ft.strs _ (by simp)) (.cons (.int (by have := h.1; omega)) (.cons (.int (by have := h.2.2; omega)) z)))).mono (by decide) (by decide)
  | jump j => exact (Ft.tuple (.cons (Ft.strs _ (by simp)) (.cons (.int (by have := h.2; omega)) z))).mono (by decide) (by decide)
  | fin => exact (Ft.tuple (.cons (Ft.strs _ (by simp)) z)).mono (by decide) (by decide)
theorem code_fit {rows : List Row} (ro : RowsOk rows) {code : List Ins} (h : CodeOk (placesOf rows) code) : Ft 4 400 (codeD code) := by
  refine (Ft.tuple (FtAll.map (n := 3) (w := 60) fun ins hi => ?_)).mono (Nat.le_refl _) (by have := h.1; omega)
  obtain ⟨i, hi⟩ := List.mem_iff_getElem?.mp hi
  exact ins_fit ro h.1 (h.2 i ins hi)
theorem codes_fit {rows : List Row} (ro : RowsOk rows) {codes : List (List Ins)} (h : CodesOk (placesOf rows) codes) : Ft 5 2000 (codesD codes) :=
  (Ft.tuple (FtAll.map (n := 4) (w := 400) fun code hi => code_fit ro (h.2.2 code hi))).mono (Nat.le_refl _) (by have := h.1; omega)
def Shows (d : PyData) : Prop := d.showable = true ∧ d.hasDict = false ∧ d.depth ≤ 60 ∧ d.shown.length ≤ sizeLine
theorem Ft.shows {n w : Nat} {d : PyData} (h : Ft n w d) (hn : n ≤ 60) (hw : w ≤ 100000) : Shows d := by
  refine ⟨h.sh, PyData.hasDict_of_canLay d h.ly, Nat.le_trans h.dp hn, ?_⟩
  have h1 := PyData.shown_le 8 (by decide) d h.lv
  have h2 := h.wt
  rw [sizeLine_eq]
  omega
theorem both_shows {rows : List Row} (ro : RowsOk rows) (hr : Ft 5 2000 (rowsD rows)) {codes : List (List Ins)} (h : CodesOk (placesOf rows) codes) : Shows (.tuple [rowsD rows, codesD codes]) :=
  (Ft.tuple (.cons hr (.cons (codes_fit ro h) (FtAll.nil (w := 0))))).shows (by decide) (by decide)
/-! ### the schedules -/
theorem nat_ft {k : Nat} (h : k < 3) : Ft 1 4 (.int (k : Nat)) := .int (by omega)
theorem nats_ft {r : List Nat} (h : ∀ k ∈ r, k < 3) : Ft 2 (r.length * 5) (natsD r) := .tuple (.map fun k hk => nat_ft (h k hk))
theorem sum_bd {α : Type} (f : α → Nat) (b : Nat) : ∀ (l : List α), (∀ x ∈ l, f x ≤ b) → (l.map f).sum ≤ l.length * b
  | [], _ => by simp
  | x :: l, h => by
    have hx := h x (List.mem_cons_self ..)
    have h2 := sum_bd f b l fun y hy => h y (List.mem_cons_of_mem _ hy)
    simp only [List.map_cons, List.sum_cons, List.length_cons, Nat.add_mul]
    omega
theorem shownAll_map {α : Type} (f : α → PyData) : ∀ l : List α, PyData.shownAll (l.map f) = l.map fun x => (f x).shown
  | [] => rfl
  | x :: l => by simp only [List.map_cons, PyData.shownAll, shownAll_map f l]
theorem digit_len : ∀ k : Fin 3, (PyData.int (k.val : Int)).shown.length ≤ 1 := by decide +kernel
theorem nats_len {r : List Nat} (h : ∀ k ∈ r, k < 3) (hl : r.length ≤ 10) : (natsD r).shown.length ≤ 33 := by
  show (tupleText (PyData.shownAll (r.map fun (k : Nat) => PyData.int k))).length ≤ 33
  rw [shownAll_map]
  refine Nat.le_trans (tupleText_len_le _) ?_
  rw [List.map_map, List.length_map]
  have := sum_bd (fun k : Nat => (PyData.int (k : Nat)).shown.length) 1 r fun k hk => digit_len ⟨k, h k hk⟩
  show (r.map fun k : Nat => (PyData.int (k : Nat)).shown.length).sum + 2 * r.length + 3 ≤ 33
  omega
theorem behind_shows {pl : List Nm} {codes : List (List Ins)} {g : Cfg} (hc : codes.length ≤ 3) : Shows (.list ((behind pl codes 10 g).map natsD)) := by
  have hin : ∀ r ∈ behind pl codes 10 g, r.length ≤ 10 ∧ ∀ k ∈ r, k < 3 := fun r hr => by
    obtain ⟨h1, h2⟩ := behind_in 10 g r hr
    exact ⟨h1, fun k hk => Nat.lt_of_lt_of_le (h2 k hk) hc⟩
  have ft : FtAll 2 ((behind pl codes 10 g).length * (50 + 1)) ((behind pl codes 10 g).map natsD) := .map fun r hr => (nats_ft (hin r hr).2).mono (Nat.le_refl _) (by have := (hin r hr).1; omega)
  have hb : (behind pl codes 10 g).length ≤ 59049 := Nat.le_trans (behind_len hc 10 g) (by decide)
  refine ⟨?_, ?_, ?_, ?_⟩
  · show PyData.showable (.list _) = true
    simp only [PyData.showable, ft.sh]
  · exact PyData.hasDict_of_canLay _ (by simp only [PyData.canLay0, ft.ly])
  · have := ft.dp
    simp only [PyData.depth]
    omega
  · show (listText (PyData.shownAll ((behind pl codes 10 g).map natsD))).length ≤ sizeLine
    rw [shownAll_map]
    refine Nat.le_trans (listText_len_le _) ?_
    rw [List.map_map, List.length_map]
    have := sum_bd (fun r : List Nat => (natsD r).shown.length) 33 (behind pl codes 10 g) fun r hr => nats_len (hin r hr).2 (hin r hr).1
    show ((behind pl codes 10 g).map fun r : List Nat => (natsD r).shown.length).sum + 2 * (behind pl codes 10 g).length + 3 ≤ sizeLine
    rw [sizeLine_eq]
    omega
end Ork
end
section
set_option Elab.async false
set_option linter.all false
set_option maxRecDepth 100000
set_option pp.maxSteps 3000
namespace Ork
open PySem L2 PySem.Spec PyProof.Rows

/-- [_law_fresh() for _law_lines in _law_sheets] -/
theorem freshes {K : PySem.W.Frag} {a0 a1 a3 a4 a5 a6 : Option V} {sp : Addr} {svs : List V} {codes : List (List Ins)} {Hs : Hp} {Q : V → Hp → Prop} (hsp : Hs sp = some (.tup svs)) (hsl : svs.length = codes.length) (hl : codes.length ≤ 1000)
    (k : ∀ (D : Addr) (fps : List (Addr × Addr)) (H' : Hp), Kp [] Hs H' → Hs D = none → H' D = some (.lst (fps.map fun p => V.ref p.1)) → MsAt H' fps (codes.map fun _ => freshM) → Q (.ref D) H') :
    tLc (iTup K (tVar 2)) (gName 6) tYes (tCall spFresh [] E0 tNil) [6] [a0, a1, some (.ref sp), a3, a4, a5, a6] Hs Q := by
  refine ⟨_, rfl, sp, rfl, ⟨_, .of hsp⟩, fun D nD => ?_⟩
  have kD : Kp [] Hs (upd Hs D (.lst [])) := (Kp.refl [] Hs).new nD
  refine lc_tup (xs := svs) (fun i H' => ∃ fps : List (Addr × Addr), fps.length = i ∧ Kp [D] (upd Hs D (.lst [])) H' ∧ H' D = some (.lst (fps.map fun p => V.ref p.1)) ∧
    (∀ (j : Nat) (p : Addr × Addr), fps[j]? = some p → LM H' p.1 p.2 freshM 0) ∧ ∀ a ∈ flat fps, (upd Hs D (.lst []) : Hp) a = none) ⟨[], rfl, Kp.refl _ _, upd_same, fun j p h => by simp at h, fun a h => by simp [flat] at h⟩ (fun i H' _ h => ?_) (fun i x H' hx h => ?_) (fun H' h => ?_)
  · obtain ⟨fps, e, kk, _⟩ := h
    exact .of (kk.tk _ _ (kD.tk _ _ hsp))
  · obtain ⟨fps, e, kk, hD, hl', fr⟩ := h
    have hi : i < svs.length := (List.getElem?_eq_some_iff.mp hx).1
    have eD : ∀ a, (upd Hs D (.lst []) : Hp) a = none → a ≠ D := fun a z e => by subst e; rw [upd_same] at z; cases z
    refine ⟨rfl, rfl, fun o2 sl2 H2 k2 n1 n2 l2 => ?_⟩
    have hD2 := k2.same _ _ hD (by simp)
    refine ⟨_, hD2, by rw [List.length_map]; exact small1000 (by omega), fps ++ [(o2, sl2)], by rw [List.length_append]; simp [e], ?_, ?_, ?_, ?_⟩
    · exact (kk.trans (k2.mono (by simp))).put (by simp) hD2 (fun _ z => by cases z)
    · rw [upd_same, List.map_append]
      rfl
    · intro j q hq
      rcases Nat.lt_or_ge j fps.length with hjl | hjl
      · rw [List.getElem?_append_left hjl] at hq
        have hmem := List.mem_of_getElem? hq
        exact ((hl' j q hq).kp k2 (by simp) (by simp)).keep (upd_ne (eD _ (fr q.1 (mem_flat.mpr ⟨q, hmem, .inl rfl⟩)))) (upd_ne (eD _ (fr q.2 (mem_flat.mpr ⟨q, hmem, .inr rfl⟩))))
      · have ej : j = i := by
          have := (List.getElem?_eq_some_iff.mp hq).1
          rw [List.length_append] at this
          simp at this
          omega
        subst ej
        rw [List.getElem?_append_right (by omega), e] at hq
        simp at hq
        subst hq
        exact l2.keep (upd_ne (eD _ (kk.dom _ n1))) (upd_ne (eD _ (kk.dom _ n2)))
    · intro a ha
      rw [flat_snoc, List.mem_append] at ha
      rcases ha with ha | ha
      · exact fr a ha
      · simp at ha
        rcases ha with rfl | rfl
        · exact kk.dom _ n1
        · exact kk.dom _ n2
  · obtain ⟨fps, e, kk, hD, hl', fr⟩ := h
    have k0 : Kp [] Hs H' := ((kD.mono (S' := [D]) (by simp)).trans kk).drop (fun b hb => .inr (by rw [List.mem_singleton.mp hb]; exact nD))
    refine k D fps H' k0 nD hD ⟨by rw [e, hsl, List.length_map], fun i p m h1 h2 => ?_⟩
    have em : m = freshM := by
      rw [List.getElem?_map] at h2
      obtain ⟨_, _, e⟩ := Option.map_eq_some_iff.mp h2
      exact e.symm
    subst em
    exact hl' i p h1
theorem ne_self (v : V) : (!decide (v = v)) = false := by simp
def gV3 : List V → List V → List V
  | [], [a, b, c] => [c, b, a]
  | _, _ => []
def gL3 : List Value → List Value → List Value
  | [], [a, b, c] => [c, b, a]
  | _, _ => []
def spRight : Sp := fun vs H Q _ => ∃ (rv stv csv : V) (nb : Bool) (rows : List Row) (c : List Int) (codes : List (List Ins)), vs = [rv, stv, csv, .bl nb] ∧ Tp H rv (rowsD rows) ∧ RowsOk rows ∧ Ft 5 2000 (rowsD rows) ∧ Tp H stv (intsD c) ∧ c.length = (placesOf rows).length ∧
  (∀ v ∈ c, v.natAbs < 4) ∧ Tp H csv (codesD codes) ∧ CodesOk (placesOf rows) codes ∧ ∀ H', Kp [] H H' → Q (.bl true) H'
section
variable {P : Program} {w : World} {base : Heap} {mg : Str → Option Value} {K : PySem.W.Frag}
theorem fnj_right {f fS : Addr} {fd fdS : FuncData} (B : Bn mg) (D : Def K mg "_law_is_right" sLRight ["_law_rows_here", "_law_stand", "_law_sheets", "_law_is_named"] f fd)
    (DS : Def K mg "schedules_of" sSchedOf ["cells", "state", "codes"] fS fdS) (kb : KBinds K fdS ["cells", "state", "codes"] ["codes", "state", "cells"] gL3 gV3)
    (hS : GFnJ P w K mg base 42 2400000 fS fdS ["cells", "state", "codes"] spSched) (hP : Has P w K mg base "_law_places" 1 ["_law_rows_here"] (spPlaces P w)) (hF : Has P w K mg base "_law_fresh" 1 [] spFresh)
    (hA : Has P w K mg base "_law_all" 20 ["_law_places_here", "_law_sheets", "_law_machines", "_law_values"] (spAll P w 11)) :
    FnJ P w K mg base 46 f fd ["_law_rows_here", "_law_stand", "_law_sheets", "_law_is_named"] spRight := by
  refine Ork.Fun.okJ D.fn scLRight (fun vs H Q E h => ?_) (fun cdv A outer s H vs Q E hr hgd h => ?_)
  · obtain ⟨_, _, _, _, _, _, _, rfl, _⟩ := h
    rfl
  · obtain ⟨rv, stv, csv, nb, rows, c, codes, rfl, tr, ro, fr, tst, hc, hb, tcs, co, k⟩ := h
    have nd := scLRight.nd
    have hu := hu_of hr
    refine ⟨_, jss_cons (JS.of (ps_set (i := 4) nd rfl (.inl rfl) (pe_callB (call_repr hgd (room70 hr)) rfl B.repr (by decide +kernel) (pa_cons (pe_tup (pa_cons (pv 0) (pa_cons (pv 2) pa_nil))) pa_nil))))
      (jss_cons (JS.of (ps_set (i := 5) nd rfl (.inl rfl) (pe_callB (call_repr hgd (room70 hr)) rfl B.repr (by decide +kernel) (pa_cons (pe_has hA (hr.mono (by decide)) rfl (pa_cons (pe_has hP (hr.mono (by decide)) rfl (pa_cons (pv 0) pa_nil)) (pa_cons (pv 2)
          (pa_cons (pe_lc (own := [("_law_lines", 6)]) (g := gName 6) (tt := tYes) (by rfl) nd (pi_tup (pv 2)) (blkOk_by (own := [("_law_lines", 6)]) (N := nLRight) (sc := defScope sLRight) (by decide +kernel)) (fun _ _ _ _ _ => pg_name (i := 6) nd rfl (.inl rfl)) (fun _ _ _ _ _ => pts_nil) (fun _ _ _ _ _ => pe_has0 hF (hr.mono (by decide)) rfl))
          (pa_cons (pe_callTy call_list_of (by rfl) B.list (by decide +kernel) (pa_cons (pv 1) pa_nil)) pa_nil))))) pa_nil))))
      (jss_cons (js_if (jt_cmpR op_ne (je_callB (call_repr hgd (room70 hr)) rfl B.repr (by decide +kernel) (je_listG (pgj_call hS (hr.mono (by decide)) rfl DS.nm DS.fn.kp DS.bi (pa_cons (pv 0) (pa_cons (pv 1) (pa_cons (pv 2) pa_nil)))) (by rw [sizeLine_eq]; decide) hr rfl B.list)) (pv 5) (nomark _))
          (jss_one (JS.of (ps_ret pe_bl))) jss_nil)
      (jss_cons (js_if (jt_and2 (JT.of (pt_val (pv 3))) (jt_cmpR op_ne (je_callB (call_repr hgd (room70 hr)) rfl B.repr (by decide +kernel) (je_listG (pgj_callK0 hS (hr.mono (by decide)) rfl DS.nm DS.fn.kp kb (pk_cons (pv 2) (pk_cons (pv 1) (pk_cons (pv 0) pk_nil)))) (by rw [sizeLine_eq]; decide) hr rfl B.list)) (pv 5) (nomark _)))
          (jss_one (JS.of (ps_ret pe_bl))) jss_nil)
      (jss_one (JS.of (ps_ret (pe_cmpR op_eq (pe_callB (call_repr hgd (room70 hr)) rfl B.repr (by decide +kernel) (pa_cons (pe_tup (pa_cons (pv 0) (pa_cons (pv 2) pa_nil))) pa_nil)) (pv 4) (nomark _)))))))), ?_⟩
    obtain ⟨sa, rfl, hsa⟩ := ints_of tst
    obtain ⟨ca, cvs, rfl, hca, tcv⟩ : ∃ ca cvs, csv = .ref ca ∧ H ca = some (.tup cvs) ∧ Tps H cvs (codes.map codeD) := by
      cases tcs with
      | tup a b => exact ⟨_, _, rfl, a, b⟩
    have hcl : cvs.length = codes.length := by rw [tcv.length, List.length_map]
    have hc3 := co.1
    have hpl := ro.pl
    have hnm : ∀ nm ∈ placesOf rows, nm.ok = true := fun nm hn => by
      obtain ⟨r, hr, h⟩ := List.mem_flatMap.mp hn
      have h1 := (ro.ok r hr).1
      unfold Row.places at h
      split at h
      · rw [List.mem_singleton] at h
        subst h
        exact h1
      · obtain ⟨i, _, rfl⟩ := List.mem_map.mp h
        exact h1
    obtain ⟨w1, w2, w3, w4⟩ := both_shows ro fr co
    obtain ⟨b1, b2, b3, b4⟩ := behind_shows (pl := placesOf rows) (codes := codes) (g := cfg0 codes c) hc3
    refine ⟨_, rfl, _, rfl, (by show 2 ≤ sizeLine; rw [sizeLine_eq]; omega), fun t nt => ⟨t, .tuple [rowsD rows, codesD codes], rfl, ?_, w1, w2, w3, w4, ?_⟩⟩
    · exact .tup (.of upd_same) (.cons (Tp.dp _ _ (Tp.keep (TK.new nt) _ _ tr)) (.cons (Tp.dp _ _ (Tp.keep (TK.new nt) _ _ tcs)) .nil))
    have k1 := (Kp.refl [] H).new (o := .tup [rv, .ref ca]) nt
    generalize (upd H t (.tup [rv, .ref ca]) : Hp) = H1 at k1
    refine ⟨_, rfl, rv, rows, rfl, Tp.keep k1.tk _ _ tr, ro.nodup, by omega, fun d H2 k2 nd2 md2 => ?_⟩
    have k12 := k1.trans k2
    refine ⟨_, rfl, freshes (k12.tk _ _ hca) hcl (by omega) fun L fps H3 k3 nL hL ms => ?_⟩
    have k13 := k12.trans k3
    refine ⟨_, rfl, sa, _, rfl, .inr (.of (k13.tk _ _ hsa)), fun cl ncl => ?_⟩
    have k34 := (Kp.refl [] H3).new (o := .lst (c.map V.int)) ncl
    have k14 := k13.trans k34
    have ok0 := cfg0_ok co hc hb
    have hm0 := meas_cfg0 (c := c) co
    refine ⟨d, .ref ca, L, cl, placesOf rows, codes, cfg0 codes c, fps, rfl, md2.kp (k3.trans k34) (by simp), Tp.keep k14.tk _ _ tcs, co, ok0, by omega, k34.lst hL (by simp), ms.kp k34, upd_same, fun p xs H5 k5 np hp t5 => ?_⟩
    refine ⟨p, .list ((behind (placesOf rows) codes 10 (cfg0 codes c)).map natsD), rfl, .lst (.of hp) (Tps.dp _ _ t5), b1, b2, b3, b4, ?_⟩
    have k15 := k14.trans k5
    have kpS : ∀ {S : Addr} {Ha Hb : Hp} {ys : List V}, Ha S = none → Hb S = some (.lst ys) → SameBut S Ha Hb → Kp [] Ha Hb := fun {S Ha Hb ys} n1 n2 sb => ⟨fun b o e _ => sb b o (fun z => by rw [z, n1] at e; cases e) e, fun b zs e => sb b _ (fun z => by rw [z, n1] at e; cases e) e, fun b e => by
      cases q : Ha b with
      | none => rfl
      | some o => rw [sb b o (fun z => by rw [z, n1] at q; cases q) q] at e; cases e⟩
    have kk := k15
    clear k34 k14 k5 t5 np hp
    refine ⟨_, rfl, _, rfl, _, rfl, rv, .ref sa, .ref ca, rows, c, codes, rfl, Tp.keep kk.tk _ _ tr, by omega, hnm, Tp.keep kk.tk _ _ tst, Tp.keep kk.tk _ _ tcs, co, hc, hb, fun ys H6 tk6 t6 S nS hS sb => ?_⟩
    have k6 := kk.trans (kpS nS hS sb)
    refine ⟨S, .list ((behind (placesOf rows) codes 10 (cfg0 codes c)).map natsD), rfl, .lst (.of hS) (Tps.dp _ _ t6), b1, b2, b3, b4, _, rfl, rfl, _, rfl, ?_⟩
    rw [ne_self]
    refine iteF ?_
    cases nb with
    | false =>
      refine ⟨_, rfl, false, rfl, ?_⟩
      refine iteF ?_
      refine iteF ?_
      refine ⟨_, rfl, _, rfl, (by show 2 ≤ sizeLine; rw [sizeLine_eq]; omega), fun t nt => ⟨t, .tuple [rowsD rows, codesD codes], rfl, ?_, w1, w2, w3, w4, _, rfl, rfl, ?_⟩⟩
      · exact .tup (.of upd_same) (.cons (Tp.dp _ _ (Tp.keep (TK.new nt) _ _ (Tp.keep k6.tk _ _ tr))) (.cons (Tp.dp _ _ (Tp.keep (TK.new nt) _ _ (Tp.keep k6.tk _ _ tcs))) .nil))
      · show Q (.bl (decide (_ = _))) _
        rw [decide_eq_true rfl]
        exact k _ (k6.new nt)
    | true =>
      refine ⟨_, rfl, true, rfl, ?_⟩
      refine iteT ?_
      refine ⟨_, rfl, _, rfl, _, rfl, rv, .ref sa, .ref ca, rows, c, codes, rfl, Tp.keep k6.tk _ _ tr, by omega, hnm, Tp.keep k6.tk _ _ tst, Tp.keep k6.tk _ _ tcs, co, hc, hb, fun ys H7 tk7 t7 S nS hS sb => ?_⟩
      have k7 := k6.trans (kpS nS hS sb)
      refine ⟨S, .list ((behind (placesOf rows) codes 10 (cfg0 codes c)).map natsD), rfl, .lst (.of hS) (Tps.dp _ _ t7), b1, b2, b3, b4, _, rfl, rfl, _, rfl, ?_⟩
      rw [ne_self]
      refine iteF ?_
      refine ⟨_, rfl, _, rfl, (by show 2 ≤ sizeLine; rw [sizeLine_eq]; omega), fun t nt => ⟨t, .tuple [rowsD rows, codesD codes], rfl, ?_, w1, w2, w3, w4, _, rfl, rfl, ?_⟩⟩
      · exact .tup (.of upd_same) (.cons (Tp.dp _ _ (Tp.keep (TK.new nt) _ _ (Tp.keep k7.tk _ _ tr))) (.cons (Tp.dp _ _ (Tp.keep (TK.new nt) _ _ (Tp.keep k7.tk _ _ tcs))) .nil))
      · show Q (.bl (decide (_ = _))) _
        rw [decide_eq_true rfl]
        exact k _ (k7.new nt)
end
end Ork
end
section
set_option Elab.async false
set_option linter.all false
set_option maxRecDepth 100000
set_option pp.maxSteps 3000
namespace Ork
open PySem L2 PySem.Spec PyProof.Rows

/-! ### displays of data, under what is known -/
structure Stays (C : L2.St → Hp → Prop) : Prop where
  kp : ∀ σ H H', Kp [] H H' → C σ H → C σ H'
def tD (C : L2.St → Hp → Prop) (d : PyData) : TE := fun σ H Q => C σ H ∧ ∀ v H', Kp [] H H' → Tp H' v d → Q v H'
def tDs (C : L2.St → Hp → Prop) (ds : List PyData) : TA := fun σ H Q => C σ H ∧ ∀ vs H', Kp [] H H' → Tps H' vs ds → Q vs H'
section
variable {X : Cx} {C : L2.St → Hp → Prop} {e : Expr} {es : List Expr} {d : PyData} {ds : List PyData} {p pos : Pos} {te : TE}
theorem pe_le {t' : TE} (h : PE X e te) (f : ∀ σ H Q, t' σ H Q → te σ H Q) : PE X e t' := ⟨fun pins s σ H Q I q => h.run pins s σ H Q I (f _ _ _ q)⟩
theorem pa_le {ta t' : TA} (h : PA X es ta) (f : ∀ σ H Q, t' σ H Q → ta σ H Q) : PA X es t' := ⟨fun pos pins s σ H Q I q => h.run pos pins s σ H Q I (f _ _ _ q)⟩
theorem pd_str {x : Str} {j : Nat} : PE X (.Constant (.str x) j pos) (tD C (.str x)) := pe_le pe_str fun σ H Q h => h.2 _ _ (Kp.refl _ _) (.str _)
theorem pd_int {i : Int} {j : Nat} : PE X (.Constant (.int i) j pos) (tD C (.int i)) := pe_le pe_int fun σ H Q h => h.2 _ _ (Kp.refl _ _) (.int _)
theorem pd_bl {i : Bool} {j : Nat} : PE X (.Constant (.bool i) j pos) (tD C (.bool i)) := pe_le pe_bl fun σ H Q h => h.2 _ _ (Kp.refl _ _) (.bl _)
theorem pd_of {i : Nat} (h : PE X e (tVar i)) (hC : ∀ σ H, C σ H → ∃ v, σ[i]? = some (some v) ∧ Tp H v d) : PE X e (tD C d) := pe_le h fun σ H Q h => by
  obtain ⟨v, e, t⟩ := hC _ _ h.1
  exact ⟨v, e, h.2 _ _ (Kp.refl _ _) t⟩
theorem pds_nil : PA X [] (tDs C []) := pa_le pa_nil fun σ H Q h => h.2 _ _ (Kp.refl _ _) .nil
theorem pds_cons (hC : Stays C) (a : PE X e (tD C d)) (b : PA X es (tDs C ds)) (hs : starEach (e :: es) X.env = (false, eval e X.env) :: starEach es X.env := by rfl) : PA X (e :: es) (tDs C (d :: ds)) :=
  pa_le (pa_cons a b hs) fun σ H Q h => ⟨h.1, fun v H1 k1 t1 => ⟨hC.kp _ _ _ k1 h.1, fun vs H2 k2 t2 => h.2 _ _ (k1.trans k2) (.cons (Tp.keep k2.tk _ _ t1) t2)⟩⟩
theorem pd_tup {x1} (a : PA X es (tDs C ds)) (hl : ds.length ≤ 1000 := by decide) : PE X (.Tuple es x1 pos) (tD C (.tuple ds)) :=
  pe_le (pe_tup a) fun σ H Q h => ⟨h.1, fun vs H1 k1 t1 => ⟨(by rw [t1.length, sizeLine_eq]; omega), fun q nq => h.2 _ _ (k1.new nq) (Tp.new nq t1)⟩⟩
end
def CT : L2.St → Hp → Prop := fun _ _ => True
theorem ct : Stays CT := ⟨fun _ _ _ _ h => h⟩

/-! ### the fixed sheets -/
def cOne : List Ins := [.load 0 (.sc "x")]
def cFault : List Ins := [.load 0 (.sc "x"), .op .div 0 0 1, .store (.sc "y") 0]
def cTest : List Ins := [.load 0 (.sc "x"), .unless 0 3, .store (.sc "y") 0, .fin]
def cLast : List Ins := [.const 1 1, .store (.sc "x") 1]
def fixedSheets : List (List (List Ins)) := [[[]], [cOne, cOne, cOne], [cFault, cOne], [cTest, cLast], [[], cOne]]
instance decIns (pl : List Nm) (len i : Nat) (ins : Ins) : Decidable (InsOk pl len i ins) := by
  cases ins <;> (unfold InsOk; infer_instance)
theorem codeOk_of {pl : List Nm} {code : List Ins} (h1 : code.length ≤ 5) (h2 : ∀ i : Fin code.length, InsOk pl code.length i.val code[i]) : CodeOk pl code := by
  refine ⟨h1, fun i ins h => ?_⟩
  obtain ⟨hi, rfl⟩ := List.getElem?_eq_some_iff.mp h
  exact h2 ⟨i, hi⟩
theorem fixed_ok : ∀ codes ∈ fixedSheets, CodesOk (placesOf rowSetF) codes := by
  have h : ∀ codes ∈ fixedSheets, codes.length ≤ 3 ∧ (codes.map List.length).sum ≤ 10 ∧ ∀ code ∈ codes, code.length ≤ 5 ∧ ∀ i : Fin code.length, InsOk (placesOf rowSetF) code.length i.val code[i] := by decide +kernel
  exact fun codes hc => ⟨(h codes hc).1, (h codes hc).2.1, fun code hd => codeOk_of ((h codes hc).2.2 code hd).1 ((h codes hc).2.2 code hd).2⟩
theorem ft_of {n w : Nat} {d : PyData} (h : (d.leavesShort 8 && d.showable && d.canLay0 && decide (d.depth ≤ n) && decide (d.weight ≤ w)) = true) : Ft n w d := by
  simp only [decide_eq_true_eq, Bool.and_eq_true] at h
  exact ⟨h.1.1.1.1, h.1.1.1.2, h.1.1.2, h.1.2, h.2⟩
theorem rowsF_fit : Ft 5 2000 (rowsD rowSetF) := ft_of (by decide +kernel)
structure RowsFit (rows : List Row) : Prop where
  ok : RowsOk rows
  ft : Ft 5 2000 (rowsD rows)
  pl : (placesOf rows).length ≤ 6
  rg : ∀ r ∈ rows, (-1000 : Int) ≤ r.lo ∧ r.lo ≤ 1000 ∧ r.hi ≤ 1000 ∧ (-1000 : Int) ≤ r.hi
  ne : 1 ≤ (statesOf rows).length
  len : (statesOf rows).length ≤ 900
  st : ∀ c ∈ statesOf rows, c.length = (placesOf rows).length ∧ ∀ v ∈ c, v.natAbs < 4
theorem lawRows_fit : ∀ rows ∈ lawRows, RowsFit rows := by
  intro rows h
  have hk := lawRows_ok rows h
  simp only [lawRows, List.mem_cons, List.not_mem_nil, or_false] at h
  rcases h with rfl | rfl | rfl | rfl
  all_goals exact ⟨hk, ft_of (by decide +kernel), by decide +kernel, by decide +kernel, by decide +kernel, by decide +kernel, by decide +kernel⟩
end Ork
end
section
set_option Elab.async false
set_option linter.all false
set_option maxRecDepth 100000
set_option pp.maxSteps 3000
namespace Ork
open PySem L2 PySem.Spec PyProof.Rows

theorem kp_fresh {S : Addr} {Ha Hb : Hp} {ys : List V} (n1 : Ha S = none) (n2 : Hb S = some (.lst ys)) (sb : SameBut S Ha Hb) : Kp [] Ha Hb := ⟨fun b o e _ => sb b o (fun z => by rw [z, n1] at e; cases e) e, fun b zs e => sb b _ (fun z => by rw [z, n1] at e; cases e) e, fun b e => by
  cases q : Ha b with
  | none => rfl
  | some o => rw [sb b o (fun z => by rw [z, n1] at q; cases q) q] at e; cases e⟩
/-- the two turns of a lap -/
def tTurns (K : PySem.W.Frag) : TS := tFor (iRng1 (tCons (tC (V.int 2)) tNil)) (gName 6) (tIfS (tNot (tB (tCall spRight [] E0 (tCons (tVar 3) (tCons (tOp (rIxL K) (tVar 4) (tCall spNext [] E0 (tCons (tVar 1) (tCons (tCB (fun xs H Q => ∃ p ys, xs = [V.ref p] ∧ (SqL K H p ys ∨ SqT K H p ys) ∧ Q (V.int ys.length) H) (tCons (tVar 4) tNil)) tNil))))
  (tCons (tVar 5) (tCons (tOp rEq (tOp (rI0 fun i j => V.int (i + j)) (tVar 6) (tVar 2)) (tC (V.int 0))) tNil))))))) (tRet (tC (V.bl false))) tNext)
theorem turns {K : PySem.W.Frag} {D : Ends} {a o cl S : Addr} {lap : Int} {rv v5 : V} {s6 : Option V} {ys : List V} {rows : List Row} {codes : List (List Ins)} {m : Nat} {H : Hp} (src : Src H o cl m) (hm : m ≤ 90000) (rf : RowsFit rows) (tr : Tp H rv (rowsD rows))
    (hS : H S = some (.lst ys)) (ty : Tps H ys ((statesOf rows).map intsD)) (tc : Tp H v5 (codesD codes)) (co : CodesOk (placesOf rows) codes)
    (k : ∀ s6 H', Src H' o cl (m + 2) → D.nx [some (.ref a), some (.ref o), some (.int lap), some rv, some (.ref S), some v5, s6, none, none, none, none] H') :
    tTurns K D [some (.ref a), some (.ref o), some (.int lap), some rv, some (.ref S), some v5, s6, none, none, none, none] H := by
  have oS : o ≠ S := fun z => by
    obtain ⟨⟨cs, r, u, d, e1, _⟩, _⟩ := src
    rw [z, hS] at e1
    cases e1
  have hyl : ys.length = (statesOf rows).length := by rw [ty.length, List.length_map]
  have h1 := rf.ne
  have h9 := rf.len
  refine ⟨2, rfl, by decide, by decide, ?_⟩
  refine for_range (lo := 0) (n := 2) (fun j σ H' => ∃ s6, σ = [some (.ref a), some (.ref o), some (.int lap), some rv, some (.ref S), some v5, s6, none, none, none, none] ∧ Kp [o] H H' ∧ Src H' o cl (m + j)) ⟨_, rfl, Kp.refl _ _, src⟩ (fun j σ H1 hj h => ?_) (fun σ H1 h => ?_)
  · obtain ⟨s6, rfl, k1, s1⟩ := h
    have hS1 := k1.lst hS (by simpa using oS.symm)
    refine ⟨rv, rfl, _, rfl, _, rfl, _, rfl, S, ys, rfl, .inl (.of hS1), o, cl, ys.length, m + j, rfl, s1, by omega, by omega, by omega, fun H2 v k2 s2 h0 hv => ?_⟩
    have k12 := k1.trans k2
    have hS2 := k12.lst hS (by simpa using oS.symm)
    obtain ⟨x, rfl⟩ : ∃ x : Nat, v = (x : Nat) := ⟨v.toNat, by omega⟩
    have hxs : x < (statesOf rows).length := by omega
    have hst : (statesOf rows)[x]? = some (statesOf rows)[x] := List.getElem?_eq_getElem hxs
    obtain ⟨y, hy, tyx⟩ := (Tps.keep k12.tk _ _ ty).get (i := x) (d := intsD (statesOf rows)[x]) (by rw [List.getElem?_map, hst]; rfl)
    have hfit := rf.st _ (List.getElem_mem hxs)
    refine ⟨S, ys, _, y, rfl, rfl, .of hS2, atI_nat hy, _, rfl, _, rfl, _, rfl, _, _, rfl, rfl, rfl, rv, y, v5, _, rows, _, codes, rfl, Tp.keep k12.tk _ _ tr, rf.ok, rf.ft, tyx, hfit.1, hfit.2, Tp.keep k12.tk _ _ tc, co, fun H3 k3 => ⟨true, rfl, ?_⟩⟩
    refine iteF ?_
    exact ⟨_, rfl, k12.trans (k3.mono (by simp)), (by have := s2.kp k3 (by simp) (by simp); exact this)⟩
  · obtain ⟨s6, rfl, k1, s1⟩ := h
    exact k _ _ s1
end Ork
end
section
set_option Elab.async false
set_option linter.all false
set_option maxRecDepth 100000
set_option pp.maxSteps 3000
namespace Ork
open PySem L2 PySem.Spec PyProof.Rows

structure CS (σ : L2.St) (H : Hp) : Prop where
  one : ∃ v, σ[7]? = some (some v) ∧ Tp H v (codeD cOne)
  fault : ∃ v, σ[8]? = some (some v) ∧ Tp H v (codeD cFault)
  test : ∃ v, σ[9]? = some (some v) ∧ Tp H v (codeD cTest)
theorem cS : Stays CS := ⟨fun σ H H' k h => by
  obtain ⟨⟨a, a1, a2⟩, ⟨b, b1, b2⟩, ⟨c, c1, c2⟩⟩ := h
  exact ⟨⟨a, a1, Tp.keep k.tk _ _ a2⟩, ⟨b, b1, Tp.keep k.tk _ _ b2⟩, ⟨c, c1, Tp.keep k.tk _ _ c2⟩⟩⟩
def spLaw (K : PySem.W.Frag) : Sp := fun vs H Q _ => ∃ (a : Addr) (ns : List Int), vs = [.ref a] ∧ SqL K H a (ns.map V.int) ∧ ∀ H', Q (.bl true) H'
section
variable {P : Program} {w : World} {base : Heap} {mg : Str → Option Value} {K : PySem.W.Frag}
theorem fnj_law {f fR : Addr} {fd fdR : FuncData} (B : Bn mg) (D : Def K mg "law" sLaw ["_law_script"] f fd) (DR : Def K mg "_law_is_right" sLRight ["_law_rows_here", "_law_stand", "_law_sheets", "_law_is_named"] fR fdR)
    (hR : FnJ P w K mg base 46 fR fdR ["_law_rows_here", "_law_stand", "_law_sheets", "_law_is_named"] spRight) (hSrc : Has P w K mg base "_law_source" 1 ["_law_script"] (spSource K)) (hN : Has P w K mg base "_law_next" 1 ["_law_source_here", "_law_limit"] spNext)
    (hRows : Has P w K mg base "_law_rows" 2 ["_law_source_here"] spRows) (hCode : Has P w K mg base "_law_code" 3 ["_law_source_here", "_law_rows_here", "_law_most"] spCode) (hSt : GHas P w K mg base "all_states" 25 8000 ["program"] spAllStates) :
    FnJ P w K mg base 47 f fd ["_law_script"] (spLaw K) := by
  refine Ork.Fun.okJ D.fn scLaw (fun vs H Q E h => ?_) (fun cdv A outer s H vs Q E hr hgd h => ?_)
  · obtain ⟨_, _, rfl, _⟩ := h
    rfl
  · obtain ⟨a, ns, rfl, ha, k⟩ := h
    have nd := scLaw.nd
    have hu := hu_of hr
    refine ⟨_, jss_cons (JS.of (ps_set (i := 1) nd rfl (.inr rfl) (pe_has hSrc (hr.mono (by decide)) rfl (pa_cons (pv 0) pa_nil))))
      (jss_cons (js_for rfl (pi_range1 rfl B.range (pa_cons pe_int pa_nil)) (pg_name (i := 2) nd rfl (.inl rfl))
        (jss_cons (JS.of (ps_set (i := 3) nd rfl (.inr rfl) (pe_has hRows (hr.mono (by decide)) rfl (pa_cons (pv 1) pa_nil))))
        (jss_cons (js_set (i := 4) nd rfl (.inl rfl) (je_listG (pgj_has hSt (hr.mono (by decide)) rfl (pa_cons (pe_tup (pa_cons (pv 3) (pa_cons (pe_tup pa_nil) (pa_cons (pe_tup pa_nil) (pa_cons pe_int pa_nil))))) pa_nil)) (by rw [sizeLine_eq]; decide) (hr.mono (by decide)) rfl B.list))
        (jss_cons (JS.of (ps_set (i := 5) nd rfl (.inl rfl) (pe_callTy call_tuple_of (by rfl) B.tuple (by decide +kernel) (pa_cons
            (pe_lc (own := [("_law_k", 10)]) (g := gName 10) (tt := tYes) (by rfl) nd (pi_range1 rfl B.range (pa_cons (pe_op op_add pe_int (pe_has hN (hr.mono (by decide)) rfl (pa_cons (pv 1) (pa_cons pe_int pa_nil)))) pa_nil)) (blkOk_by (own := [("_law_k", 10)]) (N := nLaw) (sc := defScope sLaw) (by decide +kernel)) (fun _ _ _ _ _ => pg_name (i := 10) nd rfl (.inl rfl)) (fun _ _ _ _ _ => pts_nil)
              (fun _ _ _ _ _ => pe_has hCode (hr.mono (by decide)) rfl (pa_cons (pv 1) (pa_cons (pv 3) (pa_cons pe_int pa_nil))))) pa_nil))))
        (jss_cons (JS.of (ps_if (PW.pt (pw_and (pt_cmpR op_eq (pe_callB call_len_seq (by rfl) B.len PySem.boot_len (pa_cons (pv 5) pa_nil)) pe_int (nomark _)) (pw_and1 (pt_cmpR op_eq (pe_has hN (hr.mono (by decide)) rfl (pa_cons (pv 1) (pa_cons pe_int pa_nil))) pe_int (nomark _)))))
            (pss_one (ps_set (i := 5) nd rfl (.inl rfl) (pe_op (r := rCatT K) op_catT (pv 5) (pv 5)))) pss_nil))
        (jss_one (js_for rfl (pi_range1 rfl B.range (pa_cons pe_int pa_nil)) (pg_name (i := 6) nd rfl (.inl rfl))
          (jss_one (js_if (jt_not (jt_val (je_call hR hr hgd rfl DR.nm DR.fn.kp DR.bi .nil (pa_cons (pv 3) (pa_cons (pe_ix ix_list (pv 4) (pe_has hN (hr.mono (by decide)) rfl (pa_cons (pv 1) (pa_cons (pe_callB call_len_seq (by rfl) B.len PySem.boot_len (pa_cons (pv 4) pa_nil)) pa_nil))) (fun _ _ => rfl))
              (pa_cons (pv 5) (pa_cons (pe_cmpR op_eq (pe_op op_add (pv 6) (pv 2)) pe_int (nomark _)) pa_nil)))))))
            (jss_one (JS.of (ps_ret pe_bl))) jss_nil)))))))))
      (jss_cons (JS.of (ps_set (i := 3) nd rfl (.inr rfl) (pd_tup (pds_cons ct (pd_tup (pds_cons ct pd_str (pds_cons ct pd_int (pds_cons ct pd_int (pds_cons ct pd_int (pds_cons ct pd_bl (pds_cons ct pd_bl (pds_cons ct pd_int pds_nil)))))))) (pds_cons ct (pd_tup (pds_cons ct pd_str (pds_cons ct pd_int (pds_cons ct pd_int (pds_cons ct pd_int (pds_cons ct pd_bl (pds_cons ct pd_bl (pds_cons ct pd_int pds_nil)))))))) pds_nil)))))
      (jss_cons (JS.of (ps_asg (pd_tup (pds_cons ct (pd_tup (pds_cons ct (pd_tup (pds_cons ct pd_str (pds_cons ct pd_int (pds_cons ct pd_str pds_nil)))) pds_nil)) (pds_cons ct (pd_tup (pds_cons ct (pd_tup (pds_cons ct pd_str (pds_cons ct pd_int (pds_cons ct pd_str pds_nil)))) (pds_cons ct (pd_tup (pds_cons ct pd_str (pds_cons ct pd_str (pds_cons ct pd_int (pds_cons ct pd_int (pds_cons ct pd_int pds_nil)))))) (pds_cons ct (pd_tup (pds_cons ct pd_str (pds_cons ct pd_str (pds_cons ct pd_int pds_nil)))) pds_nil)))) pds_nil))) (pg_tup rfl (pgs_cons (pg_name (i := 7) nd rfl (.inl rfl)) (pgs_cons (pg_name (i := 8) nd rfl (.inl rfl)) pgs_nil)))))
      (jss_cons (JS.of (ps_set (i := 9) nd rfl (.inl rfl) (pd_tup (pds_cons ct (pd_tup (pds_cons ct pd_str (pds_cons ct pd_int (pds_cons ct pd_str pds_nil)))) (pds_cons ct (pd_tup (pds_cons ct pd_str (pds_cons ct pd_int (pds_cons ct pd_int pds_nil)))) (pds_cons ct (pd_tup (pds_cons ct pd_str (pds_cons ct pd_str (pds_cons ct pd_int pds_nil)))) (pds_cons ct (pd_tup (pds_cons ct pd_str pds_nil)) pds_nil)))))))
      (jss_cons (js_for rfl (pi_tup (pd_tup (pds_cons cS (pd_tup (pds_cons cS (pd_tup pds_nil) pds_nil)) (pds_cons cS (pd_tup (pds_cons cS (pd_of (pv 7) fun σ H h => h.one) (pds_cons cS (pd_of (pv 7) fun σ H h => h.one) (pds_cons cS (pd_of (pv 7) fun σ H h => h.one) pds_nil)))) (pds_cons cS (pd_tup (pds_cons cS (pd_of (pv 8) fun σ H h => h.fault) (pds_cons cS (pd_of (pv 7) fun σ H h => h.one) pds_nil))) (pds_cons cS (pd_tup (pds_cons cS (pd_of (pv 9) fun σ H h => h.test) (pds_cons cS (pd_tup (pds_cons cS (pd_tup (pds_cons cS pd_str (pds_cons cS pd_int (pds_cons cS pd_int pds_nil)))) (pds_cons cS (pd_tup (pds_cons cS pd_str (pds_cons cS pd_str (pds_cons cS pd_int pds_nil)))) pds_nil))) pds_nil))) (pds_cons cS (pd_tup (pds_cons cS (pd_tup pds_nil) (pds_cons cS (pd_of (pv 7) fun σ H h => h.one) pds_nil))) pds_nil))))))) (pg_name (i := 5) nd rfl (.inl rfl))
        (jss_one (js_if (jt_or2 (jt_not (jt_val (je_call hR hr hgd rfl DR.nm DR.fn.kp DR.bi .nil (pa_cons (pv 3) (pa_cons (pe_tup (pa_cons pe_int (pa_cons pe_int pa_nil))) (pa_cons (pv 5) (pa_cons pe_bl pa_nil)))))))
            (jt_not (jt_val (je_call hR hr hgd rfl DR.nm DR.fn.kp DR.bi .nil (pa_cons (pv 3) (pa_cons (pe_tup (pa_cons pe_int (pa_cons pe_int pa_nil))) (pa_cons (pv 5) (pa_cons pe_bl pa_nil))))))))
          (jss_one (JS.of (ps_ret pe_bl))) jss_nil)))
      (jss_one (JS.of (ps_ret pe_bl)))))))), ?_⟩
    refine ⟨_, rfl, a, ns, rfl, ha, fun o cl H1 k1 no ncl src0 => ?_⟩
    refine ⟨5, rfl, by decide, by decide, ?_⟩
    refine for_range (lo := 0) (n := 5) (fun i σ H' => ∃ s2 s3 s4 s5 s6, σ = [some (.ref a), some (.ref o), s2, s3, s4, s5, s6, none, none, none, none] ∧ Src H' o cl (300 * i)) ⟨_, _, _, _, _, rfl, src0⟩ (fun i σ H2 hi h => ?_) (fun σ H2 h => ?_)
    · obtain ⟨s2, s3, s4, s5, s6, rfl, src⟩ := h
      clear src0 k1 no ncl
      refine ⟨_, rfl, o, cl, 300 * i, rfl, src, by omega, fun H3 rv rows k3 src3 hm tr3 => ?_⟩
      have rf := lawRows_fit rows hm
      refine ⟨rv, rfl, (by show 0 ≤ sizeLine; rw [sizeLine_eq]; omega), fun t1 n1 => ⟨(by show 0 ≤ sizeLine; rw [sizeLine_eq]; omega), fun t2 n2 => ⟨(by show 4 ≤ sizeLine; rw [sizeLine_eq]; omega), fun t3 n3 => ?_⟩⟩⟩
      have k4 := (((Kp.refl [] H3).new (o := .tup []) n1).new (o := .tup []) n2).new (o := .tup [rv, .ref t1, .ref t2, .int 1]) n3
      refine ⟨t3, rv, _, rows, rfl, upd_same, Tp.keep k4.tk _ _ tr3, rf.pl, rf.rg, rf.len, fun ys H4 tk4 t4 S nS hS sb => ?_⟩
      have k34 : Kp [] H3 H4 := k4.trans (kp_fresh nS hS sb)
      have src4 := src3.kp k34 (by simp) (by simp)
      have tr4 := Tp.keep k34.tk _ _ tr3
      clear k4 n1 n2 n3 tk4 sb nS k3 src
      refine ⟨_, rfl, o, cl, 2, 300 * i + 1, rfl, src4, by omega, by decide, by decide, fun H5 v k5 src5 h0 h1 => ?_⟩
      obtain ⟨x, rfl⟩ : ∃ x : Nat, v = (x : Nat) := ⟨v.toNat, by omega⟩
      have hx : (1 : Int) + (x : Nat) = ((x + 1 : Nat) : Int) := by omega
      refine ⟨_, _, rfl, rfl, ?_⟩
      dsimp only
      rw [hx]
      have hx2 : x + 1 ≤ 2 := by omega
      have hx1 : 1 ≤ x + 1 := by omega
      generalize x + 1 = many at hx2 hx1 ⊢
      refine ⟨_, rfl, by omega, by omega, fun L nL => ?_⟩
      have em : ((many : Nat) : Int).toNat = many := Int.toNat_natCast _
      rw [em]
      have oS : o ≠ S := fun z => by
        obtain ⟨⟨cs, r, u, d, e1, _⟩, _⟩ := src4
        rw [z, hS] at e1
        cases e1
      have oL : o ≠ L := by
        obtain ⟨⟨cs, r, u, d, e1, _⟩, _⟩ := src5
        exact ne_of_none e1 nL
      have clL : cl ≠ L := by
        obtain ⟨⟨cs, r, u, d, _, e2, _⟩, _⟩ := src5
        exact ne_of_none e2 nL
      have hS5 := k5.lst hS (by simpa using oS.symm)
      have SL : S ≠ L := ne_of_none hS5 nL
      have kL := (Kp.refl [] H5).new (o := .lst []) nL
      refine lc_range (lo := 0) (n := many) (fun j H' => ∃ xs codes, Kp [o, L] (upd H5 L (.lst [])) H' ∧ Src H' o cl (300 * i + 2 + 50 * j) ∧ H' L = some (.lst xs) ∧ codes.length = j ∧ Tps H' xs (codes.map codeD) ∧ ∀ code ∈ codes, CodeOk (placesOf rows) code)
        ⟨[], [], Kp.refl _ _, (src5.kp kL (by simp) (by simp)), upd_same, rfl, .nil, fun code h => nomatch h⟩ (fun j H' hj h => ?_) (fun H' h => ?_)
      · obtain ⟨xs, codes, kk, ss, hL, hc, ta, hok⟩ := h
        have tk : TK H4 H' := fun b ys e => kk.tk _ _ (kL.tk _ _ (k5.tk _ _ e))
        refine ⟨rfl, _, rfl, _, rfl, o, cl, 300 * i + 2 + 50 * j, rv, rows, rfl, ss, by omega, Tp.keep tk _ _ tr4, rf.ok, fun H6 v code k6 s6 co t6 => ?_⟩
        have hL6 := k6.lst hL (by simpa using oL.symm)
        refine ⟨xs, hL6, small1000 (by have := ta.length; rw [List.length_map] at this; omega), xs ++ [v], codes ++ [code], (kk.trans (k6.mono (by simp))).put (by simp) hL6 (fun _ z => by cases z), ?_, upd_same, by rw [List.length_append, hc]; rfl, ?_, ?_⟩
        · have e : 300 * i + 2 + 50 * (j + 1) = 300 * i + 2 + 50 * j + 50 := by omega
          rw [e]
          exact s6.kp ((Kp.refl [L] H6).put (by simp) hL6 (fun _ z => by cases z)) (by simpa using oL) (by simpa using clL)
        · rw [List.map_append]
          have kz : TK H6 (upd H6 L (.lst (xs ++ [v]))) := TK.put hL6 (fun _ z => by cases z)
          exact (Tps.keep kz _ _ (Tps.keep k6.tk _ _ ta)).snoc (Tp.keep kz _ _ t6)
        · intro code' hc'
          rcases List.mem_append.mp hc' with q | q
          · exact hok _ q
          · rw [List.mem_singleton.mp q]; exact co
      · obtain ⟨xs, codes, kk, ss, hL, hc, ta, hok⟩ := h
        refine ⟨L, xs, rfl, .inl ⟨.of hL, fun T nT => ?_⟩⟩
        have kT := (Kp.refl [] H').new (o := .tup xs) nT
        have hT : (upd H' T (.tup xs) : Hp) T = some (.tup xs) := upd_same
        have tT : Tp (upd H' T (.tup xs)) (.ref T) (codesD codes) := Tp.new nT ta
        have src6 := ss.kp kT (by simp) (by simp)
        have hS6 : (upd H' T (.tup xs) : Hp) S = some (.lst ys) := kT.lst (kk.lst ((upd_ne SL).trans hS5) (by simpa using ⟨oS.symm, SL⟩)) (by simp)
        have tkA : TK H4 (upd H' T (.tup xs)) := fun b ys e => kT.tk _ _ (kk.tk _ _ (kL.tk _ _ (k5.tk _ _ e)))
        have tr6 := Tp.keep tkA _ _ tr4
        have t46 : Tps (upd H' T (.tup xs)) ys ((statesOf rows).map intsD) := Tps.keep tkA _ _ t4
        have hxl : xs.length = codes.length := by rw [ta.length, List.length_map]
        generalize (upd H' T (.tup xs) : Hp) = H6 at hT tT src6 hS6 tr6 t46
        clear kT nT kk ss hL ta tkA t4 tr4 kL nL hS5 k5 src5 src4 k34 src3 tr3
        refine ⟨_, rfl, T, _, rfl, .inr (.of hT), rfl, _, rfl, ?_⟩
        have co1 : CodesOk (placesOf rows) codes := ⟨by omega, by
          have := sum_bd List.length 5 codes fun code hcd => (hok code hcd).1
          omega, hok⟩
        by_cases hone : codes.length = 1
        · have e1 : decide (V.int (xs.length : Nat) = V.int 1) = true := by simp; omega
          rw [e1]
          refine iteT ?_
          refine ⟨_, rfl, o, cl, 2, _, rfl, src6, by omega, by decide, by decide, fun H7 v k7 s7 h0 h1 => ⟨rfl, _, rfl, ?_⟩⟩
          have hS7 := k7.lst hS6 (by simpa using oS.symm)
          have hT7 := k7.tk _ _ hT
          have tr7 := Tp.keep k7.tk _ _ tr6
          have t47 := Tps.keep k7.tk _ _ t46
          have tT7 := Tp.keep k7.tk _ _ tT
          by_cases hv : v = 0
          · have e2 : decide (V.int v = V.int 0) = true := by simp; omega
            rw [e2]
            refine iteT ?_
            have hxn : xs ≠ [] := fun z => by rw [z] at hxl; simp at hxl; omega
            refine ⟨_, rfl, _, rfl, T, T, xs, xs, rfl, rfl, .of hT7, .of hT7, hxn, by rw [sizeLine_eq]; omega, fun z => absurd z hxn, fun _ p np => ?_⟩
            have kp := (Kp.refl [] H7).new (o := .tup (xs ++ xs)) np
            have tx : Tps H7 xs (codes.map codeD) := by
              cases tT7 with
              | tup q1 q2 => rw [hT7] at q1; cases q1; exact q2
            have tpp : Tp (upd H7 p (.tup (xs ++ xs))) (.ref p) (codesD (codes ++ codes)) := by
              show Tp _ _ (.tuple ((codes ++ codes).map codeD))
              rw [List.map_append]
              exact Tp.new np (tx.append tx)
            refine turns (K := K) (codes := codes ++ codes) (s7.kp kp (by simp) (by simp)) (by omega) rf (Tp.keep kp.tk _ _ tr7) (kp.lst hS7 (by simp)) (Tps.keep kp.tk _ _ t47) tpp ⟨by rw [List.length_append]; omega, ?_, ?_⟩ fun s6 H' sr => ⟨_, _, _, _, _, rfl, sr.mono (by omega)⟩
            · have := sum_bd List.length 5 codes fun code hcd => (hok code hcd).1
              rw [List.map_append, List.sum_append]
              omega
            · intro code hcd
              rcases List.mem_append.mp hcd with q | q <;> exact hok code q
          · have e2 : decide (V.int v = V.int 0) = false := by simp; omega
            rw [e2]
            refine iteF ?_
            exact turns (K := K) s7 (by omega) rf tr7 hS7 t47 tT7 co1 fun s6 H' sr => ⟨_, _, _, _, _, rfl, sr.mono (by omega)⟩
        · have e1 : decide (V.int (xs.length : Nat) = V.int 1) = false := by simp; omega
          rw [e1]
          refine iteF ?_
          refine iteF ?_
          exact turns (K := K) src6 (by omega) rf tr6 hS6 t46 tT co1 fun s6 H' sr => ⟨_, _, _, _, _, rfl, sr.mono (by omega)⟩
    · obtain ⟨s2, s3, s4, s5, s6, rfl, src⟩ := h
      clear src0 k1 no ncl
      refine ⟨trivial, fun rv H3 k3 tr3 => ?_⟩
      have tr3 : Tp H3 rv (rowsD rowSetF) := tr3
      refine ⟨trivial, fun v4 H4 k4 t4 => ?_⟩
      cases t4 with
      | tup q1 q2 =>
        rename_i t es
        cases q2 with
        | cons f1 q3 =>
          rename_i v7 rest
          cases q3 with
          | cons f2 q4 =>
            rename_i v8 rest2
            cases q4
            have f1 : Tp H4 v7 (codeD cOne) := f1
            have f2 : Tp H4 v8 (codeD cFault) := f2
            refine ⟨t, _, rfl, .of q1, rfl, _, _, rfl, _, _, rfl, rfl, ?_⟩
            refine ⟨trivial, fun v9 H5 k5 f3 => ?_⟩
            have f3 : Tp H5 v9 (codeD cTest) := f3
            refine ⟨⟨⟨v7, rfl, Tp.keep k5.tk _ _ f1⟩, ⟨v8, rfl, Tp.keep k5.tk _ _ f2⟩, ⟨v9, rfl, f3⟩⟩, fun v H6 k6 t6 => ?_⟩
            have t6 : Tp H6 v (.tuple (fixedSheets.map codesD)) := t6
            obtain ⟨fa, fvs, rfl, hfa, tfs⟩ : ∃ fa fvs, v = .ref fa ∧ H6 fa = some (.tup fvs) ∧ Tps H6 fvs (fixedSheets.map codesD) := by
              cases t6 with
              | tup a b => exact ⟨_, _, rfl, a, b⟩
            have tr6 := Tp.keep (k4.trans (k5.trans k6)).tk _ _ tr3
            have hfl : fvs.length = fixedSheets.length := by rw [tfs.length, List.length_map]
            refine ⟨fa, rfl, ⟨_, .of hfa⟩, ?_⟩
            refine for_tup (xs := fvs) (fun j σ H' => ∃ s5, σ = [some (.ref a), some (.ref o), s2, some rv, s4, s5, s6, some v7, some v8, some v9, none] ∧ Kp [] H6 H') ⟨_, rfl, Kp.refl _ _⟩ (fun j σ H' _ h => ?_) (fun j x σ H' hx h => ?_) (fun σ H' h => ?_)
            · obtain ⟨s5, rfl, kk⟩ := h
              exact .of (kk.tk _ _ hfa)
            · obtain ⟨s5, rfl, kk⟩ := h
              have hj : j < fixedSheets.length := by rw [← hfl]; exact (List.getElem?_eq_some_iff.mp hx).1
              have hfj : fixedSheets[j]? = some fixedSheets[j] := List.getElem?_eq_getElem hj
              obtain ⟨x', hx', tx⟩ := tfs.get (i := j) (d := codesD fixedSheets[j]) (by rw [List.getElem?_map, hfj]; rfl)
              rw [hx] at hx'
              cases hx'
              have co := fixed_ok _ (List.getElem_mem hj)
              generalize fixedSheets[j] = codes at tx co
              refine ⟨rv, rfl, (by show 2 ≤ sizeLine; rw [sizeLine_eq]; omega), fun t nt => ⟨x, rfl, ?_⟩⟩
              have kt := kk.new (o := .tup [.int 0, .int 0]) nt
              refine ⟨rv, .ref t, x, true, rowSetF, [0, 0], codes, rfl, Tp.keep kt.tk _ _ tr6, rowSetF_ok, rowsF_fit, .tup upd_same (Tps.ints [0, 0]), by decide, by decide, Tp.keep kt.tk _ _ tx, co, fun H8 k8 => ⟨true, rfl, ?_⟩⟩
              refine iteF ?_
              have kk8 := kt.trans k8
              refine ⟨rv, rfl, (by show 2 ≤ sizeLine; rw [sizeLine_eq]; omega), fun t nt => ⟨x, rfl, ?_⟩⟩
              have kt := kk8.new (o := .tup [.int 1, .int 0]) nt
              refine ⟨rv, .ref t, x, false, rowSetF, [1, 0], codes, rfl, Tp.keep kt.tk _ _ tr6, rowSetF_ok, rowsF_fit, .tup upd_same (Tps.ints [1, 0]), by decide, by decide, Tp.keep kt.tk _ _ tx, co, fun H9 k9 => ⟨true, rfl, ?_⟩⟩
              refine iteF ?_
              exact ⟨_, rfl, kt.trans k9⟩
            · obtain ⟨s5, rfl, kk⟩ := h
              exact k _
end
end Ork
end
section
set_option Elab.async false
set_option linter.all false
set_option maxRecDepth 100000
set_option pp.maxSteps 3000
/-! what the top has left, and all promises joined; printed by genend.py -/
namespace Ork
open PySem L2 PySem.Spec PyProof.Rows

abbrev BindsBy (x qual : Str) (st : Stmt) (ps : List Str) : Prop := ∀ (kV doc pm : Value) (an : Option Addr) (cdv ct : Value) (us : List Value), us.length = ps.length →
  bindArgs (PySem.W.fnOf x qual (defArgs st) (defBody st) (defScope st) .none kV doc pm an cdv ct) ⟨us, []⟩ = pure (ps.zip us)
theorem def_mk {K : PySem.W.Frag} {h : Heap} {mg : Str → Option Value} {x : Str} {st : Stmt} {ps : List Str} {f : Addr} {oc : Value} {od an : Option Addr} {osl : Array (Option Value)} {kV doc pm cdv ct : Value} (X : K.In h) (G : h.Ns mainGlobals mg) (b : BindsBy x x st ps)
    (a : PySem.W.nsIn K mainGlobals x = some (some (.ref f))) (l : K.lookup f = some ⟨oc, od, .func (PySem.W.fnOf x x (defArgs st) (defBody st) (defScope st) .none kV doc pm an cdv ct), osl⟩) (c : PySem.W.codeIn K cdv x = true) (k : PySem.W.keepIn K (.ref f) = true) :
    ∃ f fd, Def K mg x st ps f fd := ⟨f, _, fun_mk l c k, PySem.W.mg_of X G a, (fun_mk l c k).binds b⟩
structure MDef (K : PySem.W.Frag) (C : Addr) (x qual : Str) (st : Stmt) (ps : List Str) (f : Addr) (fd : FuncData) : Prop where
  mt : Meth K C x f
  fn : Fun K x qual st f fd
  bi : Binds K fd ps []
theorem mdef_mk {K : PySem.W.Frag} {C : Addr} {x qual : Str} {st : Stmt} {ps : List Str} {f : Addr} {oc : Value} {od an : Option Addr} {osl : Array (Option Value)} {kV doc pm cdv ct : Value} (b : BindsBy x qual st ps)
    (a : PySem.W.findIn K (.ref C) x = some (some (.ref f))) (i : PySem.W.isFn K (.ref f) = true) (l : K.lookup f = some ⟨oc, od, .func (PySem.W.fnOf x qual (defArgs st) (defBody st) (defScope st) .none kV doc pm an cdv ct), osl⟩) (c : PySem.W.codeIn K cdv qual = true) (k : PySem.W.keepIn K (.ref f) = true) :
    ∃ f fd, MDef K C x qual st ps f fd := ⟨f, _, ⟨a, i, k⟩, fun_mk l c k, (fun_mk l c k).binds b⟩
theorem MDef.has {P : Program} {w : World} {K : PySem.W.Frag} {mg : Str → Option Value} {base : Heap} {C : Addr} {x qual : Str} {st : Stmt} {ps : List Str} {f : Addr} {fd : FuncData} {k : Nat} {sp : Sp} (D : MDef K C x qual st ps f fd) (h : FnOk P w K mg base CX0 k f fd ps sp) : MHas P w K mg base C x k ps [] sp :=
  ⟨f, fd, [], D.mt, D.bi, .nil, h⟩
/-- the method with a default -/
structure SDef (K : PySem.W.Frag) (C f : Addr) (fd : FuncData) : Prop where
  mt : Meth K C "stop" f
  fn : FunD K "stop" "Runner.stop" (defArgs sRStop) (defBody sRStop) (defScope sRStop) [.non] [] f fd
theorem sdef_mk {K : PySem.W.Frag} {C : Addr} {f T : Addr} {oc : Value} {od an : Option Addr} {osl : Array (Option Value)} {kV doc pm cdv ct : Value} {oT : Obj} {n : Nat}
    (a : PySem.W.findIn K (.ref C) "stop" = some (some (.ref f))) (i : PySem.W.isFn K (.ref f) = true) (l : K.lookup f = some ⟨oc, od, .func (PySem.W.fnOf "stop" "Runner.stop" (defArgs sRStop) (defBody sRStop) (defScope sRStop) (.ref T) kV doc pm an cdv ct), osl⟩)
    (c : PySem.W.codeIn K cdv "Runner.stop" = true) (k : PySem.W.keepIn K (.ref f) = true) (lT : K.lookup T = some oT) (eT : oT.data = .seq #[Value.none] n) :
    ∃ f fd, SDef K C f fd := ⟨f, _, ⟨a, i, k⟩, ⟨oc, od, _, kV, doc, pm, an, cdv, ct, osl, rfl, l, c, .inr ⟨by simp, T, oT, [.none], n, rfl, lT, eT, .cons rfl .nil⟩, .inl rfl⟩, k⟩
theorem SDef.bind1 {K : PySem.W.Frag} {C f : Addr} {fd : FuncData} (D : SDef K C f fd) : ∃ ds, Vals [.non] ds ∧ Binds K fd ["self", "fault_at"] ds :=
  D.fn.binds1 (ps := ["self", "fault_at"]) 1 0 (by simp) rfl fun T kV doc pm an cdv ct us its hu hi => match us, its, hu, hi with | [_], [_], _, _ => ⟨_, rfl, rfl⟩
theorem SDef.bind2 {K : PySem.W.Frag} {C f : Addr} {fd : FuncData} (D : SDef K C f fd) : Binds K fd ["self", "fault_at"] [] := by
  obtain ⟨ds, v, b⟩ := D.fn.binds1 (ps := ["self", "fault_at"]) 2 1 (by simp) rfl fun T kV doc pm an cdv ct us its hu hi => match us, its, hu, hi with | [_, _], [_], _, _ => ⟨_, rfl, rfl⟩
  cases v
  exact b

theorem bAllPlaces : BindsBy "all_places" "all_places" sAllPlaces ["cells"] := fun _ _ _ _ _ _ us hl => match us, hl with | [_], _ => rfl
theorem bComputed : BindsBy "computed" "computed" sComputed ["operator", "one", "other"] := fun _ _ _ _ _ _ us hl => match us, hl with | [_, _, _], _ => rfl
theorem bHasStep : BindsBy "has_step" "has_step" sHasStep ["cells", "state", "codes", "schedule", "k"] := fun _ _ _ _ _ _ us hl => match us, hl with | [_, _, _, _, _], _ => rfl
theorem bBehind : BindsBy "schedules_behind" "schedules_behind" sBehind ["cells", "state", "codes", "schedule"] := fun _ _ _ _ _ _ us hl => match us, hl with | [_, _, _, _], _ => rfl
theorem bSchedOf : BindsBy "schedules_of" "schedules_of" sSchedOf ["cells", "state", "codes"] := fun _ _ _ _ _ _ us hl => match us, hl with | [_, _, _], _ => rfl
theorem bEntries : BindsBy "entries_of" "entries_of" sEntries ["cells"] := fun _ _ _ _ _ _ us hl => match us, hl with | [_], _ => rfl
theorem bRanges : BindsBy "cell_ranges" "cell_ranges" sRanges ["cells"] := fun _ _ _ _ _ _ us hl => match us, hl with | [_], _ => rfl
theorem bRangesOf : BindsBy "ranges_of" "ranges_of" sRangesOf ["program"] := fun _ _ _ _ _ _ us hl => match us, hl with | [_], _ => rfl
theorem bLonger : BindsBy "longer_states" "longer_states" sLonger ["ranges", "values"] := fun _ _ _ _ _ _ us hl => match us, hl with | [_, _], _ => rfl
theorem bAllStates : BindsBy "all_states" "all_states" sAllStates ["program"] := fun _ _ _ _ _ _ us hl => match us, hl with | [_], _ => rfl
theorem bLSource : BindsBy "_law_source" "_law_source" sLSource ["_law_script"] := fun _ _ _ _ _ _ us hl => match us, hl with | [_], _ => rfl
theorem bLNext : BindsBy "_law_next" "_law_next" sLNext ["_law_source_here", "_law_limit"] := fun _ _ _ _ _ _ us hl => match us, hl with | [_, _], _ => rfl
theorem bLRows : BindsBy "_law_rows" "_law_rows" sLRows ["_law_source_here"] := fun _ _ _ _ _ _ us hl => match us, hl with | [_], _ => rfl
theorem bLPlaces : BindsBy "_law_places" "_law_places" sLPlaces ["_law_rows_here"] := fun _ _ _ _ _ _ us hl => match us, hl with | [_], _ => rfl
theorem bLRes : BindsBy "_law_result_of" "_law_result_of" sLRes ["_law_op", "_law_one", "_law_other"] := fun _ _ _ _ _ _ us hl => match us, hl with | [_, _, _], _ => rfl
theorem bLFresh : BindsBy "_law_fresh" "_law_fresh" sLFresh [] := fun _ _ _ _ _ _ us hl => match us, hl with | [], _ => rfl
theorem bLSpot : BindsBy "_law_spot" "_law_spot" sLSpot ["_law_places_here", "_law_own", "_law_part_here"] := fun _ _ _ _ _ _ us hl => match us, hl with | [_, _, _], _ => rfl
theorem bLTouch : BindsBy "_law_touch" "_law_touch" sLTouch ["_law_places_here", "_law_own", "_law_part_here", "_law_values"] := fun _ _ _ _ _ _ us hl => match us, hl with | [_, _, _, _], _ => rfl
theorem bLDo : BindsBy "_law_do" "_law_do" sLDo ["_law_places_here", "_law_lines", "_law_own", "_law_values"] := fun _ _ _ _ _ _ us hl => match us, hl with | [_, _, _, _], _ => rfl
theorem bLEvent : BindsBy "_law_event" "_law_event" sLEvent ["_law_places_here", "_law_lines", "_law_own", "_law_values"] := fun _ _ _ _ _ _ us hl => match us, hl with | [_, _, _, _], _ => rfl
theorem bLTab : BindsBy "_law_table_places" "_law_table_places" sLTab ["_law_rows_here"] := fun _ _ _ _ _ _ us hl => match us, hl with | [_], _ => rfl
theorem bLPart : BindsBy "_law_part" "_law_part" sLPart ["_law_source_here", "_law_rows_here", "_law_at", "_law_many"] := fun _ _ _ _ _ _ us hl => match us, hl with | [_, _, _, _], _ => rfl
theorem bLCode : BindsBy "_law_code" "_law_code" sLCode ["_law_source_here", "_law_rows_here", "_law_most"] := fun _ _ _ _ _ _ us hl => match us, hl with | [_, _, _], _ => rfl
theorem bLCopied : BindsBy "_law_copied" "_law_copied" sLCopied ["_law_own"] := fun _ _ _ _ _ _ us hl => match us, hl with | [_], _ => rfl
theorem bLAll : BindsBy "_law_all" "_law_all" sLAll ["_law_places_here", "_law_sheets", "_law_machines", "_law_values"] := fun _ _ _ _ _ _ us hl => match us, hl with | [_, _, _, _], _ => rfl
theorem bLRight : BindsBy "_law_is_right" "_law_is_right" sLRight ["_law_rows_here", "_law_stand", "_law_sheets", "_law_is_named"] := fun _ _ _ _ _ _ us hl => match us, hl with | [_, _, _, _], _ => rfl
theorem bLaw : BindsBy "law" "law" sLaw ["_law_script"] := fun _ _ _ _ _ _ us hl => match us, hl with | [_], _ => rfl
theorem bRInit : BindsBy "__init__" "Runner.__init__" sRInit ["self", "cells", "code"] := fun _ _ _ _ _ _ us hl => match us, hl with | [_, _, _], _ => rfl
theorem bRCell : BindsBy "cell_at" "Runner.cell_at" sRCell ["self", "instruction"] := fun _ _ _ _ _ _ us hl => match us, hl with | [_, _], _ => rfl
theorem bRTouch : BindsBy "touch" "Runner.touch" sRTouch ["self", "values", "i"] := fun _ _ _ _ _ _ us hl => match us, hl with | [_, _, _], _ => rfl
theorem bRGo : BindsBy "go" "Runner.go" sRGo ["self", "i"] := fun _ _ _ _ _ _ us hl => match us, hl with | [_, _], _ => rfl
theorem bRNext : BindsBy "next_event" "Runner.next_event" sRNext ["self", "values"] := fun _ _ _ _ _ _ us hl => match us, hl with | [_, _], _ => rfl
theorem bTInit : BindsBy "__init__" "Together.__init__" sTInit ["self", "cells", "state", "codes"] := fun _ _ _ _ _ _ us hl => match us, hl with | [_, _, _, _], _ => rfl
theorem bTDo : BindsBy "do_event" "Together.do_event" sTDo ["self", "k"] := fun _ _ _ _ _ _ us hl => match us, hl with | [_, _], _ => rfl
theorem law_binds {K : PySem.W.Frag} {f : Addr} {fd : FuncData} (F : Fun K "law" "law" sLaw f fd) (s : Shared) (u : Value) : BindsTo s fd ⟨[u], []⟩ [("_law_script", u)] := by
  obtain ⟨_, _, _, _, _, _, _, _, _, rfl, _⟩ := F.ex
  exact .of_eq rfl
theorem sched_kb {K : PySem.W.Frag} {f : Addr} {fd : FuncData} (F : Fun K "schedules_of" "schedules_of" sSchedOf f fd) : KBinds K fd ["cells", "state", "codes"] ["codes", "state", "cells"] gL3 gV3 := by
  obtain ⟨_, _, _, _, _, _, _, _, _, rfl, _⟩ := F.ex
  refine ⟨fun s us ws X hl => ?_, fun {vs us zs ws} hv hz => ?_⟩
  · match us, ws, hl with
    | [], [a, b, c], _ => exact .of_eq rfl
  · cases hv with
    | cons _ _ => exact .nil
    | nil =>
      cases hz with
      | nil => exact .nil
      | cons a h1 =>
        cases h1 with
        | nil => exact .nil
        | cons b h2 =>
          cases h2 with
          | nil => exact .nil
          | cons c h3 =>
            cases h3 with
            | nil => exact .cons c (.cons b (.cons a .nil))
            | cons _ _ => exact .nil
/-- what the top has left -/
structure Facts (K : PySem.W.Frag) (mg : Str → Option Value) : Prop where
  B : Bn mg
  ms : ∃ tk, mg "MOST_SLOT" = some (.int 31 tk)
  dAllPlaces : ∃ f fd, Def K mg "all_places" sAllPlaces ["cells"] f fd
  dComputed : ∃ f fd, Def K mg "computed" sComputed ["operator", "one", "other"] f fd
  dHasStep : ∃ f fd, Def K mg "has_step" sHasStep ["cells", "state", "codes", "schedule", "k"] f fd
  dBehind : ∃ f fd, Def K mg "schedules_behind" sBehind ["cells", "state", "codes", "schedule"] f fd
  dSchedOf : ∃ f fd, Def K mg "schedules_of" sSchedOf ["cells", "state", "codes"] f fd
  dEntries : ∃ f fd, Def K mg "entries_of" sEntries ["cells"] f fd
  dRanges : ∃ f fd, Def K mg "cell_ranges" sRanges ["cells"] f fd
  dRangesOf : ∃ f fd, Def K mg "ranges_of" sRangesOf ["program"] f fd
  dLonger : ∃ f fd, Def K mg "longer_states" sLonger ["ranges", "values"] f fd
  dAllStates : ∃ f fd, Def K mg "all_states" sAllStates ["program"] f fd
  dLSource : ∃ f fd, Def K mg "_law_source" sLSource ["_law_script"] f fd
  dLNext : ∃ f fd, Def K mg "_law_next" sLNext ["_law_source_here", "_law_limit"] f fd
  dLRows : ∃ f fd, Def K mg "_law_rows" sLRows ["_law_source_here"] f fd
  dLPlaces : ∃ f fd, Def K mg "_law_places" sLPlaces ["_law_rows_here"] f fd
  dLRes : ∃ f fd, Def K mg "_law_result_of" sLRes ["_law_op", "_law_one", "_law_other"] f fd
  dLFresh : ∃ f fd, Def K mg "_law_fresh" sLFresh [] f fd
  dLSpot : ∃ f fd, Def K mg "_law_spot" sLSpot ["_law_places_here", "_law_own", "_law_part_here"] f fd
  dLTouch : ∃ f fd, Def K mg "_law_touch" sLTouch ["_law_places_here", "_law_own", "_law_part_here", "_law_values"] f fd
  dLDo : ∃ f fd, Def K mg "_law_do" sLDo ["_law_places_here", "_law_lines", "_law_own", "_law_values"] f fd
  dLEvent : ∃ f fd, Def K mg "_law_event" sLEvent ["_law_places_here", "_law_lines", "_law_own", "_law_values"] f fd
  dLTab : ∃ f fd, Def K mg "_law_table_places" sLTab ["_law_rows_here"] f fd
  dLPart : ∃ f fd, Def K mg "_law_part" sLPart ["_law_source_here", "_law_rows_here", "_law_at", "_law_many"] f fd
  dLCode : ∃ f fd, Def K mg "_law_code" sLCode ["_law_source_here", "_law_rows_here", "_law_most"] f fd
  dLCopied : ∃ f fd, Def K mg "_law_copied" sLCopied ["_law_own"] f fd
  dLAll : ∃ f fd, Def K mg "_law_all" sLAll ["_law_places_here", "_law_sheets", "_law_machines", "_law_values"] f fd
  dLRight : ∃ f fd, Def K mg "_law_is_right" sLRight ["_law_rows_here", "_law_stand", "_law_sheets", "_law_is_named"] f fd
  dLaw : ∃ f fd, Def K mg "law" sLaw ["_law_script"] f fd
  cR : ∃ C, mg "Runner" = some (.ref C) ∧ RT K C ∧ PySem.W.makesIn K C = true ∧ PySem.W.keepIn K (.ref C) = true ∧ (∃ f fd, SDef K C f fd) ∧
    (∃ f fd, MDef K C "__init__" "Runner.__init__" sRInit ["self", "cells", "code"] f fd) ∧
    (∃ f fd, MDef K C "cell_at" "Runner.cell_at" sRCell ["self", "instruction"] f fd) ∧
    (∃ f fd, MDef K C "touch" "Runner.touch" sRTouch ["self", "values", "i"] f fd) ∧
    (∃ f fd, MDef K C "go" "Runner.go" sRGo ["self", "i"] f fd) ∧
    (∃ f fd, MDef K C "next_event" "Runner.next_event" sRNext ["self", "values"] f fd)
  cT : ∃ C, mg "Together" = some (.ref C) ∧ TT2 K C ∧ PySem.W.makesIn K C = true ∧ PySem.W.keepIn K (.ref C) = true ∧
    (∃ f fd, MDef K C "__init__" "Together.__init__" sTInit ["self", "cells", "state", "codes"] f fd) ∧
    (∃ f fd, MDef K C "do_event" "Together.do_event" sTDo ["self", "k"] f fd)
section
variable {P : Program} {w : World} {base : Heap} {mg : Str → Option Value} {K : PySem.W.Frag}
theorem ok_all0 {f : Addr} {fd : FuncData} (D : Def K mg "_law_all" sLAll ["_law_places_here", "_law_sheets", "_law_machines", "_law_values"] f fd) : Has P w K mg base "_law_all" 4 ["_law_places_here", "_law_sheets", "_law_machines", "_law_values"] (spAll P w 0) :=
  D.has ⟨fun vs H Q E h => by obtain ⟨_, _, _, _, _, _, _, _, _, _, _, _, _, z, _⟩ := h; exact absurd z (Nat.not_lt_zero _), fun A outer s H args us vs Q E hr e0 hb r h => by obtain ⟨_, _, _, _, _, _, _, _, _, _, _, _, _, z, _⟩ := h; exact absurd z (Nat.not_lt_zero _)⟩
theorem ok_allN {f : Addr} {fd : FuncData} (B : Bn mg) (D : Def K mg "_law_all" sLAll ["_law_places_here", "_law_sheets", "_law_machines", "_law_values"] f fd)
    (hE : Has P w K mg base "_law_event" 4 ["_law_places_here", "_law_lines", "_law_own", "_law_values"] (spEvent P w)) (hC : Has P w K mg base "_law_copied" 1 ["_law_own"] spCopied) :
    ∀ n, n ≤ 12 → Has P w K mg base "_law_all" (n + 4) ["_law_places_here", "_law_sheets", "_law_machines", "_law_values"] (spAll P w n)
  | 0, _ => ok_all0 D
  | n + 1, hn => ok_all_step (by omega) (by omega) B D hE hC (ok_allN B D hE hC n (by omega))
theorem facts_law (T : Facts K mg) : ∃ f fd, Def K mg "law" sLaw ["_law_script"] f fd ∧ ∀ (P : Program) (w : World) (base : Heap), FnJ P w K mg base 47 f fd ["_law_script"] (spLaw K) := by
  have B := T.B
  obtain ⟨tk, hMS⟩ := T.ms
  obtain ⟨fAllPlaces, fdAllPlaces, DAllPlaces⟩ := T.dAllPlaces
  obtain ⟨fComputed, fdComputed, DComputed⟩ := T.dComputed
  obtain ⟨fHasStep, fdHasStep, DHasStep⟩ := T.dHasStep
  obtain ⟨fBehind, fdBehind, DBehind⟩ := T.dBehind
  obtain ⟨fSchedOf, fdSchedOf, DSchedOf⟩ := T.dSchedOf
  obtain ⟨fEntries, fdEntries, DEntries⟩ := T.dEntries
  obtain ⟨fRanges, fdRanges, DRanges⟩ := T.dRanges
  obtain ⟨fRangesOf, fdRangesOf, DRangesOf⟩ := T.dRangesOf
  obtain ⟨fLonger, fdLonger, DLonger⟩ := T.dLonger
  obtain ⟨fAllStates, fdAllStates, DAllStates⟩ := T.dAllStates
  obtain ⟨fLSource, fdLSource, DLSource⟩ := T.dLSource
  obtain ⟨fLNext, fdLNext, DLNext⟩ := T.dLNext
  obtain ⟨fLRows, fdLRows, DLRows⟩ := T.dLRows
  obtain ⟨fLPlaces, fdLPlaces, DLPlaces⟩ := T.dLPlaces
  obtain ⟨fLRes, fdLRes, DLRes⟩ := T.dLRes
  obtain ⟨fLFresh, fdLFresh, DLFresh⟩ := T.dLFresh
  obtain ⟨fLSpot, fdLSpot, DLSpot⟩ := T.dLSpot
  obtain ⟨fLTouch, fdLTouch, DLTouch⟩ := T.dLTouch
  obtain ⟨fLDo, fdLDo, DLDo⟩ := T.dLDo
  obtain ⟨fLEvent, fdLEvent, DLEvent⟩ := T.dLEvent
  obtain ⟨fLTab, fdLTab, DLTab⟩ := T.dLTab
  obtain ⟨fLPart, fdLPart, DLPart⟩ := T.dLPart
  obtain ⟨fLCode, fdLCode, DLCode⟩ := T.dLCode
  obtain ⟨fLCopied, fdLCopied, DLCopied⟩ := T.dLCopied
  obtain ⟨fLAll, fdLAll, DLAll⟩ := T.dLAll
  obtain ⟨fLRight, fdLRight, DLRight⟩ := T.dLRight
  obtain ⟨fLaw, fdLaw, DLaw⟩ := T.dLaw
  obtain ⟨CR, mR, RT1, mkR, kpR, ⟨fRStop, fdRStop, DRStop⟩, ⟨fRInit, fdRInit, DRInit⟩, ⟨fRCell, fdRCell, DRCell⟩, ⟨fRTouch, fdRTouch, DRTouch⟩, ⟨fRGo, fdRGo, DRGo⟩, ⟨fRNext, fdRNext, DRNext⟩⟩ := T.cR
  obtain ⟨CT, mT, TT1, mkT, kpT, ⟨fTInit, fdTInit, DTInit⟩, ⟨fTDo, fdTDo, DTDo⟩⟩ := T.cT
  refine ⟨fLaw, fdLaw, DLaw, fun P w base => ?_⟩
  have hSource : Has P w K mg base _ _ _ _ := ok_source DLSource
  have hNext : Has P w K mg base _ _ _ _ := ok_next B DLNext
  have hRows := ok_rows DLRows hNext
  have hPlaces : Has P w K mg base _ _ _ _ := ok_places B DLPlaces
  have hTab : Has P w K mg base _ _ _ _ := ok_tab B DLTab
  have hPart := ok_part B DLPart hNext hTab
  have hCode := ok_code B DLCode hNext hPart
  have hRes : Has P w K mg base _ _ _ _ := ok_lres B DLRes
  have hFresh : Has P w K mg base _ _ _ _ := ok_fresh DLFresh
  have hCopied : Has P w K mg base _ _ _ _ := ok_copied B DLCopied
  have hSpot : Has P w K mg base _ _ _ _ := ok_spot DLSpot
  have hTouch := ok_touch DLTouch hSpot
  have hDo := ok_do B DLDo hTouch hRes
  have hEvent := ok_event DLEvent hDo
  have hAll := (ok_allN B DLAll hEvent hCopied 11 (by decide)).mono (k := 20) (by decide)
  have hAllPlaces : Has P w K mg base _ _ _ _ := ok_all_places B DAllPlaces
  have hComputed : Has P w K mg base _ _ _ _ := ok_computed B DComputed
  have gStop : FnOk P w K mg base CX0 1 fRStop fdRStop ["self", "fault_at"] (spStop CR) := ok_stop RT1 DRStop.fn
  have mStop : MHas P w K mg base CR "stop" 1 ["self", "fault_at"] [] (spStop CR) := ⟨_, _, [], DRStop.mt, DRStop.bind2, .nil, gStop⟩
  have mStop0 : MHas P w K mg base CR "stop" 1 ["self", "fault_at"] [.non] (spStop CR) := by
    obtain ⟨ds, v, b⟩ := DRStop.bind1
    exact ⟨_, _, ds, DRStop.mt, b, v, gStop⟩
  have mCell := DRCell.has (ok_cell (P := P) (w := w) (mg := mg) (base := base) RT1 DRCell.fn)
  have mTouch := DRTouch.has (ok_touchP RT1 DRTouch.fn mCell mStop)
  have mGo := DRGo.has (ok_go RT1 DRGo.fn hComputed mStop mStop0)
  have mNext := DRNext.has (ok_nextE B RT1 DRNext.fn mTouch mGo mStop0)
  have gInit := ok_rinit RT1 DRInit.fn hMS hAllPlaces
  have MR : Mk K CR fRInit := ⟨mkR, DRInit.mt.at_, DRInit.mt.fn, kpR⟩
  have gTInit := ok_tinit B TT1 DTInit.fn MR mR DRInit.bi gInit
  have mDo := DTDo.has (ok_doE RT1 TT1 DTDo.fn mNext)
  have MT : Mk K CT fTInit := ⟨mkT, DTInit.mt.at_, DTInit.mt.fn, kpT⟩
  have hHas := ok_has TT1 DHasStep MT mT DTInit.bi gTInit mDo
  have hBehind := gok_behind B DBehind hHas 11 (by decide)
  have gSched := gok_sched DSchedOf hBehind
  have hEntries : Has P w K mg base _ _ _ _ := ok_entries B DEntries
  have hRanges := ok_ranges B DRanges hEntries
  have hRangesOf := ok_ranges_of DRangesOf hRanges
  have hLonger : GHas P w K mg base "longer_states" 22 7000 ["ranges", "values"] (spLonger 7) := gok_longer B DLonger 7
  have hStates := gok_all_states DAllStates hLonger hRangesOf
  have gRight := fnj_right B DLRight DSchedOf (sched_kb DSchedOf.fn) gSched hPlaces hFresh hAll
  exact fnj_law B DLaw DLRight gRight hSource hNext hRows hCode hStates
end
theorem facts_end {l : PySem.W.OpenLaw} {w : World} {K : PySem.W.Frag} {h : Heap} {mg : Str → Option Value} {fa : Addr} (X : K.In h) (G : h.Ns mainGlobals mg) (hmg : mg "law" = some (.ref fa)) (T : Facts K mg) :
    ∃ fd : FuncData, (∀ (s : Shared) (u : Value), BindsTo s fd ⟨[u], []⟩ [("_law_script", u)]) ∧ ∀ base : Heap, K.In base → base.Ns mainGlobals mg → FnJ l.prog w K mg base 47 fa fd ["_law_script"] (spLaw K) := by
  obtain ⟨f, fd, D, F⟩ := facts_law T
  have e := hmg.symm.trans D.nm
  cases e
  exact ⟨fd, law_binds D.fn, fun base _ _ => F _ w base⟩
end Ork
end
section
set_option Elab.async false
set_option linter.all false
set_option maxRecDepth 100000
set_option pp.maxSteps 3000
namespace OrkH
open _root_.PySem _root_.PySem.W _root_.PyProof.Rows
set_option maxRecDepth 100000 in
set_option maxHeartbeats 0 in
theorem law_holds : _root_.PySem.Challenge.rw_orderless_k51_whole_schedules.Holds := by
  w_on; o_law; k_head; (case hw => w_witness2)
  k_fill
  refine Ork.walk_ofJ (l := _root_.PySem.Challenge.rw_orderless_k51_whole_schedules) (n := 63) (k := 47) (x := "_law_script") (sp := Ork.spLaw) rfl (by decide) rfl ⟨rfl, by decide, by decide⟩ (fun w h Y => _root_.PySem.W.kIn_of Y) ?F
    (fun K H a ns hl hO hS => ⟨a, ns, rfl, hS, fun _ => rfl⟩)
  case F =>
    intro w mg fa h KX G hmg
    refine' Ork.facts_end KX G hmg ⟨?B, ?ms, ?dAllPlaces, ?dComputed, ?dHasStep, ?dBehind, ?dSchedOf, ?dEntries, ?dRanges, ?dRangesOf, ?dLonger, ?dAllStates, ?dLSource, ?dLNext, ?dLRows, ?dLPlaces, ?dLRes, ?dLFresh, ?dLSpot, ?dLTouch, ?dLDo, ?dLEvent, ?dLTab, ?dLPart, ?dLCode, ?dLCopied, ?dLAll, ?dLRight, ?dLaw, ?cR, ?cT⟩
    (case dAllPlaces => refine' Ork.def_mk KX G Ork.bAllPlaces ?a ?l ?c ?k; (case a => k_is); (case l => k_is); (case c => k_is); (case k => k_is))
    (case dComputed => refine' Ork.def_mk KX G Ork.bComputed ?a ?l ?c ?k; (case a => k_is); (case l => k_is); (case c => k_is); (case k => k_is))
    (case dHasStep => refine' Ork.def_mk KX G Ork.bHasStep ?a ?l ?c ?k; (case a => k_is); (case l => k_is); (case c => k_is); (case k => k_is))
    (case dBehind => refine' Ork.def_mk KX G Ork.bBehind ?a ?l ?c ?k; (case a => k_is); (case l => k_is); (case c => k_is); (case k => k_is))
    (case dSchedOf => refine' Ork.def_mk KX G Ork.bSchedOf ?a ?l ?c ?k; (case a => k_is); (case l => k_is); (case c => k_is); (case k => k_is))
    (case dEntries => refine' Ork.def_mk KX G Ork.bEntries ?a ?l ?c ?k; (case a => k_is); (case l => k_is); (case c => k_is); (case k => k_is))
    (case dRanges => refine' Ork.def_mk KX G Ork.bRanges ?a ?l ?c ?k; (case a => k_is); (case l => k_is); (case c => k_is); (case k => k_is))
    (case dRangesOf => refine' Ork.def_mk KX G Ork.bRangesOf ?a ?l ?c ?k; (case a => k_is); (case l => k_is); (case c => k_is); (case k => k_is))
    (case dLonger => refine' Ork.def_mk KX G Ork.bLonger ?a ?l ?c ?k; (case a => k_is); (case l => k_is); (case c => k_is); (case k => k_is))
    (case dAllStates => refine' Ork.def_mk KX G Ork.bAllStates ?a ?l ?c ?k; (case a => k_is); (case l => k_is); (case c => k_is); (case k => k_is))
    (case dLSource => refine' Ork.def_mk KX G Ork.bLSource ?a ?l ?c ?k; (case a => k_is); (case l => k_is); (case c => k_is); (case k => k_is))
    (case dLNext => refine' Ork.def_mk KX G Ork.bLNext ?a ?l ?c ?k; (case a => k_is); (case l => k_is); (case c => k_is); (case k => k_is))
    (case dLRows => refine' Ork.def_mk KX G Ork.bLRows ?a ?l ?c ?k; (case a => k_is); (case l => k_is); (case c => k_is); (case k => k_is))
    (case dLPlaces => refine' Ork.def_mk KX G Ork.bLPlaces ?a ?l ?c ?k; (case a => k_is); (case l => k_is); (case c => k_is); (case k => k_is))
    (case dLRes => refine' Ork.def_mk KX G Ork.bLRes ?a ?l ?c ?k; (case a => k_is); (case l => k_is); (case c => k_is); (case k => k_is))
    (case dLFresh => refine' Ork.def_mk KX G Ork.bLFresh ?a ?l ?c ?k; (case a => k_is); (case l => k_is); (case c => k_is); (case k => k_is))
    (case dLSpot => refine' Ork.def_mk KX G Ork.bLSpot ?a ?l ?c ?k; (case a => k_is); (case l => k_is); (case c => k_is); (case k => k_is))
    (case dLTouch => refine' Ork.def_mk KX G Ork.bLTouch ?a ?l ?c ?k; (case a => k_is); (case l => k_is); (case c => k_is); (case k => k_is))
    (case dLDo => refine' Ork.def_mk KX G Ork.bLDo ?a ?l ?c ?k; (case a => k_is); (case l => k_is); (case c => k_is); (case k => k_is))
    (case dLEvent => refine' Ork.def_mk KX G Ork.bLEvent ?a ?l ?c ?k; (case a => k_is); (case l => k_is); (case c => k_is); (case k => k_is))
    (case dLTab => refine' Ork.def_mk KX G Ork.bLTab ?a ?l ?c ?k; (case a => k_is); (case l => k_is); (case c => k_is); (case k => k_is))
    (case dLPart => refine' Ork.def_mk KX G Ork.bLPart ?a ?l ?c ?k; (case a => k_is); (case l => k_is); (case c => k_is); (case k => k_is))
    (case dLCode => refine' Ork.def_mk KX G Ork.bLCode ?a ?l ?c ?k; (case a => k_is); (case l => k_is); (case c => k_is); (case k => k_is))
    (case dLCopied => refine' Ork.def_mk KX G Ork.bLCopied ?a ?l ?c ?k; (case a => k_is); (case l => k_is); (case c => k_is); (case k => k_is))
    (case dLAll => refine' Ork.def_mk KX G Ork.bLAll ?a ?l ?c ?k; (case a => k_is); (case l => k_is); (case c => k_is); (case k => k_is))
    (case dLRight => refine' Ork.def_mk KX G Ork.bLRight ?a ?l ?c ?k; (case a => k_is); (case l => k_is); (case c => k_is); (case k => k_is))
    (case dLaw => refine' Ork.def_mk KX G Ork.bLaw ?a ?l ?c ?k; (case a => k_is); (case l => k_is); (case c => k_is); (case k => k_is))
    case cR =>
      refine' ⟨_, _root_.PySem.W.mg_of KX G ?g, ⟨⟨?pg, ?hd, ?po, ?sa⟩, ?n0, ?n1, ?n2, ?n3, ?n4, ?n5⟩, ?mk, ?kp, ?m0, ?m1, ?m2, ?m3, ?m4, ?m5⟩
      (case g => k_is); (case pg => k_is); (case hd => k_is); (case po => k_is); (case sa => k_is); (case mk => k_is); (case kp => k_is)
      (case n0 => (show _root_.PySem.W.findIn _ _ "places" = some none); k_is)
      (case n1 => (show _root_.PySem.W.findIn _ _ "code" = some none); k_is)
      (case n2 => (show _root_.PySem.W.findIn _ _ "slots" = some none); k_is)
      (case n3 => (show _root_.PySem.W.findIn _ _ "next_at" = some none); k_is)
      (case n4 => (show _root_.PySem.W.findIn _ _ "is_over" = some none); k_is)
      (case n5 => (show _root_.PySem.W.findIn _ _ "fault_at" = some none); k_is)
      (case m0 => refine' Ork.sdef_mk ?a ?i ?l ?c ?k ?lT ?eT; (case a => k_is); (case i => k_is); (case l => k_is); (case c => k_is); (case k => k_is); (case lT => k_is); (case eT => exact rfl))
      (case m1 => refine' Ork.mdef_mk Ork.bRInit ?a ?i ?l ?c ?k; (case a => k_is); (case i => k_is); (case l => k_is); (case c => k_is); (case k => k_is))
      (case m2 => refine' Ork.mdef_mk Ork.bRCell ?a ?i ?l ?c ?k; (case a => k_is); (case i => k_is); (case l => k_is); (case c => k_is); (case k => k_is))
      (case m3 => refine' Ork.mdef_mk Ork.bRTouch ?a ?i ?l ?c ?k; (case a => k_is); (case i => k_is); (case l => k_is); (case c => k_is); (case k => k_is))
      (case m4 => refine' Ork.mdef_mk Ork.bRGo ?a ?i ?l ?c ?k; (case a => k_is); (case i => k_is); (case l => k_is); (case c => k_is); (case k => k_is))
      (case m5 => refine' Ork.mdef_mk Ork.bRNext ?a ?i ?l ?c ?k; (case a => k_is); (case i => k_is); (case l => k_is); (case c => k_is); (case k => k_is))
    case cT =>
      refine' ⟨_, _root_.PySem.W.mg_of KX G ?g, ⟨⟨?pg, ?hd, ?po, ?sa⟩, ?n0, ?n1⟩, ?mk, ?kp, ?m0, ?m1⟩
      (case g => k_is); (case pg => k_is); (case hd => k_is); (case po => k_is); (case sa => k_is); (case mk => k_is); (case kp => k_is)
      (case n0 => (show _root_.PySem.W.findIn _ _ "held" = some none); k_is)
      (case n1 => (show _root_.PySem.W.findIn _ _ "runners" = some none); k_is)
      (case m0 => refine' Ork.mdef_mk Ork.bTInit ?a ?i ?l ?c ?k; (case a => k_is); (case i => k_is); (case l => k_is); (case c => k_is); (case k => k_is))
      (case m1 => refine' Ork.mdef_mk Ork.bTDo ?a ?i ?l ?c ?k; (case a => k_is); (case i => k_is); (case l => k_is); (case c => k_is); (case k => k_is))
    case B =>
      refine' ⟨_root_.PySem.W.mg_none_of KX G ?b0, _root_.PySem.W.mg_none_of KX G ?b1, _root_.PySem.W.mg_none_of KX G ?b2, _root_.PySem.W.mg_none_of KX G ?b3, _root_.PySem.W.mg_none_of KX G ?b4, _root_.PySem.W.mg_none_of KX G ?b5, _root_.PySem.W.mg_none_of KX G ?b6, _root_.PySem.W.mg_none_of KX G ?b7, _root_.PySem.W.mg_none_of KX G ?b8⟩
      (case b0 => k_is)
      (case b1 => k_is)
      (case b2 => k_is)
      (case b3 => k_is)
      (case b4 => k_is)
      (case b5 => k_is)
      (case b6 => k_is)
      (case b7 => k_is)
      (case b8 => k_is)
    case ms =>
      have e := _root_.PySem.W.mg_of (n := "MOST_SLOT") KX G (by k_is)
      exact ⟨_, e⟩
end OrkH
end
theorem PySem.Challenge.cw_orderless_k51_whole_schedules_holds : PySem.Challenge.rw_orderless_k51_whole_schedules.Holds := by
  exact OrkH.law_holds
