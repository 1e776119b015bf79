/-
  Ranges over functions, over abstract memory: the statement and a round. Conditions: stated at each theorem.
-/
import Derived.Test.YthhbhekccacmlaaAzQ
set_option linter.unusedSimpArgs false
set_option linter.unusedVariables false
namespace Go.Az
open Go Go.Chz Go.RowKit

section
variable {P : Program} {ρ : Nat → Place} {f : Fr} {h : Hp} {A : Act} {w : World} {m : Nat} {ro : Option Nat} {K : Exit → Fr → Hp → Prop}

def begA (i : Nat) (h : Hp) : Option Hp :=
  match h[i]? with
  | some (.loop .ready pe tm ps asg bd d) => some (h.set i (.loop .busy pe tm ps asg bd d))
  | _ => none
def endA (i : Nat) (jump : Option Code) (h : Hp) : Option Hp :=
  match h[i]? with
  | some (.loop _ _ tm ps asg bd d) => some (h.set i (.loop (if jump.isNone then .ready else .done) jump tm ps asg bd d))
  | _ => none
def roundK (i : Nat) (N : AV → Hp → Prop) : Exit → Fr → Hp → Prop
  | .normal, _, h => ∃ h', endA i none h = some h' ∧ N (.v (.bool true)) h'
  | .ret, _, h => ∃ h', endA i (some .ret) h = some h' ∧ N (.v (.bool false)) h'
  | .exit id, _, h => ∃ h', endA i (some (.exit id)) h = some h' ∧ N (.v (.bool false)) h'
  | .goto t, _, h => ∃ h', endA i (some (.goto t)) h = some h' ∧ N (.v (.bool false)) h'
  | _, _, _ => False
def asgK (P : Program) (m : Nat) (i : Nat) (bd : Code) (N : AV → Hp → Prop) : Exit → Fr → Hp → Prop
  | .normal, f, h => ∃ h', begA i h = some h' ∧ AW P m (some i) bd (roundK i N) f h'
  | _, _, _ => False

theorem run_loopSet (H : HRel P ρ h w) {i : Nat} {st : LoopState} {pe : Option Code} {tm : List AV} {ps : Array Tmp} {asg bd : Code} {d : Nat} (hi : h[i]? = some (.loop st pe tm ps asg bd d)) :
    ∃ fn, (Instr.getLoop (ρ i).b).run P w = .ok { state := st, pending := pe, fn, tmps := (AV.reals ρ tm).toArray, params := ps, assign := asg, body := bd, defers := (ρ d).b } w ∧
    ∀ st' pe', ∃ w', (setObj (ρ i).b (.loop { state := st', pending := pe', fn, tmps := (AV.reals ρ tm).toArray, params := ps, assign := asg, body := bd, defers := (ρ d).b })).run P w = .ok () w' ∧
      HRel P ρ (h.set i (.loop st' pe' tm ps asg bd d)) w' ∧ Stp h.length ρ h w ρ (h.set i (.loop st' pe' tm ps asg bd d)) w' := by
  obtain ⟨fn, hg⟩ := H.obj i _ hi
  have hlt : (ρ i).b < w.heap.size := H.lt hi rfl
  refine ⟨fn, ?_, fun st' pe' => ?_⟩
  · have hget : (getObj (ρ i).b).run P w = .ok (.loop { state := st, pending := pe, fn, tmps := (AV.reals ρ tm).toArray, params := ps, assign := asg, body := bd, defers := (ρ d).b }) w := by
      simp only [getObj, Sem.run, hg]
    simp only [Instr.getLoop, Sem.run_bind, hget, Result.andThen_ok, Sem.run_pure]
  · have hset := run_setObj (P := P) (w := w) (o' := .loop { state := st', pending := pe', fn, tmps := (AV.reals ρ tm).toArray, params := ps, assign := asg, body := bd, defers := (ρ d).b }) hg (by intro _ _ _ h; cases h)
    have hp := H.setObj (ob := .loop { state := st', pending := pe', fn, tmps := (AV.reals ρ tm).toArray, params := ps, assign := asg, body := bd, defers := (ρ d).b }) hi rfl (o := .loop st' pe' tm ps asg bd d) (by have := H.sc i _ hi; exact this) ⟨fn, by simp only [Array.getElem?_setIfInBounds_self_of_lt hlt]⟩
    exact ⟨_, hset, hp.1, hp.2⟩

theorem setAll_sc {n : Nat} : ∀ (l : List (Tmp × AV)) (t : List AV), AV.scs n t = true → (∀ p ∈ l, p.2.sc n = true) → AV.scs n (setAll t l) = true
  | [], t, ht, _ => ht
  | (p, v) :: r, t, ht, hl => by
    refine setAll_sc r _ ((scs_iff _ _).2 fun a ha => ?_) (fun q hq => hl q (by simp [hq]))
    rcases List.mem_or_eq_of_mem_set ha with h1 | h1
    · exact (scs_iff _ _).1 ht a h1
    · exact h1 ▸ hl (p, v) (by simp)

/-- A ROUND. -/
theorem ayld_of_aw {i : Nat} {args : List AV} {N : AV → Hp → Prop} {st : LoopState} {pe : Option Code} {tm : List AV} {ps : Array Tmp} {asg bd : Code} {d : Nat} (hi : h[i]? = some (.loop st pe tm ps asg bd d)) (hl : args.length = ps.size)
    (hk : AW P h.length (some i) asg (asgK P h.length i bd N) ⟨setAll tm (ps.toList.zip args), []⟩ h) : AYld P i args h N := by
  refine ⟨st, pe, tm, ps, asg, bd, d, hi, hl, fun fn ρ w H hs => roundIn_of_wpIn trivial ?_⟩
  have hil : i < h.length := (List.getElem?_eq_some_iff.1 hi).1
  have hro : ∀ j, some i = some j → j < h.length := by intro j hj; injection hj with hj; subst hj; exact hil
  have htm : AV.scs h.length tm = true := by
    have := H.sc i _ hi
    simp only [AObj.sc, Bool.and_eq_true] at this
    exact this.1
  have R : Rel P ρ ⟨setAll tm (ps.toList.zip args), []⟩ h { tmps := (AV.reals ρ (setAll tm (ps.toList.zip args))).toArray, defers := [] } w :=
    ⟨rfl, setAll_sc _ _ htm (fun p hp => (scs_iff _ args).1 hs _ (List.of_mem_zip hp).2), rfl, fun d hd => (by cases hd), H⟩
  have := hk hro (Nat.le_refl _) ρ _ w R
  refine wpIn_mono this fun e A1 w1 hq => ?_
  cases e with
  | normal =>
    obtain ⟨ρ1, f1, h1, ⟨h1', hb, hbd⟩, R1, S1, hm1⟩ := hq
    unfold begA at hb
    split at hb <;> first | (cases hb; done) | skip
    rename_i pe1 tm1 ps1 asg1 bd1 d1 hi1
    injection hb with hb
    subst hb
    have e1 : ρ1 i = ρ i := S1.same i hil
    obtain ⟨fn1, hgl, hst⟩ := run_loopSet R1.heap hi1
    obtain ⟨w2, hset, H2, S2⟩ := hst .busy pe1
    have hbeg : (Instr.beginRound (ρ i).b).run P w1 = .ok () w2 := by
      rw [← e1]
      simp only [Instr.beginRound, Sem.run_bind, hgl, hset, Result.andThen_ok, Sem.run_pure]
    refine ⟨w2, hbeg, ?_⟩
    have R2 : Rel P ρ1 f1 (h1.set i (.loop .busy pe1 tm1 ps1 asg1 bd1 d1)) A1 w2 := R1.later H2 S2 (by simp)
    have hw := hbd hro (by simpa using hm1) ρ1 A1 w2 R2
    have e2 : (Wd ((some i).map fun i => (ρ1 i).b)) = (Wd none).inRound (ρ i).b := by simp only [Option.map_some, e1]; rfl
    rw [e2] at hw
    have fin : ∀ {ρ3 : Nat → Place} {f3 : Fr} {h3 h4 : Hp} {A3 : Act} {w3 : World} {jump : Option Code} {b : Bool}, endA i jump h3 = some h4 → b = jump.isNone → N (.v (.bool b)) h4 → Rel P ρ3 f3 h3 A3 w3 → Stp h.length ρ1 (h1.set i (.loop .busy pe1 tm1 ps1 asg1 bd1 d1)) w2 ρ3 h3 w3 → h.length ≤ h3.length →
        ∃ v w4, (Instr.endRound (ρ i).b jump).run P w3 = .ok v w4 ∧ Post P ρ h w N (.returned v) w4 := by
      intro ρ3 f3 h3 h4 A3 w3 jump b he hb hn R3 S3 hl3
      unfold endA at he
      split at he <;> first | (cases he; done) | skip
      rename_i st3 pe3 tm3 ps3 asg3 bd3 d3 hi3
      injection he with he
      subst he
      subst hb
      have e3 : ρ3 i = ρ i := (S3.same i hil).trans e1
      obtain ⟨fn3, hgl3, hst3⟩ := run_loopSet R3.heap hi3
      obtain ⟨w4, hset3, H4, S4⟩ := hst3 (if jump.isNone then .ready else .done) jump
      refine ⟨.bool jump.isNone, w4, ?_, ρ3, _, _, rfl, rfl, by simpa using hl3, hn, H4, ?_⟩
      · rw [← e3]
        simp only [Instr.endRound, Sem.run_bind, hgl3, hset3, Result.andThen_ok, Sem.run_pure]
      · exact ((S1.trans (S2.less hm1) (Nat.le_refl _)).trans S3 (Nat.le_refl _)).trans (S4.less hl3) (Nat.le_refl _)
    refine wpIn_mono hw fun e A3 w3 hq3 => ?_
    cases e with
    | normal => obtain ⟨ρ3, f3, h3, ⟨h4, he, hn⟩, R3, S3, hl3⟩ := hq3; exact fin he rfl hn R3 S3 hl3
    | ret => obtain ⟨ρ3, f3, h3, ⟨h4, he, hn⟩, R3, S3, hl3⟩ := hq3; exact fin he rfl hn R3 S3 hl3
    | exit id => obtain ⟨ρ3, f3, h3, ⟨h4, he, hn⟩, R3, S3, hl3⟩ := hq3; exact fin he rfl hn R3 S3 hl3
    | goto t => obtain ⟨ρ3, f3, h3, ⟨h4, he, hn⟩, R3, S3, hl3⟩ := hq3; exact fin he rfl hn R3 S3 hl3
    | panic c => exact hq3.elim
    | outgrown => exact hq3.elim
  | exit id => obtain ⟨_, _, _, hk, _⟩ := hq; exact hk.elim
  | goto l => obtain ⟨_, _, _, hk, _⟩ := hq; exact hk.elim
  | ret => obtain ⟨_, _, _, hk, _⟩ := hq; exact hk.elim
  | panic c => exact hq.elim
  | outgrown => exact hq.elim

/-- Behind the iterator. -/
def behA (P : Program) (m : Nat) (i : Nat) (K : Exit → Fr → Hp → Prop) (f : Fr) (h : Hp) : Prop :=
  ∃ st pe tm ps asg bd d, h[i]? = some (.loop st pe tm ps asg bd d) ∧ (st == .busy) = false ∧
    (match pe with
     | none => K .normal f (h.set i .gone)
     | some c => AW P m none c K f (h.set i .gone))
/-- THE STATEMENT 'for .. := range g'. -/
theorem aw_range {g : Operand} {ps : Array Tmp} {asg bd : Code} {gf : FuncId} {cs : List AV} (hg : ev f g = .fn (.func gf) cs) (hok : okFn P gf = true)
    (hc : ACalls P gf (.yld (h.length + 1) :: cs) (h ++ [.dfr] ++ [.loop .ready none f.t ps asg bd h.length]) (fun _ h' => behA P m (h.length + 1) K ⟨f.t, h.length :: f.ds⟩ h')) :
    AW P m none (.rangeFunc g ps asg bd) K f h := by
  intro hro hmh ρ A w R
  refine wpIn_rangeFunc fun fn _ => ?_
  have hp1 := Stp.pushObj (ob := .deferred (some [])) R.heap (o := .dfr) rfl (by simp only [ORel]; exact heap_alloc_new w _)
  have hlen1 : (h ++ [AObj.dfr]).length = h.length + 1 := by simp
  have hsz1 : (w.alloc (.deferred (some []))).heap.size = w.heap.size + 1 := by simp
  have R1 : Rel P _ f (h ++ [AObj.dfr]) A (w.alloc (.deferred (some []))) := R.later hp1.1 hp1.2 (by simp)
  have hcs := ev_sc R.tsc g
  rw [hg] at hcs
  have htm : A.tmps = (AV.reals (upd ρ h.length ⟨w.heap.size, 0, 0⟩) f.t).toArray := R1.tmps
  have hagree : ∀ (p q : Place) (l : List AV), AV.scs h.length l = true → AV.reals (upd (upd ρ h.length p) (h.length + 1) q) l = AV.reals ρ l := fun p q l hl =>
    reals_agree (fun i hi => by rw [upd_ne _ _ (by omega), upd_ne _ _ (by omega)]) l hl
  have hp2 := Stp.pushObj (ob := .loop { state := .ready, pending := none, fn, tmps := A.tmps, params := ps, assign := asg, body := bd, defers := w.heap.size }) hp1.1 (o := .loop .ready none f.t ps asg bd h.length)
    (by simp only [AObj.sc, Bool.and_eq_true, Nat.blt_eq]; exact ⟨scs_mono (by simp <;> omega) _ R.tsc, by simp <;> omega⟩)
    (by
      simp only [ORel, hlen1]
      rw [hagree _ _ _ R.tsc, ← R.tmps]
      rw [show (upd (upd ρ h.length ⟨w.heap.size, 0, 0⟩) (h.length + 1) ⟨(w.alloc (.deferred (some []))).heap.size, 0, 0⟩ h.length).b = w.heap.size by rw [upd_ne _ _ (by omega), upd_same]]
      exact ⟨fn, heap_alloc_new _ _⟩)
  rw [hlen1] at hp2
  have S2 := hp1.2.trans hp2.2 (by omega)
  have hen : (Instr.enterLoop fn A.tmps ps asg bd none).run P w = .ok (w.heap.size + 1, [markOf w.heap.size]) ((w.alloc (.deferred (some []))).alloc (.loop { state := .ready, pending := none, fn, tmps := A.tmps, params := ps, assign := asg, body := bd, defers := w.heap.size })) := by
    simp only [Instr.enterLoop, Sem.run_bind, run_newObj, Result.andThen_ok, Sem.run_pure, World.alloc_eq, hsz1, markOf]
  have hcall := hc _ _ hp2.1 (by
    simp only [AV.scs, AV.sc, Bool.and_eq_true, Nat.blt_eq]
    refine ⟨by simp, scs_mono (by simp <;> omega) _ hcs⟩)
  obtain ⟨W2, hW2⟩ : ∃ W2, (w.alloc (.deferred (some []))).alloc (.loop { state := .ready, pending := none, fn, tmps := A.tmps, params := ps, assign := asg, body := bd, defers := w.heap.size }) = W2 := ⟨_, rfl⟩
  rw [hW2] at hen hcall hp2 S2
  refine ⟨w.heap.size + 1, [markOf w.heap.size], W2, { target := .fn (.func gf) (AV.reals ρ cs).toArray, args := #[.func (.yield (w.heap.size + 1)) #[] #[]] }, W2, gf, #[.func (.yield (w.heap.size + 1)) #[] #[]] ++ (AV.reals ρ cs).toArray, W2, hen, ?_, fun _ _ => trivial, ?_, fun h => (by cases h), ?_⟩
  · simp only [resolve, rangeCall, ev_real R.tmps, hg, AV.real, Deferred.ofValue, Sem.run_pure]
    simp [Act.eval]
  · simp only [invoke]
    exact run_callFunc hok _ _
  · have hargs : (AV.reals (upd (upd ρ h.length ⟨w.heap.size, 0, 0⟩) (h.length + 1) ⟨(w.alloc (.deferred (some []))).heap.size, 0, 0⟩) (.yld (h.length + 1) :: cs)).toArray = #[.func (.yield (w.heap.size + 1)) #[] #[]] ++ (AV.reals ρ cs).toArray := by
      rw [AV.reals, hagree _ _ _ hcs]
      simp only [AV.real, upd_same, hsz1]
      apply Array.ext'
      simp
    rw [hargs] at hcall
    refine callsIn_Wd (hcall.mono fun e w3 hp => ?_)
    obtain ⟨ρ3, r3, h3, rfl, hs3, hl3, ⟨st, pe, tm3, ps3, asg3, bd3, d3, hi3, hst, hk⟩, H3, S3⟩ := hp
    have hl3' : h.length + 2 ≤ h3.length := by simpa using hl3
    have S3' := S2.trans S3 (by simp <;> omega)
    obtain ⟨fn3, hgl, hsl⟩ := run_loopSet H3 hi3
    have e3 : ρ3 (h.length + 1) = ⟨w.heap.size + 1, 0, 0⟩ := by
      rw [S3.same (h.length + 1) (by simp), upd_same, hsz1]
    obtain ⟨w4, hset4, H4, S4⟩ : ∃ w4, (setObj (w.heap.size + 1) (.loop { state := .exhausted, pending := pe, fn := fn3, tmps := (AV.reals ρ3 tm3).toArray, params := ps3, assign := asg3, body := bd3, defers := (ρ3 d3).b })).run P w3 = .ok () w4 ∧ HRel P ρ3 (h3.set (h.length + 1) .gone) w4 ∧ Stp h3.length ρ3 h3 w3 ρ3 (h3.set (h.length + 1) .gone) w4 := by
      obtain ⟨w4, a1, a2, a3⟩ := hsl .exhausted pe
      rw [e3] at a1
      have e5 : h3.set (h.length + 1) .gone = (h3.set (h.length + 1) (.loop .exhausted pe tm3 ps3 asg3 bd3 d3)).set (h.length + 1) .gone := by rw [List.set_set]
      rw [e5]
      exact ⟨w4, a1, a2.drop _, a3.trans (Stp.drop _ _) (Nat.le_refl _)⟩
    rw [e3] at hgl
    have hend : (Instr.endLoop (w.heap.size + 1)).run P w3 = .ok pe w4 := by
      simp only [Instr.endLoop, Sem.run_bind, hgl, Result.andThen_ok, hst, Bool.false_eq_true, if_false, hset4, Sem.run_pure]
    have R4 : Rel P ρ3 ⟨f.t, h.length :: f.ds⟩ (h3.set (h.length + 1) .gone) { A with defers := [markOf w.heap.size] ++ A.defers } w4 := by
      refine ⟨?_, ?_, ?_, ?_, H4⟩
      · show A.tmps = _
        rw [R.tmps, reals_agree S3'.same _ R.tsc]
      · exact scs_mono (by simp <;> omega) _ R.tsc
      · show [markOf w.heap.size] ++ A.defers = _
        have e6 : (ρ3 h.length).b = w.heap.size := by
          rw [S3.same h.length (by simp <;> omega), upd_ne _ _ (by omega), upd_same]
        have e7 : f.ds.map (fun d => markOf (ρ3 d).b) = f.ds.map (fun d => markOf (ρ d).b) := List.map_congr_left fun d hd => by rw [S3'.same d (R.dsc d hd)]
        rw [R.defers, List.map_cons, e6, e7]
        rfl
      · intro d hd
        simp only [List.length_set]
        rcases List.mem_cons.1 hd with rfl | hd
        · omega
        · have := R.dsc d hd; omega
    have S5 := S3'.trans S4 (by omega)
    refine ⟨pe, w4, hend, ?_⟩
    cases pe with
    | none => exact ⟨ρ3, _, _, hk, R4, S5.less hmh, by simp <;> omega⟩
    | some c =>
      have := hk (fun i hi => (by cases hi)) (by simp <;> omega) ρ3 _ w4 R4
      exact wpIn_mono this fun e A5 w5 hq => AQ.trans (S5.less hmh) hq
end
end Go.Az
