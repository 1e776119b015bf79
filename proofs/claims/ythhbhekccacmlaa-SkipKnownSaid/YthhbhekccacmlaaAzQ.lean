/-
  Loops, functions, ranges over functions, over abstract memory. Conditions: stated at each theorem.
-/
import Derived.Test.YthhbhekccacmlaaAzP
set_option linter.unusedSimpArgs false
set_option linter.unusedVariables false
namespace Go.Az
open Go Go.Chz Go.RowKit

section
variable {P : Program} {ρ : Nat → Place} {f : Fr} {h : Hp} {A : Act} {w : World} {m : Nat} {ro : Option Nat} {K : Exit → Fr → Hp → Prop}

/-- The state, seen otherwise: whatever it describes, something that R takes describes too; the numbers below m mean what they meant. -/
def Seen (P : Program) (m : Nat) (f : Fr) (h : Hp) (R : Fr → Hp → Prop) : Prop :=
  m ≤ h.length → ∀ ρ A w, Rel P ρ f h A w → ∃ ρ' f' h', R f' h' ∧ Rel P ρ' f' h' A w ∧ Stp m ρ h w ρ' h' w ∧ m ≤ h'.length
theorem Seen.same {R : Fr → Hp → Prop} (hr : R f h) : Seen P m f h R := fun hm ρ A w Rl => ⟨ρ, f, h, hr, Rl, Stp.refl _ _ _ _, hm⟩
theorem Seen.mono {R R' : Fr → Hp → Prop} (hs : Seen P m f h R) (hr : ∀ f h, R f h → R' f h) : Seen P m f h R' :=
  fun hm ρ A w Rl => let ⟨ρ', f', h', h1, h2⟩ := hs hm ρ A w Rl; ⟨ρ', f', h', hr _ _ h1, h2⟩
theorem Seen.then {R R' : Fr → Hp → Prop} (hs : Seen P m f h R) (hr : ∀ f h, R f h → Seen P m f h R') : Seen P m f h R' :=
  fun hm ρ A w Rl =>
    let ⟨ρ1, f1, h1, r1, Rl1, S1, m1⟩ := hs hm ρ A w Rl
    let ⟨ρ2, f2, h2, r2, Rl2, S2, m2⟩ := hr f1 h1 r1 m1 ρ1 A w Rl1
    ⟨ρ2, f2, h2, r2, Rl2, S1.trans S2 (Nat.le_refl _), m2⟩
/-- An object forgotten. -/
theorem Seen.drop (i : Nat) : Seen P m f h (fun f' h' => f' = f ∧ h' = h.set i .gone) :=
  fun hm ρ A w Rl => ⟨ρ, f, h.set i .gone, ⟨rfl, rfl⟩, ⟨Rl.tmps, by simpa using Rl.tsc, Rl.defers, by simpa using Rl.dsc, Rl.heap.drop i⟩, Stp.drop _ _, by simpa using hm⟩
theorem aw_seen {c : Code} (hs : Seen P m f h (fun f' h' => AW P m ro c K f' h')) : AW P m ro c K f h := by
  intro hro hm ρ A w Rl
  obtain ⟨ρ', f', h', hw, Rl', S, hm'⟩ := hs hm ρ A w Rl
  have e1 : (Wd (ro.map fun i => (ρ' i).b)) = (Wd (ro.map fun i => (ρ i).b)) := by
    cases ro with
    | none => rfl
    | some i => simp only [Option.map_some, S.same i (hro i rfl)]
  have := hw hro hm' ρ' A w Rl'
  rw [e1] at this
  exact wpIn_mono this fun e A2 w2 hq => AQ.trans S hq

theorem least (p : Nat → Prop) : ∀ n, p n → ∃ k, p k ∧ ∀ j, p j → k ≤ j := by
  intro n
  induction n using Nat.strongRecOn with
  | _ n ih =>
    intro hn
    by_cases hex : ∃ j, j < n ∧ p j
    · obtain ⟨j, hj, hp⟩ := hex
      exact ih j hj hp
    · exact ⟨n, hn, fun j hj => Nat.le_of_not_lt fun hlt => hex ⟨j, hlt, hj⟩⟩

/-- A LOOP. -/
theorem aw_loop (hm : P.follows .mixedOrders = true) {b : Code} (I : Nat → Fr → Hp → Prop) (n : Nat) (h0 : I n f h)
    (round : ∀ n f h, I n f h → wk P m ro b (fun e f' h' => match e with
      | .normal => Seen P m f' h' (fun f'' h'' => ∃ n', n' < n ∧ I n' f'' h'')
      | e => K e f' h') f h) : AW P m ro (.loop b) K f h := by
  intro hro hmh ρ A w R
  let T : Nat → Act → World → Prop := fun n A' w' => ∃ ρ' f' h', I n f' h' ∧ Rel P ρ' f' h' A' w' ∧ Stp m ρ h w ρ' h' w' ∧ m ≤ h'.length
  have hT : T n A w := ⟨ρ, f, h, h0, R, Stp.refl _ _ _ _, hmh⟩
  classical
  let μ : Act → World → Nat := fun A' w' => if hx : ∃ n, T n A' w' then Classical.choose (least (fun n => T n A' w') _ hx.choose_spec) else 0
  have hμ : ∀ A' w', (∃ n, T n A' w') → T (μ A' w') A' w' ∧ ∀ j, T j A' w' → μ A' w' ≤ j := by
    intro A' w' hx
    have : μ A' w' = Classical.choose (least (fun n => T n A' w') _ hx.choose_spec) := dif_pos hx
    rw [this]
    exact Classical.choose_spec (least (fun n => T n A' w') _ hx.choose_spec)
  refine wpIn_loop (fun A' w' => ∃ n, T n A' w') μ ⟨n, hT⟩ fun A' w' hx => ?_
  obtain ⟨⟨ρ', f', h', hI, R', S, hm'⟩, hmin⟩ := hμ A' w' hx
  have e1 : (Wd (ro.map fun i => (ρ' i).b)) = (Wd (ro.map fun i => (ρ i).b)) := by
    cases ro with
    | none => rfl
    | some i => simp only [Option.map_some, S.same i (hro i rfl)]
  have hw := wk_ok hm b _ f' h' (round _ f' h' hI) hro hm' ρ' A' w' R'
  rw [e1] at hw
  refine wpIn_mono hw fun e A2 w2 hq => ?_
  cases e with
  | normal =>
    obtain ⟨ρ2, f2, h2, hs, R2, S2, hm2⟩ := hq
    obtain ⟨ρ3, f3, h3, ⟨n', hlt, hI'⟩, R3, S3, hm3⟩ := hs hm2 ρ2 A2 w2 R2
    have hT' : T n' A2 w2 := ⟨ρ3, f3, h3, hI', R3, (S.trans S2 (Nat.le_refl _)).trans S3 (Nat.le_refl _), hm3⟩
    exact ⟨⟨n', hT'⟩, Nat.lt_of_le_of_lt ((hμ A2 w2 ⟨n', hT'⟩).2 n' hT') hlt⟩
  | exit id => obtain ⟨ρ2, f2, h2, hk, R2, S2, hm2⟩ := hq; exact ⟨ρ2, f2, h2, hk, R2, S.trans S2 (Nat.le_refl _), hm2⟩
  | goto l => obtain ⟨ρ2, f2, h2, hk, R2, S2, hm2⟩ := hq; exact ⟨ρ2, f2, h2, hk, R2, S.trans S2 (Nat.le_refl _), hm2⟩
  | ret => obtain ⟨ρ2, f2, h2, hk, R2, S2, hm2⟩ := hq; exact ⟨ρ2, f2, h2, hk, R2, S.trans S2 (Nat.le_refl _), hm2⟩
  | panic c => exact hq
  | outgrown => exact hq

/-! ### Functions -/
def resOne (P : Program) (f : Fr) (h : Hp) : ResultVar → Option AV
  | .tmp t => some (f.t.getD t (.v undef))
  | .cell a t => match f.t.getD a (.v undef) with
    | .ptr i o => ldc P h t i o
    | _ => none
def resAll (P : Program) (f : Fr) (h : Hp) : List ResultVar → Option (List AV)
  | [] => some []
  | r :: l => match resOne P f h r, resAll P f h l with
    | some a, some as' => some (a :: as')
    | _, _ => none
def resA (P : Program) (fn : Func) (f : Fr) (h : Hp) : Option AV :=
  match resAll P f h fn.results.toList with
  | some [a] => some a
  | some l => some (.tup l)
  | none => none
def dropAll (h : Hp) : List Nat → Option Hp
  | [] => some h
  | d :: r => match h[d]? with
    | some .dfr => dropAll (h.set d .gone) r
    | _ => none
/-- What the end of a function must be. -/
def RK (P : Program) (fn : Func) (N : AV → Hp → Prop) : Exit → Fr → Hp → Prop
  | .normal, f, h => ∃ h' r, dropAll h f.ds = some h' ∧ resA P fn f h' = some r ∧ N r h'
  | .ret, f, h => ∃ h' r, dropAll h f.ds = some h' ∧ resA P fn f h' = some r ∧ N r h'
  | _, _, _ => False

theorem getD_sc {n : Nat} {l : List AV} (hl : AV.scs n l = true) (t : Nat) : (l.getD t (.v undef)).sc n = true := by
  by_cases ht : t < l.length
  · simp only [List.getD_eq_getElem?_getD, List.getElem?_eq_getElem ht, Option.getD_some]
    exact (scs_iff n l).1 hl _ (List.getElem_mem ht)
  · simp only [List.getD_eq_getElem?_getD, List.getElem?_eq_none (Nat.le_of_not_lt ht), Option.getD_none]; rfl
theorem run_resAll (R : HRel P ρ h w) {tm : Array Value} (ht : tm = (AV.reals ρ f.t).toArray) (hs : AV.scs h.length f.t = true) : ∀ (l : List ResultVar) (as' : List AV), resAll P f h l = some as' →
    (l.mapM (resOf tm)).run P w = .ok (AV.reals ρ as') w ∧ AV.scs h.length as' = true
  | [], as', hr => by simp only [resAll, Option.some.injEq] at hr; subst hr; exact ⟨rfl, rfl⟩
  | r :: l, as', hr => by
    simp only [resAll] at hr
    split at hr
    · rename_i a as2 ha has
      injection hr with hr
      subst hr
      obtain ⟨h1, h2⟩ := run_resAll R ht hs l as2 has
      have h3 : (resOf tm r).run P w = .ok (a.real ρ) w ∧ a.sc h.length = true := by
        cases r with
        | tmp t =>
          simp only [resOne, Option.some.injEq] at ha
          subst ha
          simp only [resOf, Sem.run_pure, ht, getD_real]
          exact ⟨trivial, getD_sc hs t⟩
        | cell b t =>
          simp only [resOne] at ha
          split at ha <;> first | (cases ha; done) | skip
          rename_i i o hb
          have := run_ldc R ha
          simp only [resOf, ht, getD_real, hb, AV.real, asAddr, Sem.run_bind, Sem.run_pure, Result.andThen_ok, this.1]
          exact ⟨trivial, this.2⟩
      simp only [List.mapM_cons, Sem.run_bind, h3.1, h1, Result.andThen_ok, Sem.run_pure]
      exact ⟨rfl, by simp only [AV.scs, h3.2, h2, Bool.and_self]⟩
    · cases hr
theorem run_resA (R : HRel P ρ h w) {tm : Array Value} {fn : Func} {r : AV} (ht : tm = (AV.reals ρ f.t).toArray) (hs : AV.scs h.length f.t = true) (hr : resA P fn f h = some r) :
    (results fn tm).run P w = .ok (r.real ρ) w ∧ r.sc h.length = true := by
  have hmap : ∀ as' : List AV, resAll P f h fn.results.toList = some as' → (fn.results.mapM (resOf tm)).run P w = .ok (AV.reals ρ as').toArray w ∧ AV.scs h.length as' = true := by
    intro as' ha
    obtain ⟨h1, h2⟩ := run_resAll R ht hs _ _ ha
    refine ⟨?_, h2⟩
    rw [← Array.toArray_toList (xs := fn.results)]
    simp only [List.mapM_toArray, Sem.run_map, h1, Result.andThen_ok]
  rw [results_eq, Sem.run_bind]
  unfold resA at hr
  split at hr
  · rename_i a ha
    injection hr with hr; subst hr
    obtain ⟨h1, h2⟩ := hmap _ ha
    rw [h1]
    refine ⟨rfl, ?_⟩
    simpa [AV.scs] using h2
  · rename_i l hne hl
    injection hr with hr; subst hr
    obtain ⟨h1, h2⟩ := hmap _ hl
    rw [h1]
    refine ⟨?_, h2⟩
    simp only [Result.andThen_ok, Sem.run_pure]
    have : ¬ ((AV.reals ρ l).toArray.size = 1) := by
      rw [List.size_toArray, reals_length]
      intro h1
      obtain ⟨a, rfl⟩ := List.length_eq_one_iff.1 h1
      exact hne a rfl
    rw [dif_neg this]
    rfl
  · cases hr

theorem leave_ok {fn : Func} {R : Ending → World → Prop} : ∀ (ds : List Nat) (h : Hp) (w : World) (tm : Array Value) (h' : Hp), HRel P ρ h w → dropAll h ds = some h' →
    (∀ w', HRel P ρ h' w' → Stp h.length ρ h w ρ h' w' → ∃ v, (results fn tm).run P w' = .ok v w' ∧ R (.returned v) w') → LeavesInM (Wd none) 0 P fn tm R (ds.map fun d => markOf (ρ d).b) .returning w
  | [], h, w, tm, h', H, hd, hR => by
    simp only [dropAll, Option.some.injEq] at hd
    subst hd
    exact hR w H (Stp.refl _ _ _ _)
  | d :: r, h, w, tm, h', H, hd, hR => by
    simp only [dropAll] at hd
    split at hd <;> first | (cases hd; done) | skip
    rename_i hi
    have hg : w.heap[(ρ d).b]? = some (.deferred (some [])) := H.obj d _ hi
    have hget : (getObj (ρ d).b).run P w = .ok (.deferred (some [])) w := by simp only [getObj, Sem.run, hg]
    have hset := run_setObj (P := P) (w := w) (o' := .deferred none) hg (by intro _ _ _ h; cases h)
    have hp := H.setObj (ob := .deferred none) hi rfl (o := .gone) rfl trivial
    refine ⟨by simp, .inl ⟨(ρ d).b, _, rfl, ?_, leave_ok r _ _ tm h' hp.1 hd fun w' H' S' => hR w' H' ?_⟩⟩
    · simp only [Instr.takeDeferred, Sem.run_bind, hget, Result.andThen_ok, hset, Sem.run_pure]
    · have := hp.2.trans S' (by simp)
      exact this

theorem acalls_of_aw {g : FuncId} {fn : Func} {c : Code} {args : List AV} {N : AV → Hp → Prop} (hf : P.funcs[g]? = some fn) (hb : fn.body = some c)
    (hk : AW P h.length none c (RK P fn N) ⟨args ++ List.replicate (fn.ntmps - args.length) (.v undef), []⟩ h) : ACalls P g args h N := by
  intro ρ w H hs
  refine calls_of_Wd (n := 0) (callsIn_of_wp_marks hf hb trivial ?_)
  have hsr : AV.scs h.length (List.replicate (fn.ntmps - args.length) (AV.v undef)) = true := (scs_iff _ _).2 fun a ha => by rw [List.eq_of_mem_replicate ha]; rfl
  have hA : ((AV.reals ρ args).toArray ++ Array.replicate (fn.ntmps - (AV.reals ρ args).toArray.size) undef) = (AV.reals ρ (args ++ List.replicate (fn.ntmps - args.length) (.v undef))).toArray := by
    apply Array.ext'
    simp [reals_eq, AV.real]
  have R : Rel P ρ ⟨args ++ List.replicate (fn.ntmps - args.length) (.v undef), []⟩ h { tmps := (AV.reals ρ args).toArray ++ Array.replicate (fn.ntmps - (AV.reals ρ args).toArray.size) undef, defers := [] } w :=
    ⟨hA, scs_append hs hsr, rfl, fun d hd => (by cases hd), H⟩
  have := hk (fun i hi => by cases hi) (Nat.le_refl _) ρ _ w R
  refine wpIn_mono this fun e A' w' hq => ?_
  have key : ∀ {ρ' f' h'}, (∃ h'' r, dropAll h' f'.ds = some h'' ∧ resA P fn f' h'' = some r ∧ N r h'') → Rel P ρ' f' h' A' w' → Stp h.length ρ h w ρ' h' w' → h.length ≤ h'.length →
      LeavesInM (Wd none) 0 P fn A'.tmps (Post P ρ h w N) A'.defers .returning w' := by
    rintro ρ' f' h' ⟨h'', r, hd, hr, hn⟩ R' S hl
    rw [R'.defers]
    have hdl : ∀ (ds : List Nat) (h1 h2 : Hp), dropAll h1 ds = some h2 → h2.length = h1.length := by
      intro ds
      induction ds with
      | nil => intro h1 h2 hd; simp only [dropAll, Option.some.injEq] at hd; rw [hd]
      | cons d r ih =>
        intro h1 h2 hd
        simp only [dropAll] at hd
        split at hd
        · rw [ih _ _ hd]; simp
        · cases hd
    have hlen := hdl _ _ _ hd
    refine leave_ok f'.ds h' w' A'.tmps h'' R'.heap hd fun w2 H2 S2 => ?_
    have hres := run_resA (f := f') (tm := A'.tmps) (fn := fn) H2 R'.tmps (by rw [hlen]; exact R'.tsc) hr
    exact ⟨_, hres.1, ρ', r, h'', rfl, hres.2, by omega, hn, H2, S.trans S2 hl⟩
  cases e with
  | normal => obtain ⟨ρ', f', h', hk', R', S, hl⟩ := hq; exact key hk' R' S hl
  | ret => obtain ⟨ρ', f', h', hk', R', S, hl⟩ := hq; exact key hk' R' S hl
  | exit id => obtain ⟨ρ', f', h', hk', R', S, hl⟩ := hq; exact hk'.elim
  | goto l => obtain ⟨ρ', f', h', hk', R', S, hl⟩ := hq; exact hk'.elim
  | panic c => exact hq.elim
  | outgrown => exact hq.elim
theorem acalls_of_wk (hm : P.follows .mixedOrders = true) {g : FuncId} {fn : Func} {c : Code} {args : List AV} {N : AV → Hp → Prop} (hf : P.funcs[g]? = some fn) (hb : fn.body = some c)
    (hk : wk P h.length none c (RK P fn N) ⟨args ++ List.replicate (fn.ntmps - args.length) (.v undef), []⟩ h) : ACalls P g args h N := acalls_of_aw hf hb (wk_ok hm _ _ _ _ hk)
end
end Go.Az
