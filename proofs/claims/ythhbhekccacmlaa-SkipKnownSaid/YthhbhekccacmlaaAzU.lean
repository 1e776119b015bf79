/-
  What the runner says is a contract ('run_acalls'). Conditions: stated at each theorem.
-/
import Derived.Test.YthhbhekccacmlaaAzT
set_option linter.unusedSimpArgs false
set_option linter.unusedVariables false
namespace Go.Az
open Go Go.Chz Go.RowKit

/-! ### A scope through which the run goes without a goto -/
theorem wpIn_scope {F : Fence} {n : Nat} {P : Program} {c : Code} {Q : Exit → Act → World → Prop} {a : Act} {w : World} (h : c.wpIn F n P (Exit.noGoto Q) a w) : (Code.scope c).wpIn F n P Q a w := by
  intro b k cs hro hb hr
  have h0 : (lone (b.atR a (.code (.scope c) :: k)) cs w).fenced P F := fenced_calm hb hr rfl
  have s1 : step P (lone (b.atR a (.code (.scope c) :: k)) cs w) = .next (lone (b.atR a (.code c :: .inScope c :: k)) cs w) := step_lone_go (by simp [stepG, stepG.exec, Frame.atR])
  have s2 : ∀ a w, step P (lone (b.atR a (.inScope c :: k)) cs w) = .next (lone (b.atR a k) cs w) := fun a w => step_lone_go (by simp [stepG, stepG.exec, Frame.atR])
  obtain ⟨e, a₁, w₁, hq, harr⟩ := h b (.inScope c :: k) cs hro hb hr
  cases e with
  | normal => exact ⟨.normal, a₁, w₁, hq, .head h0 s1 (StepsIn.trans harr (.one (fenced_calm hb hr rfl) (s2 a₁ w₁)))⟩
  | exit id' =>
    have hx : exitTo id' (.inScope c :: k) = exitTo id' k := by simp [exitTo]
    exact ⟨.exit id', a₁, w₁, hq, fun k' hk => .head h0 s1 (harr.1 k' (by rw [hx]; exact hk)),
      fun hr' hk => let ⟨k₁, h1, h2⟩ := harr.2 hr' (by rw [hx]; exact hk); ⟨k₁, h1, .head h0 s1 h2⟩⟩
  | goto l => exact hq.elim
  | ret => exact ⟨_, a₁, w₁, hq, .of_steps (.one h0 s1) harr⟩
  | panic ch => exact ⟨_, a₁, w₁, hq, .of_steps (.one h0 s1) harr⟩
  | outgrown => exact ⟨_, a₁, w₁, hq, .of_steps (.one h0 s1) harr⟩
def noGo (K : Exit → Fr → Hp → Prop) : Exit → Fr → Hp → Prop
  | .goto _, _, _ => False
  | e, f, h => K e f h
section
variable {P : Program} {ρ : Nat → Place} {f : Fr} {h : Hp} {A : Act} {w : World} {m : Nat} {ro : Option Nat} {K : Exit → Fr → Hp → Prop}

theorem AW.mono {c : Code} {K' : Exit → Fr → Hp → Prop} (h1 : AW P m ro c K f h) (hk : ∀ e f h, K e f h → K' e f h) : AW P m ro c K' f h := by
  intro hro hm ρ A w R
  refine wpIn_mono (h1 hro hm ρ A w R) fun e A' w' hq => ?_
  cases e <;> first
    | exact hq
    | (obtain ⟨ρ2, f2, h2, hk2, R, S2, hm⟩ := hq; exact ⟨ρ2, f2, h2, hk _ _ _ hk2, R, S2, hm⟩)
theorem aw_scope {b : Code} (h1 : AW P m ro b (noGo K) f h) : AW P m ro (.scope b) K f h := by
  intro hro hmh ρ A w R
  refine wpIn_scope (wpIn_mono (h1 hro hmh ρ A w R) fun e A' w' hq => ?_)
  cases e with
  | goto l => obtain ⟨ρ', f', h', hk', _⟩ := hq; exact hk'.elim
  | normal => exact hq
  | exit i => exact hq
  | ret => exact hq
  | panic c => exact hq
  | outgrown => exact hq
theorem Wd_same {ρ' : Nat → Place} {h' : Hp} {w' : World} (hro : ∀ i, ro = some i → i < m) (S : Stp m ρ h w ρ' h' w') : (Wd (ro.map fun i => (ρ' i).b)) = (Wd (ro.map fun i => (ρ i).b)) := by
  cases ro with
  | none => rfl
  | some i => simp only [Option.map_some, S.same i (hro i rfl)]
theorem aw_seq {a b : Code} (h1 : AW P m ro a (thenK (AW P m ro b K) K) f h) : AW P m ro (.seq a b) K f h := by
  intro hro hm ρ A w R
  refine wpIn_seq (wpIn_mono (h1 hro hm ρ A w R) fun e A' w' hq => ?_)
  cases e with
  | normal =>
    obtain ⟨ρ', f', h', hk', R', S, hm'⟩ := hq
    have := hk' hro hm' ρ' A' w' R'
    rw [Wd_same hro S] at this
    exact wpIn_mono this fun e2 A2 w2 hq2 => AQ.trans S hq2
  | exit id => exact hq
  | goto l => exact hq
  | ret => exact hq
  | panic c => exact hq
  | outgrown => exact hq
theorem aw_cond {c : Operand} {a b : Code} {t : Bool} (ht : ev f c = .v (.bool t)) (h1 : AW P m ro (if t then a else b) K f h) : AW P m ro (.cond c a b) K f h := by
  intro hro hm ρ A w R
  exact wpIn_cond (t := t) (by rw [ev_real R.tmps, ht]; rfl) (h1 hro hm ρ A w R)
theorem aw_block {id : Nat} {b : Code} (h1 : AW P m ro b (blkK id K) f h) : AW P m ro (.block id b) K f h := by
  intro hro hm ρ A w R
  refine wpIn_block (wpIn_mono (h1 hro hm ρ A w R) fun e A' w' hq => ?_)
  cases e with
  | exit i =>
    obtain ⟨ρ', f', h', hk', R', S, hm'⟩ := hq
    simp only [blkK] at hk'
    simp only [Exit.inBlock]
    split
    · rename_i hid; rw [if_pos hid] at hk'; exact ⟨ρ', f', h', hk', R', S, hm'⟩
    · rename_i hid; rw [if_neg hid] at hk'; exact ⟨ρ', f', h', hk', R', S, hm'⟩
  | normal => exact hq
  | goto l => exact hq
  | ret => exact hq
  | panic c => exact hq
  | outgrown => exact hq
/-- So many rounds. -/
def ARd (P : Program) (m : Nat) (ro : Option Nat) (b : Code) (K : Exit → Fr → Hp → Prop) : Nat → Fr → Hp → Prop
  | 0, _, _ => False
  | k + 1, f, h => AW P m ro b (thenK (ARd P m ro b K k) K) f h
theorem aw_rounds {b : Code} (k : Nat) (hr : ARd P m ro b K k f h) : AW P m ro (.loop b) K f h := by
  intro hro hm ρ A w R
  have key : ∀ (k : Nat) (f' : Fr) (h' : Hp) (ρ' : Nat → Place) (A' : Act) (w' : World), ARd P m ro b K k f' h' → Rel P ρ' f' h' A' w' → Stp m ρ h w ρ' h' w' → m ≤ h'.length → Code.roundsIn (Wd (ro.map fun i => (ρ i).b)) 0 P b (AQ P m ρ h w K) k A' w' := by
    intro k
    induction k with
    | zero => intro f' h' ρ' A' w' hr; exact hr.elim
    | succ k ih =>
      intro f' h' ρ' A' w' hr R' S hm'
      have := hr hro hm' ρ' A' w' R'
      rw [Wd_same hro S] at this
      refine wpIn_mono this fun e A2 w2 hq => ?_
      cases e with
      | normal => obtain ⟨ρ2, f2, h2, hk2, R2, S2, hm2⟩ := hq; exact ih f2 h2 ρ2 A2 w2 hk2 R2 (S.trans S2 (Nat.le_refl _)) hm2
      | exit id => obtain ⟨ρ2, f2, h2, hk2, R2, S2, hm2⟩ := hq; exact ⟨ρ2, f2, h2, hk2, R2, S.trans S2 (Nat.le_refl _), hm2⟩
      | goto l => obtain ⟨ρ2, f2, h2, hk2, R2, S2, hm2⟩ := hq; exact ⟨ρ2, f2, h2, hk2, R2, S.trans S2 (Nat.le_refl _), hm2⟩
      | ret => obtain ⟨ρ2, f2, h2, hk2, R2, S2, hm2⟩ := hq; exact ⟨ρ2, f2, h2, hk2, R2, S.trans S2 (Nat.le_refl _), hm2⟩
      | panic c => exact hq
      | outgrown => exact hq
  exact wpIn_loop_rounds k (key k f h ρ A w hr R (Stp.refl _ _ _ _) hm)

/-! ### Regions -/
/-- What an operation's runner must be. -/
def XoOk (P : Program) (xo : Oper → Fr → Hp → Option (AV × Hp)) : Prop := ∀ o f h v h', xo o f h = some (v, h') → ∀ N : AV → Hp → Prop, N v h' → WOp P o f h N
theorem xL_ok {ops : Array Oper} {xo : Oper → Fr → Hp → Option (AV × Hp)} (hx : XoOk P xo) {K : Fr → Hp → Prop} : ∀ (l : List Nat) (f : Fr) (h : Hp) (f' : Fr) (h' : Hp), xL ops xo l f h = some (f', h') → K f' h' → wkL P ops l K f h
  | [], f, h, f', h', hr, hk => by
    simp only [xL, Option.some.injEq, Prod.mk.injEq] at hr
    obtain ⟨rfl, rfl⟩ := hr; exact hk
  | i :: r, f, h, f', h', hr, hk => by
    simp only [xL] at hr
    simp only [wkL]
    cases ho : ops[i]? with
    | none => simp only [ho] at hr ⊢; exact xL_ok hx r f h f' h' hr hk
    | some o =>
      simp only [ho] at hr ⊢
      split at hr
      · rename_i hw
        rw [if_pos hw]
        split at hr
        · rename_i v h1 hv
          simp only [fA_eq, fFr_eq] at hr
          exact hx o f h v h1 hv _ (xL_ok hx r _ h1 f' h' hr hk)
        · cases hr
      · rename_i hw
        rw [if_neg (by rw [hw]; simp)]
        simp only [fFr_eq] at hr
        exact xL_ok hx r _ h f' h' hr hk

theorem stays_spec {h h' : Hp} {us : List Nat} (hs : stays h us h' = true) (i : Nat) (hi : i ∈ us) (o : AObj) (ho : h[i]? = some o) : h'[i]? = some o := by
  have := List.all_eq_true.1 hs i hi
  rw [ho] at this
  cases hb : h'[i]? with
  | none => rw [hb] at this; cases this
  | some b => rw [hb] at this; rw [sameO_eq this]

theorem xD_ok {ops : Array Oper} {xo : Oper → Fr → Hp → Option (AV × Hp)} (hx : XoOk P xo) (hxl : ∀ o f h v h', xo o f h = some (v, h') → h.length ≤ h'.length) {h0 : Hp} {K : Fr → Hp → Prop} {uz : List Nat} :
    ∀ (l : List (Nat × Bool)) (f : Fr) (h : Hp) (us : List Nat) (hs : List Hp) (f' : Fr) (h' : Hp) (us' : List Nat) (hs' : List Hp), h0.length ≤ h.length → xD P ops xo h0 l f h us hs = some (f', h', us', hs') →
      (∀ i ∈ us', i ∈ uz) → hs'.all (stays h0 uz) = true → K f' h' → (∀ i ∈ us, i ∈ us') ∧ (∀ x ∈ hs, x ∈ hs') ∧ wkD P ops (keepH uz h0) l K f h
  | [], f, h, us, hs, f', h', us', hs', hl, hr, hu, hst, hk => by
    simp only [xD, Option.some.injEq, Prod.mk.injEq] at hr
    obtain ⟨rfl, rfl, rfl, rfl⟩ := hr
    exact ⟨fun _ h => h, fun _ h => h, hk⟩
  | (i, true) :: r, f, h, us, hs, f', h', us', hs', hl, hr, hu, hst, hk => by
    simp only [xD] at hr
    simp only [wkD]
    cases ho : ops[i]? with
    | none => simp only [ho] at hr; cases hr
    | some o =>
      simp only [ho] at hr ⊢
      split at hr
      · rename_i hw
        rw [if_pos hw]
        split at hr
        · rename_i v hv
          simp only [fA_eq, fFr_eq] at hr
          obtain ⟨h1, h2, h3⟩ := xD_ok hx hxl r _ h _ hs f' h' us' hs' hl hr hu hst hk
          refine ⟨fun j hj => h1 j (List.mem_append_right _ hj), h2, v, exL_reads hv fun j hj => ?_, h3⟩
          have hjz : j ∈ uz := hu j (h1 j (List.mem_append_left _ hj))
          simp only [padH, keepH_length]
          by_cases hlt : j < h0.length
          · rw [List.getElem?_append_left (by rw [keepH_length]; exact hlt), List.getElem?_append_left hlt, keepH_get]
            have : uz.contains j = true := by simpa using hjz
            simp only [this, if_true]
            cases h0[j]? <;> rfl
          · rw [List.getElem?_append_right (by rw [keepH_length]; omega), List.getElem?_append_right (by omega), keepH_length]
        · cases hr
      · rename_i hw
        rw [if_neg (by rw [hw]; simp)]
        simp only [fFr_eq] at hr
        exact xD_ok hx hxl r _ h us hs f' h' us' hs' hl hr hu hst hk
  | (i, false) :: r, f, h, us, hs, f', h', us', hs', hl, hr, hu, hst, hk => by
    simp only [xD] at hr
    simp only [wkD]
    cases ho : ops[i]? with
    | none => simp only [ho] at hr; cases hr
    | some o =>
      simp only [ho] at hr ⊢
      split at hr
      · rename_i hw
        rw [if_pos hw]
        split at hr
        · rename_i v h1 hv
          simp only [fA_eq, fFr_eq] at hr
          have hl1 := hxl o f h v h1 hv
          obtain ⟨a1, a2, a3⟩ := xD_ok hx hxl r _ h1 us (h1 :: hs) f' h' us' hs' (Nat.le_trans hl hl1) hr hu hst hk
          refine ⟨a1, fun x hx => a2 x (by simp [hx]), hx o f h v h1 hv _ ⟨keeps_of (by rw [keepH_length]; omega) fun j q hj => ?_, a3⟩⟩
          have hs1 : stays h0 uz h1 = true := List.all_eq_true.1 hst h1 (a2 h1 (by simp))
          rw [keepH_get] at hj
          obtain ⟨q0, hq0, rfl⟩ := Option.map_eq_some_iff.1 hj
          by_cases hc : uz.contains j = true
          · rw [if_pos hc]
            exact .inr (stays_spec hs1 j (by simpa using hc) q0 hq0)
          · rw [if_neg hc]; exact .inl rfl
        · cases hr
      · rename_i hw
        rw [if_neg (by rw [hw]; simp)]
        simp only [fFr_eq] at hr
        exact xD_ok hx hxl r _ h us hs f' h' us' hs' hl hr hu hst hk
theorem xR_ok {ops : Array Oper} {xo : Oper → Fr → Hp → Option (AV × Hp)} (hx : XoOk P xo) (hxl : ∀ o f h v h', xo o f h = some (v, h') → h.length ≤ h'.length) {f f' : Fr} {h h' : Hp} {K : Fr → Hp → Prop} (hr : xR P ops xo f h = some (f', h')) (hk : K f' h') :
    ∃ l h0, ordOk ops l = true ∧ Keeps h0 h ∧ h0.length = h.length ∧ wkD P ops h0 l K f h := by
  unfold xR at hr
  split at hr <;> first | (cases hr; done) | skip
  rename_i l hl
  split at hr <;> first | (cases hr; done) | skip
  rename_i ho
  split at hr <;> first | (cases hr; done) | skip
  rename_i f2 h2 us hs hd
  split at hr <;> first | (cases hr; done) | skip
  rename_i hst
  simp only [Option.some.injEq, Prod.mk.injEq] at hr
  obtain ⟨rfl, rfl⟩ := hr
  refine ⟨l, keepH us h, ho, keeps_of (by rw [keepH_length]; exact Nat.le_refl _) fun i q hi => ?_, keepH_length _ _, (xD_ok hx hxl l f h [] [] _ _ us hs (Nat.le_refl _) hd (fun _ h => h) hst hk).2.2⟩
  rw [keepH_get] at hi
  obtain ⟨q0, hq0, rfl⟩ := Option.map_eq_some_iff.1 hi
  split
  · exact .inr hq0
  · exact .inl rfl
end
end Go.Az
