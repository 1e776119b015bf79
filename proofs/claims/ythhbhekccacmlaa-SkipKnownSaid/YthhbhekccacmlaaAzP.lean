/-
  'wk' of a piece of code over abstract memory, and that it says what the model does ('wk_ok'); loops; functions. Conditions: stated at each theorem.
-/
import Derived.Test.YthhbhekccacmlaaAzO
set_option linter.unusedSimpArgs false
set_option linter.unusedVariables false
namespace Go.Az
open Go Go.Chz Go.RowKit

/-- What the ways out of a piece of code must be. -/
def AQ (P : Program) (m : Nat) (ρ : Nat → Place) (h : Hp) (w : World) (K : Exit → Fr → Hp → Prop) : Exit → Act → World → Prop
  | .panic _, _, _ => False
  | .outgrown, _, _ => False
  | e, A, w' => ∃ ρ' f' h', K e f' h' ∧ Rel P ρ' f' h' A w' ∧ Stp m ρ h w ρ' h' w' ∧ m ≤ h'.length
def AW (P : Program) (m : Nat) (ro : Option Nat) (c : Code) (K : Exit → Fr → Hp → Prop) (f : Fr) (h : Hp) : Prop :=
  (∀ i, ro = some i → i < m) → m ≤ h.length → ∀ ρ A w, Rel P ρ f h A w → c.wpIn (Wd (ro.map fun i => (ρ i).b)) 0 P (AQ P m ρ h w K) A w

/-- The objects of the first memory that are named in it lie so in the second. -/
def Keeps : Hp → Hp → Prop
  | [], _ => True
  | .gone :: r, [] => Keeps r []
  | .gone :: r, _ :: r' => Keeps r r'
  | _ :: _, [] => False
  | o :: r, o' :: r' => o = o' ∧ Keeps r r'
theorem Keeps.get : ∀ {a b : Hp}, Keeps a b → ∀ (i : Nat) (o : AObj), a[i]? = some o → o = .gone ∨ b[i]? = some o
  | [], _, _, i, o, hi => by simp at hi
  | x :: r, [], hk, i, o, hi => by
    cases x with
    | gone =>
      simp only [Keeps] at hk
      cases i with
      | zero => simp at hi; exact .inl hi.symm
      | succ i => exact Keeps.get hk i o (by simpa using hi)
    | _ => simp [Keeps] at hk
  | x :: r, y :: r', hk, i, o, hi => by
    have key : (x = .gone ∨ x = y) ∧ Keeps r r' := by cases x <;> simp_all [Keeps]
    cases i with
    | zero => simp at hi ⊢; subst hi; rcases key.1 with h | h <;> simp [h]
    | succ i => exact Keeps.get key.2 i o (by simpa using hi)
theorem keeps_of {a b : Hp} (hl : a.length ≤ b.length) (hk : ∀ (i : Nat) (o : AObj), a[i]? = some o → o = .gone ∨ b[i]? = some o) : Keeps a b := by
  induction a generalizing b with
  | nil => trivial
  | cons x r ih =>
    cases b with
    | nil => simp at hl
    | cons y s =>
      have h0 := hk 0 x (by simp)
      have hr : Keeps r s := ih (by simpa using hl) fun i o hi => by have := hk (i + 1) o (by simpa using hi); simpa using this
      rcases h0 with rfl | h0
      · exact hr
      · simp at h0; subst h0
        cases y <;> first | exact hr | exact ⟨rfl, hr⟩
def maskH (l : List Nat) (h : Hp) : Hp := l.foldl (fun h i => h.set i .gone) h
theorem maskH_length : ∀ (l : List Nat) (h : Hp), (maskH l h).length = h.length
  | [], h => rfl
  | i :: l, h => by rw [maskH, List.foldl_cons]; exact (maskH_length l (h.set i .gone)).trans (by simp)
theorem HRel.mask {P : Program} {ρ : Nat → Place} {w : World} : ∀ (l : List Nat) {h : Hp}, HRel P ρ h w → HRel P ρ (maskH l h) w
  | [], _, H => H
  | i :: l, h, H => HRel.mask l (H.drop i)
theorem HRel.keeps {P : Program} {ρ : Nat → Place} {w : World} {h0 h : Hp} (H : HRel P ρ h w) (hk : Keeps h0 h) (hs : ∀ (i : Nat) (o : AObj), h0[i]? = some o → o.sc h0.length = true) : HRel P ρ h0 w := by
  refine ⟨fun i o hi => ?_, hs, fun i j o o' hi hj ho ho' hne => ?_⟩
  · rcases hk.get i o hi with rfl | h1
    · trivial
    · exact H.obj i o h1
  · rcases hk.get i o hi with rfl | h1
    · cases ho
    · rcases hk.get j o' hj with rfl | h2
      · cases ho'
      · exact H.apart i j o o' h1 h2 ho ho' hne

/-- As long as another memory. -/
def padH (h0 h : Hp) : Hp := h0 ++ List.replicate (h.length - h0.length) .gone
theorem padH_length (h0 h : Hp) (hl : h0.length ≤ h.length) : (padH h0 h).length = h.length := by simp [padH]; omega
theorem HRel.pad {P : Program} {ρ : Nat → Place} {w : World} {h0 : Hp} (H : HRel P ρ h0 w) (h : Hp) (hl : h0.length ≤ h.length) : HRel P ρ (padH h0 h) w := by
  have hsplit : ∀ (j : Nat) (y : AObj), (padH h0 h)[j]? = some y → h0[j]? = some y ∨ y = .gone := by
    intro j y hj
    unfold padH at hj
    by_cases hlt : j < h0.length
    · rw [List.getElem?_append_left hlt] at hj; exact .inl hj
    · rw [List.getElem?_append_right (by omega)] at hj
      exact .inr (List.eq_of_mem_replicate (List.mem_of_getElem? hj))
  refine ⟨fun j y hj => ?_, fun j y hj => ?_, fun j k y z hj hk hy hz hne => ?_⟩
  · rcases hsplit j y hj with h1 | rfl
    · exact H.obj j y h1
    · trivial
  · rw [padH_length h0 h hl]
    rcases hsplit j y hj with h1 | rfl
    · exact AObj.sc_mono hl (H.sc j y h1)
    · rfl
  · rcases hsplit j y hj with h1 | rfl
    · rcases hsplit k z hk with h2 | rfl
      · exact H.apart j k y z h1 h2 hy hz hne
      · cases hz
    · cases hy

/-! ### Regions -/
def wkL (P : Program) (ops : Array Oper) : List Nat → (Fr → Hp → Prop) → Fr → Hp → Prop
  | [], K, f, h => K f h
  | i :: r, K, f, h => match ops[i]? with
    | none => wkL P ops r K f h
    | some o => if wantA ops f o = true then WOp P o f h (fun v h' => wkL P ops r K (f.put o.dst v) h') else wkL P ops r K (f.put o.dst (.v undef)) h
def wkD (P : Program) (ops : Array Oper) (h0 : Hp) : List (Nat × Bool) → (Fr → Hp → Prop) → Fr → Hp → Prop
  | [], K, f, h => K f h
  | (i, true) :: r, K, f, h => match ops[i]? with
    | none => False
    | some o => if wantA ops f o = true then ∃ v, exL P f (padH h0 h) o.op = some v ∧ wkD P ops h0 r K (f.put o.dst v) h else wkD P ops h0 r K (f.put o.dst (.v undef)) h
  | (i, false) :: r, K, f, h => match ops[i]? with
    | none => False
    | some o => if wantA ops f o = true then WOp P o f h (fun v h' => Keeps h0 h' ∧ wkD P ops h0 r K (f.put o.dst v) h') else wkD P ops h0 r K (f.put o.dst (.v undef)) h

section
variable {P : Program} {ρ : Nat → Place} {f : Fr} {h : Hp} {A : Act} {w : World} {m : Nat} {ro : Option Nat} {K : Exit → Fr → Hp → Prop}

theorem AQ.trans {ρ' : Nat → Place} {h' : Hp} {w' : World} (S : Stp m ρ h w ρ' h' w') {e : Exit} {A' : Act} {w'' : World} (hq : AQ P m ρ' h' w' K e A' w'') : AQ P m ρ h w K e A' w'' := by
  cases e <;> first
    | exact hq
    | (obtain ⟨ρ2, f2, h2, hk, R, S2, hm⟩ := hq; exact ⟨ρ2, f2, h2, hk, R, S.trans S2 (Nat.le_refl _), hm⟩)

theorem wkL_ok {ops : Array Oper} {F : Option Nat} {Q : Exit → Act → World → Prop} {K : Fr → Hp → Prop} : ∀ (l : List Nat) (f : Fr) (h : Hp) (A : Act) (w : World) (ρ : Nat → Place), Rel P ρ f h A w → wkL P ops l K f h →
    (∀ ρ' f' h' A' w', K f' h' → Rel P ρ' f' h' A' w' → h.length ≤ h'.length → Stp h.length ρ h w ρ' h' w' → Q .normal A' w') → wpOpsIn (Wd F) 0 P ops Q l A w
  | [], f, h, A, w, ρ, R, hk, hQ => hQ ρ f h A w hk R (Nat.le_refl _) (Stp.refl _ _ _ _)
  | i :: r, f, h, A, w, ρ, R, hk, hQ => by
    simp only [wkL] at hk
    simp only [wpOpsIn]
    cases ho : ops[i]? with
    | none =>
      simp only [ho] at hk ⊢
      exact wkL_ok r f h A w ρ R hk hQ
    | some o =>
      simp only [ho] at hk ⊢
      rw [wantA_real R.tmps]
      split
      · rename_i hw
        rw [if_pos hw] at hk
        refine wop_ok R hk fun ρ' v h' w' hn R' H' hl S => ?_
        exact wkL_ok r _ h' _ w' ρ' R' hn fun ρ2 f2 h2 A2 w2 hk2 R2 hl2 S2 => hQ ρ2 f2 h2 A2 w2 hk2 R2 (Nat.le_trans hl hl2) (S.trans S2 hl)
      · rename_i hw
        rw [if_neg hw] at hk
        exact ⟨fun _ _ => trivial, wkL_ok r _ h _ w ρ (R.put o.dst rfl) hk hQ⟩

theorem wkD_ok {ops : Array Oper} {F : Option Nat} {Q : Exit → Act → World → Prop} {K : Fr → Hp → Prop} {h0 : Hp} {ρ0 : Nat → Place} (hs0 : ∀ (i : Nat) (o : AObj), h0[i]? = some o → o.sc h0.length = true) :
    ∀ (l : List (Nat × Bool)) (f : Fr) (h : Hp) (A : Act) (w : World) (ρ : Nat → Place), Rel P ρ f h A w → h0.length ≤ h.length → (∀ i, i < h0.length → ρ i = ρ0 i) → HRel P ρ0 h0 w → wkD P ops h0 l K f h →
    (∀ ρ' f' h' A' w', K f' h' → Rel P ρ' f' h' A' w' → h.length ≤ h'.length → Stp h.length ρ h w ρ' h' w' → Q .normal A' w') → along F 0 P ops Q (fun w => HRel P ρ0 h0 w) l A w
  | [], f, h, A, w, ρ, R, hl0, hρ, hS, hk, hQ => hQ ρ f h A w hk R (Nat.le_refl _) (Stp.refl _ _ _ _)
  | (i, true) :: r, f, h, A, w, ρ, R, hl0, hρ, hS, hk, hQ => by
    simp only [wkD] at hk
    cases ho : ops[i]? with
    | none => simp only [ho] at hk
    | some o =>
      simp only [ho] at hk
      split at hk
      · rename_i hw
        obtain ⟨v, hv, hk⟩ := hk
        have hp : ∀ w, HRel P ρ0 h0 w → HRel P ρ (padH h0 h) w := fun w H => (H.agree hρ).pad h hl0
        have hs : AV.scs (padH h0 h).length f.t = true := by rw [padH_length h0 h hl0]; exact R.tsc
        have hsc := (exL_ok (hp w hS) R.tmps hs hv).2
        rw [padH_length h0 h hl0] at hsc
        refine ⟨o, v.real ρ, ho, ?_, wkD_ok hs0 r _ h _ w ρ (R.put o.dst hsc) hl0 hρ hS hk hQ⟩
        unfold Gives
        rw [wantA_real R.tmps, if_pos hw]
        exact fun w' hS' => (exL_ok (hp w' hS') R.tmps hs hv).1
      · rename_i hw
        refine ⟨o, undef, ho, ?_, ?_⟩
        · unfold Gives
          rw [wantA_real R.tmps, if_neg hw]
        · exact wkD_ok hs0 r _ h _ w ρ (R.put (v := .v undef) o.dst rfl) hl0 hρ hS hk hQ
  | (i, false) :: r, f, h, A, w, ρ, R, hl0, hρ, hS, hk, hQ => by
    simp only [wkD] at hk
    cases ho : ops[i]? with
    | none => simp only [ho] at hk
    | some o =>
      simp only [ho] at hk
      simp only [along, wpOpIn, ho]
      rw [wantA_real R.tmps]
      split
      · rename_i hw
        rw [if_pos hw] at hk
        refine wop_ok R hk fun ρ' v h' w' hn R' H' hl S => ?_
        have hρ' : ∀ i, i < h0.length → ρ' i = ρ0 i := fun i hi => (S.same i (Nat.lt_of_lt_of_le hi hl0)).trans (hρ i hi)
        have hS' : HRel P ρ0 h0 w' := (H'.keeps hn.1 hs0).agree fun i hi => (hρ' i hi).symm
        refine ⟨hS', ?_⟩
        exact wkD_ok hs0 r _ h' _ w' ρ' R' (Nat.le_trans hl0 hl) hρ' hS' hn.2 fun ρ2 f2 h2 A2 w2 hk2 R2 hl2 S2 => hQ ρ2 f2 h2 A2 w2 hk2 R2 (Nat.le_trans hl hl2) (S.trans S2 hl)
      · rename_i hw
        rw [if_neg hw] at hk
        exact ⟨fun _ _ => trivial, hS, wkD_ok hs0 r _ h _ w ρ (R.put (v := .v undef) o.dst rfl) hl0 hρ hS hk hQ⟩

/-! ### Drawn regions along a tree -/
/-- What was read lies as it lay, where nothing that must come behind the reading was done. -/
def stayT (ops : Array Oper) (hv : List Nat) (l : Array Bool) : List (Nat × Nat) → Hp → Hp → Prop
  | [], _, _ => True
  | p :: r, h, h' => (beh ops hv l p.1 = true ∨ h'[p.2]? = h[p.2]?) ∧ stayT ops hv l r h h'
theorem stayT_iff {ops : Array Oper} {hv : List Nat} {l : Array Bool} {h h' : Hp} : ∀ {pd : List (Nat × Nat)}, stayT ops hv l pd h h' ↔ ∀ p ∈ pd, beh ops hv l p.1 = true ∨ h'[p.2]? = h[p.2]?
  | [] => by simp [stayT]
  | p :: r => by simp [stayT, stayT_iff (pd := r)]
theorem stayT_same {ops : Array Oper} {hv : List Nat} {l : Array Bool} {h : Hp} (pd : List (Nat × Nat)) : stayT ops hv l pd h h := stayT_iff.2 fun _ _ => .inr rfl
def stayG (gone : List Nat) : List (Nat × Nat) → Hp → Hp → Prop
  | [], _, _ => True
  | p :: r, h, h' => (gone.contains p.1 = true ∨ h'[p.2]? = h[p.2]?) ∧ stayG gone r h h'
theorem stayG_iff {gone : List Nat} {h h' : Hp} : ∀ {pd : List (Nat × Nat)}, stayG gone pd h h' ↔ ∀ p ∈ pd, gone.contains p.1 = true ∨ h'[p.2]? = h[p.2]?
  | [] => by simp [stayG]
  | p :: r => by simp [stayG, stayG_iff (pd := r)]
theorem stayG_same {gone : List Nat} {h : Hp} (pd : List (Nat × Nat)) : stayG gone pd h h := stayG_iff.2 fun _ _ => .inr rfl
theorem stayT_of_G {ops : Array Oper} {hv : List Nat} {l : Array Bool} {h h' : Hp} {gone : List Nat} {pd : List (Nat × Nat)} (hg : gone.all (fun q => beh ops hv l q) = true) (hs : stayG gone pd h h') : stayT ops hv l pd h h' :=
  stayT_iff.2 fun p hp => by
    rcases stayG_iff.1 hs p hp with h1 | h1
    · exact .inl (List.all_eq_true.1 hg p.1 (by simpa using h1))
    · exact .inr h1
def wkT (P : Program) (ops : Array Oper) : Ord → List (Nat × Nat) → (Fr → Hp → Prop) → Fr → Hp → Prop
  | .done, _, K, f, h => K f h
  | .no, _, _, _, _ => True
  | .light i r, pd, K, f, h => match ops[i]? with
    | none => False
    | some o => if wantA ops f o = true then ∃ v, exL P f h o.op = some v ∧ wkT P ops r ((readsOf f o.op).map (fun x => (i, x)) ++ pd) K (f.put o.dst v) h else wkT P ops r pd K (f.put o.dst (.v undef)) h
  | .alt i gone r rest, pd, K, f, h => (match ops[i]? with
    | none => False
    | some o => if wantA ops f o = true then WOp P o f h (fun v h' => stayG gone pd h h' ∧ wkT P ops r pd K (f.put o.dst v) h') else wkT P ops r pd K (f.put o.dst (.v undef)) h) ∧ wkT P ops rest pd K f h
/-- What S may be taken to say. -/
def Sok (P : Program) (ops : Array Oper) (hv : List Nat) (S : Array Bool → World → Prop) (ρ : Nat → Place) (h : Hp) (pd : List (Nat × Nat)) (l : Array Bool) : Prop :=
  ∀ l' ρ' h' w', (∀ j, l.getD j false = true → l'.getD j false = true) → HRel P ρ' h' w' → (∀ i, i < h.length → ρ' i = ρ i) → h.length ≤ h'.length → stayT ops hv l' pd h h' → S l' w'
theorem HRel.kept {ρ' : Nat → Place} {h h' : Hp} {w' : World} {rd : List Nat} (hs : ∀ (i : Nat) (o : AObj), h[i]? = some o → o.sc h.length = true) (H : HRel P ρ' h' w') (hρ : ∀ i, i < h.length → ρ' i = ρ i) (hl : h.length ≤ h'.length) (hr : ∀ x ∈ rd, h'[x]? = h[x]?) : HRel P ρ (keepH rd h) w' := by
  have hk : Keeps (keepH rd h) h' := keeps_of (by rw [keepH_length]; exact hl) fun i o hi => by
    rw [keepH_get] at hi
    obtain ⟨o', ho', rfl⟩ := Option.map_eq_some_iff.1 hi
    split
    · rename_i hc
      exact .inr ((hr i (by simpa using hc)).trans ho')
    · exact .inl rfl
  refine (HRel.keeps H hk fun i o hi => ?_).agree fun i hi => (hρ i (by rwa [keepH_length] at hi)).symm
  rw [keepH_length]
  rw [keepH_get] at hi
  obtain ⟨o', ho', rfl⟩ := Option.map_eq_some_iff.1 hi
  split
  · exact hs i o' ho'
  · rfl
theorem Sok.step {ops : Array Oper} {hv : List Nat} {S : Array Bool → World → Prop} {ρ' : Nat → Place} {h h' : Hp} {pd : List (Nat × Nat)} {l l' : Array Bool} (hS : Sok P ops hv S ρ h pd l) (hl : ∀ j, l.getD j false = true → l'.getD j false = true) (hρ : ∀ i, i < h.length → ρ' i = ρ i) (hh : h.length ≤ h'.length) (hst : stayT ops hv l' pd h h') : Sok P ops hv S ρ' h' pd l' := by
  intro l2 ρ2 h2 w2 hl2 H2 hρ2 hh2 hst2
  refine hS l2 ρ2 h2 w2 (fun j hj => hl2 j (hl j hj)) H2 (fun i hi => (hρ2 i (Nat.lt_of_lt_of_le hi hh)).trans (hρ i hi)) (Nat.le_trans hh hh2) (stayT_iff.2 fun p hp => ?_)
  rcases stayT_iff.1 hst p hp with h1 | h1
  · exact .inl (beh_mono hl2 h1)
  · rcases stayT_iff.1 hst2 p hp with h3 | h3
    · exact .inl h3
    · exact .inr (h3.trans h1)
theorem wkT_ok {ops : Array Oper} {hv : List Nat} {F : Option Nat} {Q : Exit → Act → World → Prop} {K : Fr → Hp → Prop} :
    ∀ (T : Ord) (t : Bool) (S : Array Bool → World → Prop) (pd : List (Nat × Nat)) (l : Array Bool) (f : Fr) (h : Hp) (A : Act) (w : World) (ρ : Nat → Place), ordT ops hv T t l = true → Rel P ρ f h A w → Sok P ops hv S ρ h pd l → wkT P ops T pd K f h →
    (∀ ρ' f' h' A' w', K f' h' → Rel P ρ' f' h' A' w' → h.length ≤ h'.length → Stp h.length ρ h w ρ' h' w' → Q .normal A' w') → alongT F 0 P ops hv Q T S l A w
  | .done, t, S, pd, l, f, h, A, w, ρ, hc, R, hS, hk, hQ => hQ ρ f h A w hk R (Nat.le_refl _) (Stp.refl _ _ _ _)
  | .no, t, S, pd, l, f, h, A, w, ρ, hc, R, hS, hk, hQ => trivial
  | .light i r, t, S, pd, l, f, h, A, w, ρ, hc, R, hS, hk, hQ => by
    simp only [ordT, Bool.and_eq_true] at hc
    replace hc := hc.2
    simp only [wkT] at hk
    cases ho : ops[i]? with
    | none => simp only [ho] at hk
    | some o =>
      simp only [ho] at hk
      split at hk
      · rename_i hw
        obtain ⟨v, hv', hk⟩ := hk
        have H0 : HRel P ρ (keepH (readsOf f o.op) h) w := HRel.kept R.heap.sc R.heap (fun _ _ => rfl) (Nat.le_refl _) (fun _ _ => rfl)
        have hv2 : exL P f (keepH (readsOf f o.op) h) o.op = some v := exL_reads hv' fun x hx => by
          rw [keepH_get]
          have : (readsOf f o.op).contains x = true := by simpa using hx
          cases h[x]? <;> simp [this, hx]
        refine ⟨o, v.real ρ, fun w' => HRel P ρ (keepH (readsOf f o.op) h) w', ho, ?_, H0, ?_⟩
        · unfold Gives
          rw [wantA_real R.tmps, if_pos hw]
          exact fun w' hS' => (exL_ok hS' R.tmps (by rw [keepH_length]; exact R.tsc) hv2).1
        · refine wkT_ok r true _ _ _ _ h _ w ρ hc (R.put o.dst (exL_ok R.heap R.tmps R.tsc hv').2) ?_ hk hQ
          intro l' ρ' h' w' hl' H' hρ' hh' hst
          rw [stayT_iff] at hst
          refine ⟨hS l' ρ' h' w' (fun j hj => hl' j (set_mono l i j hj)) H' hρ' hh' (stayT_iff.2 fun p hp => hst p (List.mem_append_right _ hp)), ?_⟩
          cases hb : beh ops hv l' i with
          | true => exact .inl rfl
          | false =>
            refine .inr (HRel.kept R.heap.sc H' hρ' hh' fun x hx => ?_)
            rcases hst (i, x) (List.mem_append_left _ (List.mem_map.2 ⟨x, hx, rfl⟩)) with h1 | h1
            · rw [hb] at h1; cases h1
            · exact h1
      · rename_i hw
        refine ⟨o, undef, fun _ => True, ho, ?_, trivial, ?_⟩
        · unfold Gives
          rw [wantA_real R.tmps, if_neg hw]
        · refine wkT_ok r true _ pd _ _ h _ w ρ hc (R.put (v := .v undef) o.dst rfl) ?_ hk hQ
          intro l' ρ' h' w' hl' H' hρ' hh' hst
          exact ⟨hS l' ρ' h' w' (fun j hj => hl' j (set_mono l i j hj)) H' hρ' hh' hst, .inr trivial⟩
  | .alt i gone r rest, t, S, pd, l, f, h, A, w, ρ, hc, R, hS, hk, hQ => by
    simp only [wkT] at hk
    simp only [ordT, Bool.and_eq_true] at hc
    have hg := hc.1.1.2
    obtain ⟨hk, hrest⟩ := hk
    refine ⟨?_, wkT_ok rest false S pd l f h A w ρ hc.2 R hS hrest hQ⟩
    cases ho : ops[i]? with
    | none => simp only [ho] at hk
    | some o =>
      simp only [ho] at hk
      simp only [wpOpIn, ho]
      rw [wantA_real R.tmps]
      split
      · rename_i hw
        rw [if_pos hw] at hk
        refine wop_ok R hk fun ρ' v h' w' hn R' H' hl St => ?_
        refine ⟨hS _ ρ' h' w' (set_mono l i) H' St.same hl (stayT_of_G hg hn.1), ?_⟩
        exact wkT_ok r true S pd _ _ h' _ w' ρ' hc.1.2 R' (hS.step (set_mono l i) St.same hl (stayT_of_G hg hn.1)) hn.2 fun ρ2 f2 h2 A2 w2 hk2 R2 hl2 S2 => hQ ρ2 f2 h2 A2 w2 hk2 R2 (Nat.le_trans hl hl2) (St.trans S2 hl)
      · rename_i hw
        rw [if_neg hw] at hk
        refine ⟨fun _ _ => trivial, hS _ ρ h w (set_mono l i) R.heap (fun _ _ => rfl) (Nat.le_refl _) (stayT_same pd), ?_⟩
        exact wkT_ok r true S pd _ _ h _ w ρ hc.1.2 (R.put (v := .v undef) o.dst rfl) (hS.step (set_mono l i) (fun _ _ => rfl) (Nat.le_refl _) (stayT_same pd)) hk hQ

/-! ### Code -/
def thenK (N : Fr → Hp → Prop) (K : Exit → Fr → Hp → Prop) : Exit → Fr → Hp → Prop
  | .normal, f, h => N f h
  | e, f, h => K e f h
def blkK (id : Nat) (K : Exit → Fr → Hp → Prop) : Exit → Fr → Hp → Prop
  | .exit i, f, h => if i = id then K .normal f h else K (.exit i) f h
  | e, f, h => K e f h
def wk (P : Program) (m : Nat) (ro : Option Nat) : Code → (Exit → Fr → Hp → Prop) → Fr → Hp → Prop
  | .skip, K, f, h => K .normal f h
  | .region _ ops false, K, f, h => wkL P ops (List.range ops.size) (K .normal) f h
  | .region _ ops true, K, f, h => (∃ l h0, ordOk ops l = true ∧ Keeps h0 h ∧ h0.length = h.length ∧ wkD P ops h0 l (K .normal) f h) ∨ (∃ T hv, ordTok ops hv T = true ∧ wkT P ops T [] (K .normal) f h)
  | .seq a b, K, f, h => wk P m ro a (thenK (wk P m ro b K) K) f h
  | .cond c a b, K, f, h => ∃ t, ev f c = .v (.bool t) ∧ (t = true → wk P m ro a K f h) ∧ (t = false → wk P m ro b K f h)
  | .block id b, K, f, h => wk P m ro b (blkK id K) f h
  | .exit id, K, f, h => K (.exit id) f h
  | .label _, K, f, h => K .normal f h
  | .ret, K, f, h => K .ret f h
  | c, K, f, h => AW P m ro c K f h

theorem wk_ok (hm : P.follows .mixedOrders = true) : ∀ (c : Code) (K : Exit → Fr → Hp → Prop) (f : Fr) (h : Hp), wk P m ro c K f h → AW P m ro c K f h
  | .skip, K, f, h, hk => fun hro hmh ρ A w R => wpIn_skip ⟨ρ, f, h, hk, R, Stp.refl _ _ _ _, hmh⟩
  | .region id ops false, K, f, h, hk => fun hro hmh ρ A w R => wpIn_region (wkL_ok _ f h A w ρ R hk fun ρ' f' h' A' w' hk' R' hl S => ⟨ρ', f', h', hk', R', S.less hmh, Nat.le_trans hmh hl⟩)
  | .region id ops true, K, f, h, hk => fun hro hmh ρ A w R => by
    have R' : Rel P ρ f h A w.drew := ⟨R.tmps, R.tsc, R.defers, R.dsc, R.heap.drew⟩
    rcases hk with hk | ⟨T, hv, hT, hk⟩
    case inr =>
      exact wp_drawT T hm hT (fun _ _ _ h => h) (wkT_ok T true (fun _ _ => True) [] _ f h A _ ρ (by simp only [ordTok, Bool.and_eq_true] at hT; exact hT.2) R' (fun _ _ _ _ _ _ _ _ _ => trivial) hk fun ρ' f' h' A' w' hk' R2 hl S => ⟨ρ', f', h', hk', R2, ((Stp.drewR h.length).trans S (Nat.le_refl _)).less hmh, Nat.le_trans hmh hl⟩)
    obtain ⟨l, h0, hl, hkp, hlen, hk⟩ := hk
    have H0 : HRel P ρ h0 w.drew := HRel.keeps R'.heap hkp (fun i o hi => by
      rcases hkp.get i o hi with rfl | h1
      · rfl
      · rw [hlen]; exact R.heap.sc i o h1)
    refine wp_draw l hm hl (fun _ _ _ h => h) H0 (wkD_ok H0.sc l f h A _ ρ R' (by rw [hlen]; exact Nat.le_refl _) (fun _ _ => rfl) H0 hk fun ρ' f' h' A' w' hk' R2 hl S => ?_)
    exact ⟨ρ', f', h', hk', R2, ((Stp.drewR h.length).trans S (Nat.le_refl _)).less hmh, Nat.le_trans hmh hl⟩
  | .seq a b, K, f, h, hk => fun hro hmh ρ A w R => by
    refine wpIn_seq (wpIn_mono (wk_ok hm a _ f h hk hro hmh ρ A w R) fun e A' w' hq => ?_)
    cases e with
    | normal =>
      obtain ⟨ρ', f', h', hk', R', S, hm'⟩ := hq
      have e1 : (Wd (ro.map fun i => (ρ' i).b)) = (Wd (ro.map fun i => (ρ i).b)) := by
        cases ro with
        | none => rfl
        | some i => simp only [Option.map_some, S.same i (hro i rfl)]
      have := wk_ok hm b K f' h' hk' hro hm' ρ' A' w' R'
      rw [e1] at this
      exact wpIn_mono this fun e2 A2 w2 hq2 => AQ.trans S hq2
    | exit id => exact hq
    | goto l => exact hq
    | ret => exact hq
    | panic c => exact hq
    | outgrown => exact hq
  | .cond c a b, K, f, h, hk => fun hro hmh ρ A w R => by
    obtain ⟨t, ht, h1, h2⟩ := hk
    refine wpIn_cond_split (t := t) (by rw [ev_real R.tmps, ht]; rfl) (fun e => wk_ok hm a K f h (h1 e) hro hmh ρ A w R) (fun e => wk_ok hm b K f h (h2 e) hro hmh ρ A w R)
  | .block id b, K, f, h, hk => fun hro hmh ρ A w R => by
    refine wpIn_block (wpIn_mono (wk_ok hm b _ f h hk hro hmh ρ A w R) fun e A' w' hq => ?_)
    cases e with
    | exit i =>
      obtain ⟨ρ', f', h', hk', R', S, hm'⟩ := hq
      simp only [blkK] at hk'
      simp only [Exit.inBlock]
      split
      · rename_i hid; rw [if_pos hid] at hk'; exact ⟨ρ', f', h', hk', R', S, hm'⟩
      · rename_i hid; rw [if_neg hid] at hk'; exact ⟨ρ', f', h', hk', R', S, hm'⟩
    | normal => exact hq
    | goto l => exact hq
    | ret => exact hq
    | panic c => exact hq
    | outgrown => exact hq
  | .exit id, K, f, h, hk => fun hro hmh ρ A w R => wpIn_exit ⟨ρ, f, h, hk, R, Stp.refl _ _ _ _, hmh⟩
  | .label l, K, f, h, hk => fun hro hmh ρ A w R => wpIn_label ⟨ρ, f, h, hk, R, Stp.refl _ _ _ _, hmh⟩
  | .ret, K, f, h, hk => fun hro hmh ρ A w R => wpIn_ret ⟨ρ, f, h, hk, R, Stp.refl _ _ _ _, hmh⟩
  | .loop b, K, f, h, hk => hk
  | .rangeFunc g ps asg bd, K, f, h, hk => hk
  | .scope b, K, f, h, hk => hk
  | .goto l, K, f, h, hk => hk
  | .refuse s, K, f, h, hk => hk
end
end Go.Az
