/-
  A part of the proof of a statement of a chapter's seat; conditions: stated at each theorem.
-/
import Derived.Test.YtfcgmkpihmiadaaP1
set_option linter.unusedVariables false
set_option linter.unusedSectionVars false
set_option linter.unusedSimpArgs false
set_option linter.unusedVariables false
set_option maxRecDepth 100000
set_option maxHeartbeats 4000000
namespace Go.Proofs.Ytfcgmkpihmiadaa
open Go.Az Go
/-! ### Pools -/
structure Pl where
  us : List Int
  ws : List Wk
  ts : List Tk
  out : Int
def pl0 : Pl := ⟨[], [], [], 0⟩
def newT (u : Int) : Tk := if u < 1 ∨ 1099511627776 < u then tk0 else ⟨u, true, false, 0⟩
theorem newT_ok {u : Int} (h : ¬ (u < 1 ∨ 1099511627776 < u)) : newT u = ⟨u, true, false, 0⟩ := if_neg h
def badU (u : Int) : Prop := u < 1 ∨ 1099511627776 < u
instance (u : Int) : Decidable (badU u) := by unfold badU; infer_instance
def givE (n : Int) (us : List Int) : Int := if n < 1 ∨ 64 < n then 30 else if us.length < 1 ∨ 4096 < us.length then 6 else if ∃ u ∈ us, badU u then 2 else 0
def ckW (ts : List Tk) : List Wk → Int
  | [] => 0
  | w :: r => if checkE w.j w.d ts = 0 then ckW ts r else checkE w.j w.d ts
def overN : List Tk → Nat
  | [] => 0
  | t :: r => if t.o = true then overN r + 1 else 0
def admN (p : Pl) : Int := min p.us.length (p.out + p.ws.length + 2)
def cnt (ws : List Wk) (i : Int) : Int := sumF (fun w => if w.j = i then 1 else 0) ws
def wantT (t : Tk) : Int := if t.f = false ∧ t.o = false then 1 else 0
def Cell (ws : List Wk) (us : List Int) (ts : List Tk) (i : Nat) : Prop := cnt ws i = wantT (ts.getD i tk0) ∧ (ts.getD i tk0).u = us.getD i 0
def Cells (p : Pl) : Prop := ∀ i, i < p.ts.length → Cell p.ws p.us p.ts i
instance (ws : List Wk) (us : List Int) (ts : List Tk) (i : Nat) : Decidable (Cell ws us ts i) := by unfold Cell; infer_instance
instance (p : Pl) : Decidable (Cells p) := by unfold Cells; infer_instance
def poolE (p : Pl) : Int :=
  if givE p.ws.length p.us ≠ 0 then givE p.ws.length p.us else if ckW p.ts p.ws ≠ 0 then ckW p.ts p.ws
  else if p.out ≠ overN p.ts ∨ (p.ts.length : Int) ≠ admN p then 10 else if Cells p then 0 else 10
theorem poolE1 {p : Pl} (h : givE p.ws.length p.us ≠ 0) : poolE p = givE p.ws.length p.us := by rw [poolE, if_pos h]
theorem poolE2 {p : Pl} (h : givE p.ws.length p.us = 0) (h1 : ckW p.ts p.ws ≠ 0) : poolE p = ckW p.ts p.ws := by rw [poolE, if_neg (by omega), if_pos h1]
theorem poolE3 {p : Pl} (h : givE p.ws.length p.us = 0) (h1 : ckW p.ts p.ws = 0) (h2 : p.out ≠ overN p.ts ∨ (p.ts.length : Int) ≠ admN p) : poolE p = 10 := by rw [poolE, if_neg (by omega), if_neg (by omega), if_pos h2]
theorem poolE4 {p : Pl} (h : givE p.ws.length p.us = 0) (h1 : ckW p.ts p.ws = 0) (h2 : ¬ Cells p) : poolE p = 10 := by
  rw [poolE, if_neg (by omega), if_neg (by omega)]
  split
  all_goals first | rfl | rw [if_neg h2]
theorem poolE5 {p : Pl} (h : givE p.ws.length p.us = 0) (h1 : ckW p.ts p.ws = 0) (h2 : p.out = overN p.ts) (h3 : (p.ts.length : Int) = admN p) (h4 : Cells p) : poolE p = 0 := by rw [poolE, if_neg (by omega), if_neg (by omega), if_neg (by omega), if_pos h4]
theorem ckW_iff (ts : List Tk) : ∀ ws : List Wk, ckW ts ws = 0 ↔ ∀ k, k < ws.length → checkE (ws.getD k wk0).j (ws.getD k wk0).d ts = 0
  | [] => by simp [ckW]
  | w :: r => by
    rw [ckW]
    constructor
    · intro h k hk
      split at h
      · rename_i h0
        cases k with
        | zero => exact h0
        | succ k => exact (ckW_iff ts r).1 h k (by simpa using hk)
      · rename_i h0; exact absurd h h0
    · intro h
      have h0 := h 0 (by simp)
      simp only [List.getD_cons_zero] at h0
      rw [if_pos h0]
      exact (ckW_iff ts r).2 fun k hk => by have := h (k + 1) (by simp; omega); simpa using this
theorem overN_le : ∀ ts : List Tk, overN ts ≤ ts.length
  | [] => Nat.le_refl _
  | t :: r => by
    rw [overN]
    have := overN_le r
    split
    · simp only [List.length_cons]; omega
    · omega
theorem overN_lt : ∀ (ts : List Tk) (i : Nat), i < overN ts → (ts.getD i tk0).o = true
  | [], i, h => by simp [overN] at h
  | t :: r, i, h => by
    rw [overN] at h
    split at h
    · rename_i h0
      cases i with
      | zero => exact h0
      | succ i => exact overN_lt r i (by omega)
    · omega
theorem overN_at : ∀ (ts : List Tk), overN ts < ts.length → (ts.getD (overN ts) tk0).o = false
  | [], h => by simp at h
  | t :: r, h => by
    rw [overN] at h ⊢
    by_cases h0 : t.o = true
    · rw [if_pos h0] at h ⊢
      rw [List.getD_cons_succ]
      exact overN_at r (by simpa using h)
    · rw [if_neg h0]
      simpa using h0
theorem overN_eq {ts : List Tk} {n : Nat} (h : ∀ i, i < n → (ts.getD i tk0).o = true) (h1 : n ≤ ts.length) (h2 : n < ts.length → (ts.getD n tk0).o = false) : overN ts = n := by
  have a := overN_le ts
  rcases Nat.lt_trichotomy (overN ts) n with hl | hl | hl
  · have := h _ hl
    rw [overN_at ts (by omega)] at this
    cases this
  · exact hl
  · have := overN_lt ts n hl
    rw [h2 (by omega)] at this
    cases this
/-! ### Jobs are admitted -/
def adm : Nat → Pl → Pl
  | 0, p => p
  | n + 1, p => if (p.ts.length : Int) < admN p then adm n ⟨p.us, p.ws, p.ts ++ [newT (p.us.getD p.ts.length 0)], p.out⟩ else p
def adQ (p : Pl) : Pl := adm p.us.length p
theorem adm_no {p : Pl} {n : Nat} (h : ¬ (p.ts.length : Int) < admN p) : adm n p = p := by
  cases n with
  | zero => rfl
  | succ n => rw [adm, if_neg h]
theorem adm_go {p : Pl} {n : Nat} (h : (p.ts.length : Int) < admN p) : adm (n + 1) p = adm n ⟨p.us, p.ws, p.ts ++ [newT (p.us.getD p.ts.length 0)], p.out⟩ := by rw [adm, if_pos h]
theorem admN_le (p : Pl) : admN p ≤ p.us.length := by unfold admN; omega
theorem adm_keep : ∀ (n : Nat) (p : Pl), (adm n p).us = p.us ∧ (adm n p).ws = p.ws ∧ (adm n p).out = p.out ∧ p.ts.length ≤ (adm n p).ts.length
  | 0, p => ⟨rfl, rfl, rfl, Nat.le_refl _⟩
  | n + 1, p => by
    by_cases h : (p.ts.length : Int) < admN p
    · rw [adm_go h]
      obtain ⟨a, b, c, d⟩ := adm_keep n ⟨p.us, p.ws, p.ts ++ [newT (p.us.getD p.ts.length 0)], p.out⟩
      refine ⟨a, b, c, ?_⟩
      simp only [List.length_append, List.length_singleton] at d
      omega
    · rw [adm_no h]; exact ⟨rfl, rfl, rfl, Nat.le_refl _⟩
theorem adm_eq : ∀ (n : Nat) (p : Pl), p.us.length ≤ n + p.ts.length → (p.ts.length : Int) ≤ admN p → ((adm n p).ts.length : Int) = admN p
  | 0, p, h, h1 => by have := admN_le p; simp only [adm]; omega
  | n + 1, p, h, h0 => by
    by_cases h1 : (p.ts.length : Int) < admN p
    · rw [adm_go h1]
      exact adm_eq n _ (by simp only [List.length_append, List.length_singleton]; omega) (by simp only [List.length_append, List.length_singleton]; show _ ≤ admN p; omega)
    · rw [adm_no h1]; omega
/-! ### Jobs are emitted -/
structure Em where
  p : Pl
  l : List Int
def emC (p : Pl) : Prop := p.out < p.ts.length ∧ (p.ts.getD p.out.toNat tk0).o = true
instance (p : Pl) : Decidable (emC p) := by unfold emC; infer_instance
def emN (p : Pl) : Pl := adQ ⟨p.us, p.ws, p.ts, p.out + 1⟩
def emi : Nat → Pl → List Int → Em
  | 0, p, l => ⟨p, l⟩
  | n + 1, p, l => if emC p then emi n (emN p) (l ++ [p.out]) else ⟨p, l⟩
theorem emi_no {p : Pl} {n : Nat} {l : List Int} (h : ¬ emC p) : emi n p l = ⟨p, l⟩ := by
  cases n with
  | zero => rfl
  | succ n => rw [emi, if_neg h]
theorem emi_go {p : Pl} {n : Nat} {l : List Int} (h : emC p) : emi (n + 1) p l = emi n (emN p) (l ++ [p.out]) := by rw [emi, if_pos h]
structure Pq where
  p : Pl
  w : Int
  l : List Int
  e : Int
def pick1 (p : Pl) (n : Int) (k : Pk) : Pl := ⟨p.us, p.ws.set n.toNat ⟨k.j, k.d⟩, k.l, p.out⟩
def pickK (p : Pl) (n : Int) (b : Bool) : Pk := pickP (p.ws.getD n.toNat wk0).j (p.ws.getD n.toNat wk0).d p.ts b
def pickQ (p : Pl) (n : Int) (b : Bool) : Pq :=
  if poolE p ≠ 0 then ⟨pl0, 0, [], poolE p⟩ else if n < 0 ∨ (p.ws.length : Int) ≤ n then ⟨pl0, 0, [], 2⟩
  else ⟨(emi (p.us.length + 1) (pick1 p n (pickK p n b)) []).p, (pickK p n b).w, (emi (p.us.length + 1) (pick1 p n (pickK p n b)) []).l, 0⟩
/-! ### What is right -/
structure Mid (p : Pl) : Prop where
  gn : 1 ≤ p.ws.length ∧ p.ws.length ≤ 64
  gu : 1 ≤ p.us.length ∧ p.us.length ≤ 4096
  gb : ∀ i, i < p.us.length → 1 ≤ p.us.getD i 0 ∧ p.us.getD i 0 ≤ 1099511627776
  jb : ∀ i, i < p.ts.length → errT (p.ts.getD i tk0) = 0
  ck : ∀ k, k < p.ws.length → checkE (p.ws.getD k wk0).j (p.ws.getD k wk0).d p.ts = 0
  o0 : 0 ≤ p.out
  o1 : p.out ≤ p.ts.length
  ov : ∀ i : Nat, (i : Int) < p.out → (p.ts.getD i tk0).o = true
  ln : (p.ts.length : Int) ≤ admN p
  cl : ∀ i, i < p.ts.length → Cell p.ws p.us p.ts i
structure Inv (p : Pl) : Prop extends Mid p where
  le : (p.ts.length : Int) = admN p
  oe : p.out = overN p.ts
theorem givE_iff (n : Int) (us : List Int) : givE n us = 0 ↔ (1 ≤ n ∧ n ≤ 64) ∧ (1 ≤ us.length ∧ us.length ≤ 4096) ∧ ∀ i, i < us.length → 1 ≤ us.getD i 0 ∧ us.getD i 0 ≤ 1099511627776 := by
  unfold givE
  split
  · exact ⟨fun h => (by cases h), fun h => (by omega)⟩
  · split
    · exact ⟨fun h => (by cases h), fun h => (by omega)⟩
    · split
      · rename_i h
        refine ⟨fun h => (by cases h), fun h2 => ?_⟩
        obtain ⟨u, hu, hb⟩ := h
        obtain ⟨i, hi, rfl⟩ := List.getElem_of_mem hu
        have := h2.2.2 i hi
        rw [List.getD_eq_getElem?_getD, List.getElem?_eq_getElem hi] at this
        unfold badU at hb
        simp only [Option.getD_some] at this
        omega
      · rename_i h
        refine ⟨fun _ => ⟨by omega, by omega, fun i hi => ?_⟩, fun _ => rfl⟩
        have hm := getD_mem (d := 0) hi
        have : ¬ badU (us.getD i 0) := fun hb => h ⟨_, hm, hb⟩
        unfold badU at this
        omega
theorem jobsE_getD {l : List Tk} : jobsE l = 0 ↔ l.length ≤ 4096 ∧ ∀ i, i < l.length → errT (l.getD i tk0) = 0 := by
  rw [jobsE_iff]
  refine ⟨fun h => ⟨h.1, fun i hi => h.2 _ (getD_mem hi)⟩, fun h => ⟨h.1, fun t ht => ?_⟩⟩
  obtain ⟨i, hi, rfl⟩ := List.getElem_of_mem ht
  have := h.2 i hi
  rwa [List.getD_eq_getElem?_getD, List.getElem?_eq_getElem hi] at this
theorem Mid.jobs {p : Pl} (h : Mid p) : jobsE p.ts = 0 := by
  have h1 := h.ln
  have h2 := admN_le p
  have h3 := h.gu
  exact jobsE_getD.2 ⟨by omega, h.jb⟩
theorem inv_iff (p : Pl) : poolE p = 0 ↔ Inv p := by
  constructor
  · intro h
    by_cases h1 : givE p.ws.length p.us = 0
    case neg => rw [poolE1 h1] at h; exact absurd h h1
    by_cases h2 : ckW p.ts p.ws = 0
    case neg => rw [poolE2 h1 h2] at h; exact absurd h h2
    by_cases h3 : p.out ≠ overN p.ts ∨ (p.ts.length : Int) ≠ admN p
    · rw [poolE3 h1 h2 h3] at h; cases h
    by_cases h4 : Cells p
    case neg => rw [poolE4 h1 h2 h4] at h; cases h
    obtain ⟨g1, g2, g3⟩ := (givE_iff _ _).1 h1
    have c := (ckW_iff _ _).1 h2
    have hj := (ck_ok (c 0 (by omega))).1
    have ho := overN_le p.ts
    exact ⟨⟨by omega, g2, g3, (jobsE_getD.1 hj).2, c, by omega, by omega, fun i hi => overN_lt _ _ (by omega), by omega, h4⟩, by omega, by omega⟩
  · intro h
    exact poolE5 ((givE_iff _ _).2 ⟨by have := h.gn; omega, h.gu, h.gb⟩) ((ckW_iff _ _).2 h.ck) h.oe h.le h.cl
/-! ### How many workers have a job -/
theorem cnt_nn : ∀ (ws : List Wk) (i : Int), 0 ≤ cnt ws i
  | [], i => Int.le_refl _
  | w :: r, i => by
    have := cnt_nn r i
    simp only [cnt, sumF] at this ⊢
    split <;> omega
theorem cnt_zero : ∀ {ws : List Wk} {i : Int}, cnt ws i = 0 ↔ ∀ k, k < ws.length → (ws.getD k wk0).j ≠ i
  | [], i => by simp [cnt, sumF]
  | w :: r, i => by
    have h0 := cnt_nn r i
    have hc : cnt (w :: r) i = (if w.j = i then 1 else 0) + cnt r i := rfl
    rw [hc]
    constructor
    · intro h k hk
      cases k with
      | zero =>
        simp only [List.getD_cons_zero]
        intro e
        rw [if_pos e] at h; omega
      | succ k =>
        rw [List.getD_cons_succ]
        exact cnt_zero.1 (by split at h <;> omega) k (by simpa using hk)
    · intro h
      have h1 := h 0 (by simp)
      simp only [List.getD_cons_zero] at h1
      rw [if_neg h1, cnt_zero.2 fun k hk => by have := h (k + 1) (by simp; omega); simpa using this]
      rfl
theorem cnt_set {ws : List Wk} {n : Nat} {w : Wk} {i : Int} (h : n < ws.length) : cnt (ws.set n w) i = cnt ws i - (if (ws.getD n wk0).j = i then 1 else 0) + (if w.j = i then 1 else 0) := sumF_set _ wk0 ws n w h
/-- A worker that has a job is the only one that has it. -/
theorem cnt_one {ws : List Wk} {n k : Nat} {i : Int} (h : n < ws.length) (hk : k < ws.length) (hne : k ≠ n) (hj : (ws.getD n wk0).j = i) (hi : i ≠ -1) (hc : cnt ws i = 1) : (ws.getD k wk0).j ≠ i := by
  have h1 : cnt (ws.set n ⟨-1, 0⟩) i = 0 := by
    rw [cnt_set h, hj, if_pos rfl, if_neg (by show ¬ (-1 : Int) = i; omega)]; omega
  have := cnt_zero.1 h1 k (by rw [List.length_set]; exact hk)
  rwa [getD_setN hne] at this
/-! ### Jobs that are admitted stay right -/
theorem getD_appL {α : Type} {l r : List α} {i : Nat} {d : α} (h : i < l.length) : (l ++ r).getD i d = l.getD i d := by
  rw [List.getD_eq_getElem?_getD, List.getElem?_append_left h, List.getD_eq_getElem?_getD]
theorem getD_appR {α : Type} {l : List α} {x d : α} : (l ++ [x]).getD l.length d = x := by
  rw [List.getD_eq_getElem?_getD, List.getElem?_append_right (Nat.le_refl _)]; simp
theorem ck_app {j d : Int} {l : List Tk} {x : Tk} (h : checkE j d l = 0) (hx : errT x = 0) (hl : l.length < 4096) : checkE j d (l ++ [x]) = 0 := by
  obtain ⟨a1, a2, a3, a4, a5, a6⟩ := ck_ok h
  refine ck_in ?_ a3 (by rw [List.length_append]; simp; omega) a5 fun hj => ?_
  · rw [jobsE_iff] at a1 ⊢
    refine ⟨by simp; omega, fun t ht => ?_⟩
    rcases List.mem_append.1 ht with h1 | h1
    · exact a1.2 t h1
    · rw [List.mem_singleton.1 h1]; exact hx
  · rw [getD_appL (by omega)]; exact a6 hj
theorem Mid.add {p : Pl} (h : Mid p) (hl : (p.ts.length : Int) < admN p) : Mid ⟨p.us, p.ws, p.ts ++ [newT (p.us.getD p.ts.length 0)], p.out⟩ := by
  have h2 := admN_le p
  have h3 := h.gu
  have hb := h.gb p.ts.length (by omega)
  rw [newT_ok (by omega)]
  have hx : errT ⟨p.us.getD p.ts.length 0, true, false, 0⟩ = 0 := errT_iff.2 ⟨hb.1, hb.2, by simp, by simp, by simp⟩
  have hln : (p.ts ++ [(⟨p.us.getD p.ts.length 0, true, false, 0⟩ : Tk)]).length = p.ts.length + 1 := by simp
  refine ⟨h.gn, h.gu, h.gb, fun i hi => ?_, fun k hk => ck_app (h.ck k hk) hx (by omega), h.o0, by simp only [hln]; have := h.o1; omega, fun i hi => ?_, by simp only [hln]; show _ ≤ admN p; omega, fun i hi => ?_⟩
  · simp only [hln] at hi ⊢
    by_cases he : i = p.ts.length
    · subst he; rw [getD_appR]; exact hx
    · rw [getD_appL (by omega)]; exact h.jb i (by omega)
  · have := h.o1
    simp only [] at hi ⊢
    rw [getD_appL (by omega)]; exact h.ov i hi
  · simp only [hln] at hi ⊢
    by_cases he : i = p.ts.length
    · subst he
      refine ⟨?_, by rw [getD_appR]⟩
      rw [getD_appR]
      refine (cnt_zero.2 fun k hk => ?_).trans rfl
      have := (ck_ok (h.ck k hk)).2.2.2.1
      omega
    · have := h.cl i (by omega)
      unfold Cell at this ⊢
      rw [getD_appL (by omega)]; exact this
theorem Mid.adm : ∀ (n : Nat) {p : Pl}, Mid p → Mid (adm n p)
  | 0, p, h => h
  | n + 1, p, h => by
    by_cases h1 : (p.ts.length : Int) < admN p
    · rw [adm_go h1]; exact Mid.adm n (h.add h1)
    · rw [adm_no h1]; exact h
theorem Mid.adI {p : Pl} (h : Mid p) : Mid (adQ p) ∧ ((adQ p).ts.length : Int) = admN (adQ p) := by
  refine ⟨Mid.adm _ h, ?_⟩
  have h1 := adm_eq p.us.length p (by omega) h.ln
  have h2 := adm_keep p.us.length p
  show ((Go.Proofs.Ytfcgmkpihmiadaa.adm _ p).ts.length : Int) = admN (Go.Proofs.Ytfcgmkpihmiadaa.adm _ p)
  rw [h1]
  simp only [admN, h2.1, h2.2.1, h2.2.2.1]
theorem adm_pre : ∀ (n : Nat) (p : Pl) (i : Nat), i < p.ts.length → (adm n p).ts.getD i tk0 = p.ts.getD i tk0
  | 0, p, i, h => rfl
  | n + 1, p, i, h => by
    by_cases h1 : (p.ts.length : Int) < admN p
    · rw [adm_go h1, adm_pre n _ i (by simp only [List.length_append, List.length_singleton]; omega)]
      exact getD_appL h
    · rw [adm_no h1]
theorem Mid.emN {p : Pl} (h : Mid p) (hc : emC p) : Mid (emN p) ∧ ((Go.Proofs.Ytfcgmkpihmiadaa.emN p).ts.length : Int) = admN (Go.Proofs.Ytfcgmkpihmiadaa.emN p) := by
  refine Mid.adI ⟨h.gn, h.gu, h.gb, h.jb, h.ck, by have := h.o0; simp only []; omega, by have := hc.1; simp only []; omega, fun i hi => ?_, ?_, h.cl⟩
  · by_cases he : (i : Int) = p.out
    · have := hc.2
      rw [show p.out.toNat = i by omega] at this; exact this
    · exact h.ov i (by simp only [] at hi; omega)
  · have := h.ln
    simp only [admN] at this ⊢
    omega
def range' (a : Int) (n : Nat) : List Int := (List.range n).map fun (i : Nat) => a + (i : Int)
theorem range'_snoc (a : Int) (n : Nat) : range' a n ++ [a + n] = range' a (n + 1) := by
  simp [range', List.range_succ]
/-- What is emitted: the next jobs, in order. -/
theorem emi_spec : ∀ (n : Nat) (p : Pl) (l : List Int), Mid p → (p.ts.length : Int) = admN p → (p.us.length : Int) < n + p.out → Inv (emi n p l).p ∧ (emi n p l).p.us = p.us ∧ (emi n p l).p.ws = p.ws ∧ p.out ≤ (emi n p l).p.out ∧ (emi n p l).l = l ++ range' p.out ((emi n p l).p.out - p.out).toNat ∧ p.ts.length ≤ (emi n p l).p.ts.length ∧ (∀ i, i < p.ts.length → (emi n p l).p.ts.getD i tk0 = p.ts.getD i tk0)
  | 0, p, l, h, hl, hn => by
    have := h.o1
    have := admN_le p
    omega
  | n + 1, p, l, h, hl, hn => by
    by_cases hc : emC p
    · rw [emi_go hc]
      obtain ⟨h1, h2⟩ := h.emN hc
      have hk := adm_keep p.us.length ⟨p.us, p.ws, p.ts, p.out + 1⟩
      have hp := adm_pre p.us.length ⟨p.us, p.ws, p.ts, p.out + 1⟩
      obtain ⟨a1, a2, a3, a4, a5, a6, a7⟩ := emi_spec n (emN p) (l ++ [p.out]) h1 h2 (by
        show ((Go.Proofs.Ytfcgmkpihmiadaa.adm _ _).us.length : Int) < n + (Go.Proofs.Ytfcgmkpihmiadaa.adm _ _).out
        rw [hk.1, hk.2.2.1]; simp only []; omega)
      have e1 : (emN p).us = p.us := hk.1
      have e2 : (emN p).ws = p.ws := hk.2.1
      have e3 : (emN p).out = p.out + 1 := hk.2.2.1
      have e4 : p.ts.length ≤ (emN p).ts.length := hk.2.2.2
      rw [e1] at a2
      rw [e2] at a3
      rw [e3] at a4 a5
      refine ⟨a1, a2, a3, by omega, ?_, by omega, fun i hi => (a7 i (by omega)).trans (hp i hi)⟩
      rw [a5, List.append_assoc]
      congr 1
      obtain ⟨m, hm⟩ : ∃ m : Nat, (emi n (emN p) (l ++ [p.out])).p.out = p.out + 1 + m := ⟨((emi n (emN p) (l ++ [p.out])).p.out - p.out - 1).toNat, by omega⟩
      rw [hm, show (p.out + 1 + (m : Int) - (p.out + 1)).toNat = m by omega, show (p.out + 1 + (m : Int) - p.out).toNat = m + 1 by omega]
      simp only [range', List.range_succ_eq_map, List.map_cons, List.map_map, List.singleton_append]
      congr 1
      · simp
      · refine List.map_congr_left fun i _ => ?_
        simp only [Function.comp]
        omega
    · rw [emi_no hc]
      refine ⟨⟨h, hl, ?_⟩, rfl, rfl, Int.le_refl _, by simp [range'], Nat.le_refl _, fun _ _ => rfl⟩
      have a0 := h.o0
      have a1 := h.o1
      have := overN_eq (ts := p.ts) (n := p.out.toNat) (fun i hi => h.ov i (by omega)) (by omega) (fun hi => by
        cases ho : (p.ts.getD p.out.toNat tk0).o
        · rfl
        · exact absurd ⟨by omega, ho⟩ hc)
      show p.out = overN p.ts
      omega
end Go.Proofs.Ytfcgmkpihmiadaa
