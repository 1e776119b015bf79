/-
  A part of the proof of a statement of a chapter's seat; conditions: stated at each theorem.
-/
import Derived.Test.YtfcgmkpihmiadaaP31
set_option linter.unusedVariables false
set_option linter.unusedSectionVars false
set_option linter.unusedSimpArgs false
set_option linter.unusedVariables false
set_option maxRecDepth 100000
set_option maxHeartbeats 4000000
namespace Go.Proofs.Ytfcgmkpihmiadaa
open Go.Az Go
/-! ### What pools tell -/
def idx {α : Type} (c : α → Bool) : List α → Int → List Int
  | [], _ => []
  | x :: r, i => if c x = true then i :: idx c r (i + 1) else idx c r (i + 1)
theorem idx_take {α : Type} (c : α → Bool) (d : α) : ∀ (l : List α) (a : Int) (i : Nat), i < l.length → idx c (l.take (i + 1)) a = idx c (l.take i) a ++ (if c (l.getD i d) = true then [a + i] else [])
  | [], a, i, h => by simp at h
  | x :: l, a, 0, h => by simp [idx]
  | x :: l, a, i + 1, h => by
    have := idx_take c d l (a + 1) i (by simpa using h)
    simp only [List.take_succ_cons, idx, List.getD_cons_succ] at this ⊢
    rw [this, show a + 1 + (i : Int) = a + ((i + 1 : Nat) : Int) by omega]
    split <;> simp
theorem idx_mem {α : Type} (c : α → Bool) (d : α) : ∀ (l : List α) (a x : Int), x ∈ idx c l a ↔ ∃ k, k < l.length ∧ x = a + k ∧ c (l.getD k d) = true
  | [], a, x => by simp [idx]
  | y :: l, a, x => by
    have ih := idx_mem c d l (a + 1) x
    rw [idx]
    constructor
    · intro h
      have h' : (c y = true ∧ x = a) ∨ x ∈ idx c l (a + 1) := by
        split at h
        · rename_i hc
          rcases List.mem_cons.1 h with h | h
          · exact .inl ⟨hc, h⟩
          · exact .inr h
        · exact .inr h
      rcases h' with ⟨h1, h2⟩ | h'
      · exact ⟨0, by simp, by omega, h1⟩
      · obtain ⟨k, h1, h2, h3⟩ := ih.1 h'
        exact ⟨k + 1, by simp; omega, by omega, by simpa using h3⟩
    · rintro ⟨k, h1, h2, h3⟩
      cases k with
      | zero =>
        simp only [List.getD_cons_zero] at h3
        rw [if_pos h3]
        simp only [List.mem_cons]; left; omega
      | succ k =>
        have : x ∈ idx c l (a + 1) := ih.2 ⟨k, by simpa using h1, by omega, by simpa using h3⟩
        split
        · exact List.mem_cons_of_mem _ this
        · exact this
theorem idx_len {α : Type} (c : α → Bool) : ∀ (l : List α) (a : Int), (idx c l a).length ≤ l.length
  | [], a => Nat.le_refl _
  | y :: l, a => by
    have := idx_len c l (a + 1)
    rw [idx]
    split <;> simp only [List.length_cons] <;> omega
def waitL (p : Pl) : List Int := idx Tk.f p.ts 0
def busyL (p : Pl) : List Int := idx (busyB p) p.ws 0
def mxA : List Tk → Int → Int
  | [], m => m
  | t :: r, m => mxA r (max m t.a)
theorem mxA_take (l : List Tk) : ∀ (i : Nat) (m : Int), i < l.length → mxA (l.take (i + 1)) m = max (mxA (l.take i) m) (l.getD i tk0).a := by
  induction l with
  | nil => intro i m h; simp at h
  | cons t r ih =>
    intro i m h
    cases i with
    | zero => simp [mxA]
    | succ i =>
      have := ih i (max m t.a) (by simpa using h)
      simp only [List.take_succ_cons, mxA, List.getD_cons_succ] at this ⊢
      exact this
theorem busyR_in {p : Pl} (h : Inv p) {k : Nat} (hk : k < p.ws.length) : busyR (p.ws.getD k wk0).j (p.ws.getD k wk0).d p.ts = .tup [B (busyB p (p.ws.getD k wk0)), I 0] := by
  have hc := h.ck k hk
  unfold busyB
  by_cases hb : 0 ≤ (p.ws.getD k wk0).j ∨ 0 ≤ fr p.ts 0
  · rw [busy2 hc hb, decide_eq_true hb]
  · rw [busy3 hc hb, decide_eq_false hb]
theorem busyL_mem {p : Pl} (x : Int) : x ∈ busyL p ↔ ∃ k, k < p.ws.length ∧ x = k ∧ busyB p (p.ws.getD k wk0) = true := by
  rw [busyL, idx_mem (busyB p) wk0]
  simp only [Int.zero_add]
/-! ### Pools at first -/
structure Nq where
  p : Pl
  e : Int
def newP (n : Int) (us : List Int) : Pl := adQ ⟨us, List.replicate n.toNat ⟨-1, 0⟩, [], 0⟩
def newQ (n : Int) (us : List Int) : Nq := if givE n us ≠ 0 then ⟨pl0, givE n us⟩ else ⟨newP n us, 0⟩
theorem newP_inv {n : Int} {us : List Int} (h : givE n us = 0) : Inv (newP n us) ∧ (newP n us).us = us ∧ ((newP n us).ws.length : Int) = n ∧ (newP n us).out = 0 ∧ attS (newP n us).ts = 0 ∧ ∀ i, ((newP n us).ts.getD i tk0).a = 0 ∧ ((newP n us).ts.getD i tk0).o = false := by
  obtain ⟨g1, g2, g3⟩ := (givE_iff _ _).1 h
  have hr : ∀ k, (List.replicate n.toNat (⟨-1, 0⟩ : Wk)).getD k wk0 = ⟨-1, 0⟩ := fun k => by
    rw [List.getD_eq_getElem?_getD, List.getElem?_replicate]
    split <;> rfl
  have hm : Mid ⟨us, List.replicate n.toNat ⟨-1, 0⟩, [], 0⟩ := by
    refine ⟨by simp only [List.length_replicate]; omega, g2, g3, fun i hi => by simp at hi, fun k hk => ?_, Int.le_refl _, by simp, fun i hi => by simp only [] at hi; omega, ?_, fun i hi => by simp at hi⟩
    · simp only [hr]
      exact ck_in (j := -1) (d := 0) rfl (by omega) (by simp) (fun _ => rfl) (fun hh => absurd hh (by omega))
    · simp only [admN, List.length_replicate, List.length_nil]; omega
  obtain ⟨h1, h2⟩ := hm.adI
  have hk := adm_keep us.length ⟨us, List.replicate n.toNat ⟨-1, 0⟩, [], 0⟩
  have hz : ∀ i, ((newP n us).ts.getD i tk0).o = false ∧ ((newP n us).ts.getD i tk0).a = 0 := fun i => adm_new _ _ i hm (by simp)
  have ho : (newP n us).out = 0 := hk.2.2.1
  refine ⟨⟨h1, h2, ?_⟩, hk.1, ?_, ho, ?_, fun i => ⟨(hz i).2, (hz i).1⟩⟩
  · have := overN_eq (ts := (newP n us).ts) (n := 0) (fun i hi => by omega) (by omega) (fun hh => (hz 0).1)
    rw [ho, this]; rfl
  · have : (newP n us).ws = List.replicate n.toNat ⟨-1, 0⟩ := hk.2.1
    rw [this, List.length_replicate]; omega
  · unfold attS
    rw [sumF_rng Tk.a tk0 rfl _ _ (Nat.le_refl _), sumF_eq _ (fun _ => (0 : Int)) _ (fun i _ => (hz i).2)]
    exact sumF_zero _
/-! ### Pools and picks made of numbers -/
def pkW (p : Pl) (x : Int) : Int := (x % 1048576) / 4 % (max p.ws.length 1 : Nat)
def pkF (x : Int) : Bool := decide (x % 1048576 % 4 = 0)
structure Qs where
  p : Pl
  l : List Int
def pks : List Int → Pl → List Int → Qs
  | [], p, l => ⟨p, l⟩
  | x :: r, p, l => pks r (pickQ p (pkW p x) (pkF x)).p (l ++ (pickQ p (pkW p x) (pkF x)).l)
theorem pks_snoc : ∀ (xs : List Int) (x : Int) (p : Pl) (l : List Int), pks (xs ++ [x]) p l = ⟨(pickQ (pks xs p l).p (pkW (pks xs p l).p x) (pkF x)).p, (pks xs p l).l ++ (pickQ (pks xs p l).p (pkW (pks xs p l).p x) (pkF x)).l⟩
  | [], x, p, l => rfl
  | y :: xs, x, p, l => by rw [List.cons_append, pks, pks, pks_snoc xs x]
theorem pkW_rng (p : Pl) (h : 1 ≤ p.ws.length) (x : Int) : 0 ≤ pkW p x ∧ pkW p x < p.ws.length := by
  unfold pkW
  have : max p.ws.length 1 = p.ws.length := by omega
  rw [this]
  exact ⟨Int.emod_nonneg _ (by omega), Int.emod_lt_of_pos _ (by omega)⟩
structure PkI (p : Pl) (l : List Int) (q : Pl) (ol : List Int) (m : Nat) : Prop where
  inv : Inv q
  us : q.us = p.us
  wl : q.ws.length = p.ws.length
  o : q.out = ol.length
  l : ol = range' 0 ol.length
  a : ∀ i, (q.ts.getD i tk0).a ≤ m
theorem range'_len (a : Int) (n : Nat) : (range' a n).length = n := by simp [range']
theorem range'_app (a : Int) (n m : Nat) : range' a n ++ range' (a + n) m = range' a (n + m) := by
  induction m with
  | zero => simp [range']
  | succ m ih =>
    rw [← range'_snoc (a + n) m, ← List.append_assoc, ih, show a + (n : Int) + (m : Int) = a + ((n + m : Nat) : Int) by omega, range'_snoc]
    rfl
theorem pickN {p : Pl} (h : Inv p) {w : Int} (h0 : 0 ≤ w) (h1 : w < p.ws.length) (b : Bool) : QS p w.toNat b (pickQ p w b) := by
  have := pickQ_spec h (n := w.toNat) (by omega) b
  rwa [Int.toNat_of_nonneg h0] at this
theorem pks_spec (p : Pl) (h : Inv p) (ho : p.out = 0) (ha : ∀ i, (p.ts.getD i tk0).a = 0) : ∀ (n : Nat) (xs : List Int), PkI p [] (pks (xs.take n) p []).p (pks (xs.take n) p []).l n
  | 0, xs => ⟨h, rfl, rfl, ho, by simp [pks, range'], fun i => by simp only [List.take_zero, pks, ha]; omega⟩
  | n + 1, xs => by
    have ih := pks_spec p h ho ha n xs
    by_cases hn : n < xs.length
    · rw [takeT (d := 0) hn, pks_snoc]
      generalize pks (xs.take n) p [] = q at *
      obtain ⟨q, ol⟩ := q
      simp only [] at ih ⊢
      have hw := pkW_rng q (by have := ih.inv.gn; omega) (xs.getD n 0)
      have s := pickN ih.inv hw.1 hw.2 (pkF (xs.getD n 0))
      generalize pickQ q (pkW q (xs.getD n 0)) (pkF (xs.getD n 0)) = r at *
      have hl : r.l.length = (r.p.out - q.out).toNat := by rw [s.l, range'_len]
      have h1 := s.o
      have h2 := ih.o
      refine ⟨s.inv, s.us.trans ih.us, s.wl.trans ih.wl, by rw [List.length_append, hl]; omega, ?_, fun i => ?_⟩
      · rw [List.length_append]
        have e : ol ++ r.l = range' 0 ol.length ++ range' (0 + (ol.length : Int)) r.l.length := by
          rw [← ih.l, hl, s.l, show q.out = 0 + (ol.length : Int) by omega]
        rw [e, range'_app]
      · have a1 := s.atb i
        have a2 := ih.a i
        omega
    · have e : xs.take (n + 1) = xs.take n := by rw [List.take_of_length_le (by omega), List.take_of_length_le (by omega)]
      rw [e]
      exact ⟨ih.inv, ih.us, ih.wl, ih.o, ih.l, fun i => by have := ih.a i; omega⟩
def mkU (n : Int) (nums : List Int) : List Int := (1 + n % 3) :: (nums.take 7).map fun x => 1 + x % 3
def mkP (n : Int) (nums : List Int) : Pl := newP (1 + n % 4) (mkU n nums)
theorem mkU_at (n : Int) (nums : List Int) (i : Nat) (hi : i < (mkU n nums).length) : 1 ≤ (mkU n nums).getD i 0 ∧ (mkU n nums).getD i 0 ≤ 3 := by
  unfold mkU at hi ⊢
  cases i with
  | zero => simp only [List.getD_cons_zero]; omega
  | succ i =>
    simp only [List.length_cons, List.length_map] at hi
    show 1 ≤ ((nums.take 7).map fun x => 1 + x % 3).getD i 0 ∧ ((nums.take 7).map fun x => 1 + x % 3).getD i 0 ≤ 3
    rw [List.getD_eq_getElem?_getD, List.getElem?_map, List.getElem?_eq_getElem (show i < (nums.take 7).length by omega)]
    simp only [Option.map_some, Option.getD_some]
    omega
theorem mkU_len (n : Int) (nums : List Int) : 1 ≤ (mkU n nums).length ∧ (mkU n nums).length ≤ 8 := by
  simp only [mkU, List.length_cons, List.length_map, List.length_take]; omega
theorem mk_giv (n : Int) (nums : List Int) : givE (1 + n % 4) (mkU n nums) = 0 := by
  have h1 := mkU_len n nums
  refine (givE_iff _ _).2 ⟨by omega, by omega, fun i hi => ?_⟩
  have := mkU_at n nums i hi
  omega
end Go.Proofs.Ytfcgmkpihmiadaa
