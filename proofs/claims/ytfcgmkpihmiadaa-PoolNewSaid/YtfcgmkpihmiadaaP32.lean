/-
  A part of the proof of a statement of a chapter's seat; conditions: stated at each theorem.
-/
import Derived.Test.YtfcgmkpihmiadaaP31
set_option linter.unusedVariables false
set_option linter.unusedSectionVars false
set_option linter.unusedSimpArgs false
set_option linter.unusedVariables false
set_option maxRecDepth 100000
set_option maxHeartbeats 4000000
namespace Go.Proofs.Ytfcgmkpihmiadaa
open Go.Az Go
/-! ### What pools tell -/
def idx {α : Type} (c : α → Bool) : List α → Int → List Int
  | [], _ => []
  | x :: r, i => if c x = true then i :: idx c r (i + 1) else idx c r (i + 1)
theorem idx_take {α : Type} (c : α → Bool) (d : α) : ∀ (l : List α) (a : Int) (i : Nat), i < l.length → idx c (l.take (i + 1)) a = idx c (l.take i) a ++ (if c (l.getD i d) = true then [a + i] else [])
  | [], a, i, h => by simp at h
  | x :: l, a, 0, h => by simp [idx]
  | x :: l, a, i + 1, h => by
    have := idx_take c d l (a + 1) i (by simpa using h)
    simp only [List.take_succ_cons, idx, List.getD_cons_succ] at this ⊢
    rw [this, show a + 1 + (i : Int) = a + ((i + 1 : Nat) : Int) by omega]
    split <;> simp
theorem idx_len {α : Type} (c : α → Bool) : ∀ (l : List α) (a : Int), (idx c l a).length ≤ l.length
  | [], a => Nat.le_refl _
  | y :: l, a => by
    have := idx_len c l (a + 1)
    rw [idx]
    split <;> simp only [List.length_cons] <;> omega
def waitL (p : Pl) : List Int := idx Tk.f p.ts 0
def busyL (p : Pl) : List Int := idx (busyB p) p.ws 0
def mxA : List Tk → Int → Int
  | [], m => m
  | t :: r, m => mxA r (max m t.a)
/-! ### Pools at first -/
structure Nq where
  p : Pl
  e : Int
def newP (n : Int) (us : List Int) : Pl := adQ ⟨us, List.replicate n.toNat ⟨-1, 0⟩, [], 0⟩
def newQ (n : Int) (us : List Int) : Nq := if givE n us ≠ 0 then ⟨pl0, givE n us⟩ else ⟨newP n us, 0⟩
theorem newP_inv {n : Int} {us : List Int} (h : givE n us = 0) : Inv (newP n us) ∧ (newP n us).us = us ∧ ((newP n us).ws.length : Int) = n ∧ (newP n us).out = 0 ∧ attS (newP n us).ts = 0 ∧ ∀ i, ((newP n us).ts.getD i tk0).a = 0 ∧ ((newP n us).ts.getD i tk0).o = false := by
  obtain ⟨g1, g2, g3⟩ := (givE_iff _ _).1 h
  have hr : ∀ k, (List.replicate n.toNat (⟨-1, 0⟩ : Wk)).getD k wk0 = ⟨-1, 0⟩ := fun k => by
    rw [List.getD_eq_getElem?_getD, List.getElem?_replicate]
    split <;> rfl
  have hm : Mid ⟨us, List.replicate n.toNat ⟨-1, 0⟩, [], 0⟩ := by
    refine ⟨by simp only [List.length_replicate]; omega, g2, g3, fun i hi => by simp at hi, fun k hk => ?_, Int.le_refl _, by simp, fun i hi => by simp only [] at hi; omega, ?_, fun i hi => by simp at hi⟩
    · simp only [hr]
      exact ck_in (j := -1) (d := 0) rfl (by omega) (by simp) (fun _ => rfl) (fun hh => absurd hh (by omega))
    · simp only [admN, List.length_replicate, List.length_nil]; omega
  obtain ⟨h1, h2⟩ := hm.adI
  have hk := adm_keep us.length ⟨us, List.replicate n.toNat ⟨-1, 0⟩, [], 0⟩
  have hz : ∀ i, ((newP n us).ts.getD i tk0).o = false ∧ ((newP n us).ts.getD i tk0).a = 0 := fun i => adm_new _ _ i hm (by simp)
  have ho : (newP n us).out = 0 := hk.2.2.1
  refine ⟨⟨h1, h2, ?_⟩, hk.1, ?_, ho, ?_, fun i => ⟨(hz i).2, (hz i).1⟩⟩
  · have := overN_eq (ts := (newP n us).ts) (n := 0) (fun i hi => by omega) (by omega) (fun hh => (hz 0).1)
    rw [ho, this]; rfl
  · have : (newP n us).ws = List.replicate n.toNat ⟨-1, 0⟩ := hk.2.1
    rw [this, List.length_replicate]; omega
  · unfold attS
    rw [sumF_rng Tk.a tk0 rfl _ _ (Nat.le_refl _), sumF_eq _ (fun _ => (0 : Int)) _ (fun i _ => (hz i).2)]
    exact sumF_zero _
/-! ### Pools and picks made of numbers -/
def pkW (p : Pl) (x : Int) : Int := (x % 1048576) / 4 % (max p.ws.length 1 : Nat)
def pkF (x : Int) : Bool := decide (x % 1048576 % 4 = 0)
structure Qs where
  p : Pl
  l : List Int
def pks : List Int → Pl → List Int → Qs
  | [], p, l => ⟨p, l⟩
  | x :: r, p, l => pks r (pickQ p (pkW p x) (pkF x)).p (l ++ (pickQ p (pkW p x) (pkF x)).l)
structure PkI (p : Pl) (l : List Int) (q : Pl) (ol : List Int) (m : Nat) : Prop where
  inv : Inv q
  us : q.us = p.us
  wl : q.ws.length = p.ws.length
  o : q.out = ol.length
  l : ol = range' 0 ol.length
  a : ∀ i, (q.ts.getD i tk0).a ≤ m
def mkU (n : Int) (nums : List Int) : List Int := (1 + n % 3) :: (nums.take 7).map fun x => 1 + x % 3
def mkP (n : Int) (nums : List Int) : Pl := newP (1 + n % 4) (mkU n nums)
end Go.Proofs.Ytfcgmkpihmiadaa
