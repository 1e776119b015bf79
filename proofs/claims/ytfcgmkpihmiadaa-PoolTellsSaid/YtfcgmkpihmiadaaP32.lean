/-
  A part of the proof of a statement of a chapter's seat; conditions: stated at each theorem.
-/
import Derived.Test.YtfcgmkpihmiadaaP31
set_option linter.unusedVariables false
set_option linter.unusedSectionVars false
set_option linter.unusedSimpArgs false
set_option linter.unusedVariables false
set_option maxRecDepth 100000
set_option maxHeartbeats 4000000
namespace Go.Proofs.Ytfcgmkpihmiadaa
open Go.Az Go
/-! ### What pools tell -/
def idx {α : Type} (c : α → Bool) : List α → Int → List Int
  | [], _ => []
  | x :: r, i => if c x = true then i :: idx c r (i + 1) else idx c r (i + 1)
theorem idx_take {α : Type} (c : α → Bool) (d : α) : ∀ (l : List α) (a : Int) (i : Nat), i < l.length → idx c (l.take (i + 1)) a = idx c (l.take i) a ++ (if c (l.getD i d) = true then [a + i] else [])
  | [], a, i, h => by simp at h
  | x :: l, a, 0, h => by simp [idx]
  | x :: l, a, i + 1, h => by
    have := idx_take c d l (a + 1) i (by simpa using h)
    simp only [List.take_succ_cons, idx, List.getD_cons_succ] at this ⊢
    rw [this, show a + 1 + (i : Int) = a + ((i + 1 : Nat) : Int) by omega]
    split <;> simp
theorem idx_len {α : Type} (c : α → Bool) : ∀ (l : List α) (a : Int), (idx c l a).length ≤ l.length
  | [], a => Nat.le_refl _
  | y :: l, a => by
    have := idx_len c l (a + 1)
    rw [idx]
    split <;> simp only [List.length_cons] <;> omega
def waitL (p : Pl) : List Int := idx Tk.f p.ts 0
def busyL (p : Pl) : List Int := idx (busyB p) p.ws 0
def mxA : List Tk → Int → Int
  | [], m => m
  | t :: r, m => mxA r (max m t.a)
theorem mxA_take (l : List Tk) : ∀ (i : Nat) (m : Int), i < l.length → mxA (l.take (i + 1)) m = max (mxA (l.take i) m) (l.getD i tk0).a := by
  induction l with
  | nil => intro i m h; simp at h
  | cons t r ih =>
    intro i m h
    cases i with
    | zero => simp [mxA]
    | succ i =>
      have := ih i (max m t.a) (by simpa using h)
      simp only [List.take_succ_cons, mxA, List.getD_cons_succ] at this ⊢
      exact this
theorem busyR_in {p : Pl} (h : Inv p) {k : Nat} (hk : k < p.ws.length) : busyR (p.ws.getD k wk0).j (p.ws.getD k wk0).d p.ts = .tup [B (busyB p (p.ws.getD k wk0)), I 0] := by
  have hc := h.ck k hk
  unfold busyB
  by_cases hb : 0 ≤ (p.ws.getD k wk0).j ∨ 0 ≤ fr p.ts 0
  · rw [busy2 hc hb, decide_eq_true hb]
  · rw [busy3 hc hb, decide_eq_false hb]
/-! ### Pools at first -/
structure Nq where
  p : Pl
  e : Int
def newP (n : Int) (us : List Int) : Pl := adQ ⟨us, List.replicate n.toNat ⟨-1, 0⟩, [], 0⟩
def newQ (n : Int) (us : List Int) : Nq := if givE n us ≠ 0 then ⟨pl0, givE n us⟩ else ⟨newP n us, 0⟩
/-! ### Pools and picks made of numbers -/
def pkW (p : Pl) (x : Int) : Int := (x % 1048576) / 4 % (max p.ws.length 1 : Nat)
def pkF (x : Int) : Bool := decide (x % 1048576 % 4 = 0)
structure Qs where
  p : Pl
  l : List Int
def pks : List Int → Pl → List Int → Qs
  | [], p, l => ⟨p, l⟩
  | x :: r, p, l => pks r (pickQ p (pkW p x) (pkF x)).p (l ++ (pickQ p (pkW p x) (pkF x)).l)
structure PkI (p : Pl) (l : List Int) (q : Pl) (ol : List Int) (m : Nat) : Prop where
  inv : Inv q
  us : q.us = p.us
  wl : q.ws.length = p.ws.length
  o : q.out = ol.length
  l : ol = range' 0 ol.length
  a : ∀ i, (q.ts.getD i tk0).a ≤ m
def mkU (n : Int) (nums : List Int) : List Int := (1 + n % 3) :: (nums.take 7).map fun x => 1 + x % 3
def mkP (n : Int) (nums : List Int) : Pl := newP (1 + n % 4) (mkU n nums)
end Go.Proofs.Ytfcgmkpihmiadaa
