/-
  A region that draws its order, in any kind of frame: an operation whose value every world that meets a condition gives, and that nobody in the region touches, may be reckoned ahead of the others. Conditions: stated at each theorem.
-/
import Derived.Test.YthhbhekccacmlaaAzM
import Derived.OrdersIn
set_option linter.unusedSimpArgs false
set_option linter.unusedVariables false
namespace Go.Az
open Go Go.Chz Go.RowKit

/-- No fence at all; in a round of a range over a function, or not. -/
def Wd (ro : Option Nat) : Fence := { fn := fun _ => True, depth := none, alive := false, round := ro }
theorem Wd_room (ro : Option Nat) (n : Nat) : (Wd ro).room n := fun _ h => by cases h
theorem callsIn_Wd {ro : Option Nat} {n : Nat} {P : Program} {f : FuncId} {args : Array Value} {w : World} {R : Ending → World → Prop} (h : Calls P f args w R) : CallsIn (Wd ro) n P f args w R := by
  have h1 : CallsIn Fence.wide n P f args w R := callsIn_wide.2 h
  exact ⟨trivial, fun cs _ => h1.2 cs (room_wide _)⟩
theorem calls_of_Wd {n : Nat} {P : Program} {f : FuncId} {args : Array Value} {w : World} {R : Ending → World → Prop} (h : CallsIn (Wd none) n P f args w R) : Calls P f args w R :=
  h.calls fun k => Wd_room none k

def noDefer (ops : Array Oper) : Bool := ops.all fun o => match o.op with | .defer _ => false | _ => true
theorem noDefer_spec {ops : Array Oper} (h : noDefer ops = true) {j : Nat} {o : Oper} (ho : ops[j]? = some o) : ∀ c, o.op ≠ .defer c := by
  intro c heq
  have := Array.all_eq_true_iff_forall_mem.1 h o (Array.mem_of_getElem? ho)
  simp [heq] at this

section
variable {ro : Option Nat} {n : Nat} {P : Program} {ops : Array Oper} {Q : Exit → Act → World → Prop}

/-- Operation o, in state a, gives v in every world that meets S. -/
def Gives (P : Program) (ops : Array Oper) (S : World → Prop) (o : Oper) (v : Value) (a : Act) : Prop :=
  if Region.wanted o (yielded ops a.tmps) = true then ∀ w, S w → (execOp a.eval o).run P w = .ok (.value v) w else v = undef
theorem Gives.same {S : World → Prop} {o : Oper} {v : Value} {a a' : Act} (h : Gives P ops S o v a) (he : execOp a'.eval o = execOp a.eval o) (hw : Region.wanted o (yielded ops a'.tmps) = Region.wanted o (yielded ops a.tmps)) : Gives P ops S o v a' := by
  unfold Gives at *
  rw [he, hw]; exact h
theorem Gives.less {S S' : World → Prop} {o : Oper} {v : Value} {a : Act} (h : Gives P ops S o v a) (hS : ∀ w, S' w → S w) : Gives P ops S' o v a := by
  unfold Gives at *
  split
  · rename_i hw; rw [if_pos hw] at h; exact fun w hw => h w (hS w hw)
  · rename_i hw; rw [if_neg hw] at h; exact h

theorem semAt_Wd (o : Oper) (ho : ∀ c, o.op ≠ .defer c) (ρ : Operand → Value) : o.semAt (Wd ro).round ρ = execOp ρ o := Oper.semAt_eq _ ρ o ho

theorem Gives.now {i : Nat} {S : World → Prop} {o : Oper} {v : Value} {a : Act} {w : World} {K : Act → World → Prop} (hi : ops[i]? = some o) (hd : ∀ c, o.op ≠ .defer c) (h : Gives P ops S o v a) (hS : S w) (hK : K (a.put o.dst v) w) :
    wpOpIn (Wd ro) n P ops Q i K a w := by
  unfold Gives at h
  unfold wpOpIn
  simp only [hi]
  split
  · rename_i hw
    rw [if_pos hw] at h
    refine ⟨fun _ _ => trivial, ?_⟩
    rw [semAt_Wd o hd, h w hS]
    exact hK
  · rename_i hw
    rw [if_neg hw] at h
    exact ⟨fun _ _ => trivial, h ▸ hK⟩

/-- An operation j, where i's value is laid first. -/
theorem wpOpIn_behind {i j : Nat} {oi oj : Oper} {v : Value} {S : World → Prop} (hj : ops[j]? = some oj) (hap : oi.apart ops oj = true) (hsi : ∀ cs b, oi.op ≠ .select cs b) (hsj : ∀ cs b, oj.op ≠ .select cs b) (hdj : ∀ c, oj.op ≠ .defer c)
    (hQ : ∀ c a w, ¬ Q (.panic c) a w) {K : Act → World → Prop} {a : Act} {w : World} (hy : Gives P ops S oi v a) (h : wpOpIn (Wd ro) n P ops Q j K (a.put oi.dst v) w) :
    wpOpIn (Wd ro) n P ops Q j (fun a' w' => Gives P ops S oi v a' ∧ K (a'.put oi.dst v) w') a w := by
  obtain ⟨h1, h2, h3⟩ := Oper.apart_spec hap
  have keep : ∀ u, Gives P ops S oi v (a.put oj.dst u) := fun u => hy.same (execOp_put oi hsi a oj.dst u h3) (wanted_put oi a oj.dst u h3)
  have turn : ∀ u, (a.put oj.dst u).put oi.dst v = (a.put oi.dst v).put oj.dst u := fun u => (Act.put_comm a v u h2).symm
  unfold wpOpIn at h ⊢
  simp only [hj] at h ⊢
  rw [wanted_put oj a oi.dst v h1] at h
  split
  · rename_i hw
    rw [if_pos hw] at h
    obtain ⟨_, h⟩ := h
    refine ⟨fun _ _ => trivial, ?_⟩
    rw [semAt_Wd oj hdj] at h ⊢
    rw [execOp_put oj hsj a oi.dst v h1] at h
    cases hr : (execOp a.eval oj).run P w with
    | ok x w' =>
      rw [hr] at h
      cases x <;> simp only [Oper.uponIn] at h ⊢
      case value u => exact ⟨keep u, by rw [turn]; exact h⟩
      case skip => exact ⟨keep _, by rw [turn]; exact h⟩
      case defer d =>
        have e : ∀ d : Deferred, (({ a with defers := d :: a.defers } : Act).put oj.dst undef).put oi.dst v = ({ a.put oi.dst v with defers := d :: (a.put oi.dst v).defers } : Act).put oj.dst undef := by
          intro d
          rw [Act.put_defers]
          exact (Act.put_comm _ v undef h2).symm
        refine ⟨(hy.same (a' := { a with defers := d :: a.defers }) rfl rfl).same (execOp_put oi hsi _ oj.dst undef h3) (wanted_put oi _ oj.dst undef h3), ?_⟩
        rw [e]; exact h
      case enter g args =>
        refine ⟨h.1, h.2.mono fun e w'' he => ?_⟩
        cases e with
        | returned u => exact ⟨keep u, by rw [turn]; exact he⟩
        | panicked c => exact absurd he (hQ _ _ _)
        | outgrown => exact he
      case row row args => exact ⟨h.1, h.2.mono fun u w'' he => ⟨keep u, by rw [turn]; exact he⟩⟩
      case round l f tmps asg body =>
        refine ⟨h.1, h.2.mono fun e w'' he => ?_⟩
        cases e with
        | returned u => exact ⟨keep u, by rw [turn]; exact he⟩
        | panicked c => exact absurd he (hQ _ _ _)
        | outgrown => exact he
    | halt x w' =>
      rw [hr] at h
      cases x <;> simp only [Oper.uponIn] at h ⊢
      case panic u => exact absurd h (hQ _ _ _)
  · rename_i hw
    rw [if_neg hw] at h
    exact ⟨fun _ _ => trivial, keep _, by rw [turn]; exact h.2⟩

/-- Whatever order; S holds behind every operation. -/
def AnyS (ro : Option Nat) (n : Nat) (P : Program) (ops : Array Oper) (Q : Exit → Act → World → Prop) (S : World → Prop) : Nat → Array Bool → Act → World → Prop
  | 0, l, a, w => Region.ready .any ops l = [] ∧ Q .normal a w
  | k + 1, l, a, w => (Region.ready .any ops l = [] → Q .normal a w) ∧ ∀ i ∈ Region.ready .any ops l, wpOpIn (Wd ro) n P ops Q i (fun a' w' => S w' ∧ AnyS ro n P ops Q S k (l.setIfInBounds i true) a' w') a w
theorem any_of_S {S : World → Prop} : ∀ (k : Nat) (l : Array Bool) (a : Act) (w : World), AnyS ro n P ops Q S k l a w → wpAnyIn (Wd ro) n P .any ops Q k l a w
  | 0, _, _, _, h => h
  | k + 1, _, _, _, h => ⟨h.1, fun i hi => wpOpIn_mono (fun a' w' h' => any_of_S k _ a' w' h'.2) (h.2 i hi)⟩

/-- Reckoned first. -/
theorem AnyS.first {i : Nat} {oi : Oper} {v : Value} {S : World → Prop} (hi : ops[i]? = some oi) (hsel : Region.noSelect ops = true) (hdf : noDefer ops = true) (hQ : ∀ c a w, ¬ Q (.panic c) a w) :
    ∀ (k : Nat) (l : Array Bool) (a : Act) (w : World),
      (∀ j oj, ops[j]? = some oj → j ≠ i → l.getD j true = false → (∀ e ∈ oj.after, Region.binds .any e = true → e.on ≠ i) → oi.apart ops oj = true) →
      i ∈ Region.ready .any ops l → Gives P ops S oi v a → S w → AnyS ro n P ops Q S k (l.setIfInBounds i true) (a.put oi.dst v) w → AnyS ro n P ops Q S (k + 1) l a w := by
  intro k
  induction k with
  | zero =>
    intro l a w _ hr hy hS h
    refine ⟨fun h0 => (by rw [h0] at hr; cases hr), fun j hj => ?_⟩
    rcases Nat.decEq j i with hji | hji
    · have := ready_mono hj hji
      rw [h.1] at this; cases this
    · subst hji
      exact hy.now hi (noDefer_spec hdf hi) hS ⟨hS, h⟩
  | succ k ih =>
    intro l a w hfree hr hy hS h
    refine ⟨fun h0 => (by rw [h0] at hr; cases hr), fun j hj => ?_⟩
    rcases Nat.decEq j i with hji | hji
    · obtain ⟨hun, oj, hoj, hall⟩ := mem_ready.1 hj
      have hli := (mem_ready.1 hr).1
      have hno : ∀ e ∈ oj.after, Region.binds .any e = true → e.on ≠ i := by
        intro e he hb heq
        have h1 := hall e he hb
        rw [heq] at h1
        by_cases hlt : i < l.size
        · simp only [Array.getD, hlt, dif_pos] at h1 hli
          rw [h1] at hli; cases hli
        · simp only [Array.getD, hlt, dif_neg, not_false_eq_true] at h1; cases h1
      have h2 := wpOpIn_behind (i := i) hoj (hfree j oj hoj hji hun hno) (Region.noSelect_spec hsel i oi · · hi) (Region.noSelect_spec hsel j oj · · hoj) (noDefer_spec hdf hoj) hQ hy (h.2 j (ready_mono hj hji))
      refine wpOpIn_mono (fun a' w' h3 => ⟨h3.2.1, ih (l.setIfInBounds j true) a' w' ?_ (ready_mono hr (Ne.symm hji)) h3.1 h3.2.1 ?_⟩) h2
      · intro q oq hq hqi hunq hnoq
        refine hfree q oq hq hqi ?_ hnoq
        by_cases hjq : j = q
        · subst hjq; exact hun
        · rw [getD_set_ne true hjq] at hunq; exact hunq
      · rw [Array.setIfInBounds_comm _ _ hji]; exact h3.2.2
    · subst hji
      exact hy.now hi (noDefer_spec hdf hi) hS ⟨hS, h⟩

/-! ### A list that fits the region's edges -/
def ordFrom (ops : Array Oper) : List (Nat × Bool) → Array Bool → Bool
  | [], l => (Region.ready .any ops l).isEmpty
  | (i, true) :: r, l => (ops[i]?).isSome && Region.free .any ops l i && (Region.ready .any ops l).contains i && ordFrom ops r (l.setIfInBounds i true)
  | (i, false) :: r, l => (ops[i]?).isSome && (Region.ready .any ops l == [i]) && ordFrom ops r (l.setIfInBounds i true)
def ordOk (ops : Array Oper) (l : List (Nat × Bool)) : Bool := Region.noSelect ops && noDefer ops && Nat.beq l.length ops.size && ordFrom ops l (Array.replicate ops.size false)

/-- The walk along the list. -/
def along (ro : Option Nat) (n : Nat) (P : Program) (ops : Array Oper) (Q : Exit → Act → World → Prop) (S : World → Prop) : List (Nat × Bool) → Act → World → Prop
  | [], a, w => Q .normal a w
  | (i, true) :: r, a, w => ∃ o v, ops[i]? = some o ∧ Gives P ops S o v a ∧ along ro n P ops Q S r (a.put o.dst v) w
  | (i, false) :: r, a, w => wpOpIn (Wd ro) n P ops Q i (fun a' w' => S w' ∧ along ro n P ops Q S r a' w') a w
theorem any_of_along {S : World → Prop} (hsel : Region.noSelect ops = true) (hdf : noDefer ops = true) (hQ : ∀ c a w, ¬ Q (.panic c) a w) : ∀ (r : List (Nat × Bool)) (l : Array Bool) (a : Act) (w : World), ordFrom ops r l = true → S w → along ro n P ops Q S r a w → AnyS ro n P ops Q S r.length l a w
  | [], l, a, w, hc, _, h => ⟨by simpa [ordFrom] using hc, h⟩
  | (i, true) :: r, l, a, w, hc, hS, h => by
    obtain ⟨o, v, ho, hg, hr⟩ := h
    simp only [ordFrom, Bool.and_eq_true] at hc
    obtain ⟨⟨⟨_, hf⟩, hrd⟩, hc⟩ := hc
    exact AnyS.first ho hsel hdf hQ r.length l a w (Region.free_spec ho hf) (by simpa using hrd) hg hS (any_of_along hsel hdf hQ r _ _ _ hc hS hr)
  | (i, false) :: r, l, a, w, hc, hS, h => by
    simp only [ordFrom, Bool.and_eq_true, beq_iff_eq] at hc
    obtain ⟨⟨_, hrd⟩, hc⟩ := hc
    refine ⟨fun h0 => (by rw [hrd] at h0; cases h0), fun j hj => ?_⟩
    rw [hrd] at hj
    obtain rfl : j = i := by simpa using hj
    exact wpOpIn_mono (fun a' w' h' => ⟨h'.1, any_of_along hsel hdf hQ r _ _ _ hc h'.1 h'.2⟩) h
theorem wp_draw {id : Nat} {a : Act} {w : World} {S : World → Prop} (l : List (Nat × Bool)) (hm : P.follows .mixedOrders = true) (hc : ordOk ops l = true) (hQ : ∀ c a w, ¬ Q (.panic c) a w) (hS : S w.drew) (h : along ro n P ops Q S l a w.drew) :
    (Code.region id ops true).wpIn (Wd ro) n P Q a w := by
  simp only [ordOk, Bool.and_eq_true, Nat.beq_eq] at hc
  obtain ⟨⟨⟨h1, h2⟩, h3⟩, h4⟩ := hc
  refine wpIn_region_any hm ?_
  rw [← h3]
  exact any_of_S _ _ _ _ (any_of_along h1 h2 hQ l _ a _ (by rw [h3]; exact h4) hS h)
end
end Go.Az
