/-
  Steps of a walk over abstract memory, and the bridge to the model's own contracts. Conditions: stated at each theorem.
-/
import Derived.Test.YthhbhekccacmlaaAzV
set_option linter.unusedSimpArgs false
set_option linter.unusedVariables false
namespace Go.Az
open Go Go.Chz Go.RowKit

section
variable {P : Program} {m : Nat} {ro : Option Nat} {K : Exit → Fr → Hp → Prop} {f : Fr} {h : Hp}

theorem s_seq {a b : Code} (hk : wk P m ro a (thenK (wk P m ro b K) K) f h) : wk P m ro (.seq a b) K f h := hk
theorem s_skip (hk : K .normal f h) : wk P m ro .skip K f h := hk
theorem s_label {l : Nat} (hk : K .normal f h) : wk P m ro (.label l) K f h := hk
theorem s_exit {i : Nat} (hk : K (.exit i) f h) : wk P m ro (.exit i) K f h := hk
theorem s_ret (hk : K .ret f h) : wk P m ro .ret K f h := hk
theorem s_block {i : Nat} {b : Code} (hk : wk P m ro b (blkK i K) f h) : wk P m ro (.block i b) K f h := hk
theorem s_cond {c : Operand} {a b : Code} (t : Bool) (hc : ev f c = .v (.bool t)) (h1 : t = true → wk P m ro a K f h) (h2 : t = false → wk P m ro b K f h) : wk P m ro (.cond c a b) K f h := ⟨t, hc, h1, h2⟩
theorem s_condT {c : Operand} {a b : Code} (hc : ev f c = .v (.bool true)) (h1 : wk P m ro a K f h) : wk P m ro (.cond c a b) K f h := ⟨true, hc, fun _ => h1, fun h => (by cases h)⟩
theorem s_condF {c : Operand} {a b : Code} (hc : ev f c = .v (.bool false)) (h1 : wk P m ro b K f h) : wk P m ro (.cond c a b) K f h := ⟨false, hc, fun h => (by cases h), fun _ => h1⟩
theorem s_then {N : Fr → Hp → Prop} (hk : N f h) : thenK N K .normal f h := hk
theorem s_thenR {N : Fr → Hp → Prop} (hk : K .ret f h) : thenK N K .ret f h := hk
theorem s_thenE {N : Fr → Hp → Prop} {i : Nat} (hk : K (.exit i) f h) : thenK N K (.exit i) f h := hk
theorem s_blkN {i : Nat} (hk : K .normal f h) : blkK i K .normal f h := hk
theorem s_blkR {i : Nat} (hk : K .ret f h) : blkK i K .ret f h := hk
theorem s_blkE {i : Nat} (hk : K .normal f h) : blkK i K (.exit i) f h := by simp only [blkK, if_true]; exact hk
theorem s_blkX {i j : Nat} (hne : (i == j) = false) (hk : K (.exit i) f h) : blkK j K (.exit i) f h := by
  simp only [blkK]; rw [if_neg (by simpa using hne)]; exact hk

/-- A plain region, operation by operation. -/
def wkO (P : Program) (ops : Array Oper) : List Oper → (Fr → Hp → Prop) → Fr → Hp → Prop
  | [], K, f, h => K f h
  | o :: r, K, f, h => if wantA ops f o = true then WOp P o f h (fun v h' => wkO P ops r K (f.put o.dst v) h') else wkO P ops r K (f.put o.dst (.v undef)) h
theorem wkL_of_O {ops : Array Oper} {K : Fr → Hp → Prop} : ∀ (l : List Oper) (k : Nat) (f : Fr) (h : Hp), (∀ (i : Nat) (o : Oper), l[i]? = some o → ops[k + i]? = some o) → wkO P ops l K f h → wkL P ops (List.range' k l.length) K f h
  | [], k, f, h, _, hk => hk
  | o :: r, k, f, h, hl, hk => by
    have h0 := hl 0 o rfl
    have hr : ∀ (i : Nat) (o' : Oper), r[i]? = some o' → ops[k + 1 + i]? = some o' := fun i o' hi => by
      have := hl (i + 1) o' (by simpa using hi)
      rwa [show k + (i + 1) = k + 1 + i by omega] at this
    simp only [List.length_cons, List.range'_succ, wkL]
    simp only [Nat.add_zero] at h0
    simp only [h0]
    simp only [wkO] at hk
    split
    · rename_i hw
      rw [if_pos hw] at hk
      have hmono : ∀ {N N' : AV → Hp → Prop}, (∀ v h', N v h' → N' v h') → WOp P o f h N → WOp P o f h N' := by
        rintro N N' hn (⟨r, h1, h2⟩ | ⟨r, h', h1, h2⟩ | ⟨g, args, h1, h2, h3⟩ | ⟨i, args, h1, st, pe, tm, ps, asg, bd, d, h2, h3, h4⟩ | ⟨r1, r2, h1, h2, h3⟩ | ⟨t, name, args, g, h1, h2, h3, h4⟩)
        · exact .inl ⟨r, h1, hn _ _ h2⟩
        · exact .inr (.inl ⟨r, h', h1, hn _ _ h2⟩)
        · exact .inr (.inr (.inl ⟨g, args, h1, h2, h3.mono fun r h' _ hh => hn _ _ hh⟩))
        · exact .inr (.inr (.inr (.inl ⟨i, args, h1, st, pe, tm, ps, asg, bd, d, h2, h3, fun fn ρ w H hs => (h4 fn ρ w H hs).mono fun e w' hp => hp.mono fun r h' _ _ hh => hn _ _ hh⟩)))
        · exact .inr (.inr (.inr (.inr (.inl ⟨r1, r2, h1, hn _ _ h2, hn _ _ h3⟩))))
        · exact .inr (.inr (.inr (.inr (.inr ⟨t, name, args, g, h1, h2, h3, h4.mono fun r h' _ hh => hn _ _ hh⟩))))
      exact hmono (fun v h' hh => wkL_of_O r (k + 1) _ h' hr hh) hk
    · rename_i hw
      rw [if_neg hw] at hk
      exact wkL_of_O r (k + 1) _ h hr hk
theorem s_reg {id : Nat} {l : List Oper} (hk : wkO P l.toArray l (K .normal) f h) : wk P m ro (.region id l.toArray false) K f h := by
  simp only [wk]
  have := wkL_of_O (ops := l.toArray) l 0 f h (fun i o hi => by simpa using hi) hk
  rwa [← List.range_eq_range', show l.length = l.toArray.size by simp] at this
theorem s_regD {id : Nat} {ops : Array Oper} (l : List (Nat × Bool)) (h0 : Hp) (h1 : ordOk ops l = true) (h2 : Keeps h0 h) (h3 : h0.length = h.length) (hk : wkD P ops h0 l (K .normal) f h) : wk P m ro (.region id ops true) K f h := .inl ⟨l, h0, h1, h2, h3, hk⟩

variable {ops : Array Oper} {N : Fr → Hp → Prop} {d : Option Tmp} {op : Op} {ty : TypeId} {pos : String} {aft : Array Edge} {gd : Option (Nat × Bool)} {rest : List Oper}
theorem s_end (hk : N f h) : wkO P ops [] N f h := hk
theorem s_opL {r : AV} (hx : exL P f h op = some r) (hk : wkO P ops rest N (f.put d r) h) : wkO P ops (⟨d, op, ty, pos, aft, none⟩ :: rest) N f h := by
  show (if _ then _ else _)
  rw [if_pos (show wantA ops f ⟨d, op, ty, pos, aft, none⟩ = true from rfl)]; exact .inl ⟨r, hx, hk⟩
theorem s_opH {r : AV} {h' : Hp} (hx : exH P f h op = some (r, h')) (hk : wkO P ops rest N (f.put d r) h') : wkO P ops (⟨d, op, ty, pos, aft, none⟩ :: rest) N f h := by
  show (if _ then _ else _)
  rw [if_pos (show wantA ops f ⟨d, op, ty, pos, aft, none⟩ = true from rfl)]; exact .inr (.inl ⟨r, h', hx, hk⟩)
theorem s_opC {g : FuncId} {args : List AV} (hx : callOf f op = some (g, args)) (hg : okFn P g = true) (hk : ACalls P g args h (fun r h' => wkO P ops rest N (f.put d r) h')) : wkO P ops (⟨d, op, ty, pos, aft, none⟩ :: rest) N f h := by
  show (if _ then _ else _)
  rw [if_pos (show wantA ops f ⟨d, op, ty, pos, aft, none⟩ = true from rfl)]; exact .inr (.inr (.inl ⟨g, args, hx, hg, hk⟩))
/-- With a guard. -/
theorem s_gL {r : AV} (hw : wantA ops f ⟨d, op, ty, pos, aft, gd⟩ = true) (hx : exL P f h op = some r) (hk : wkO P ops rest N (f.put d r) h) : wkO P ops (⟨d, op, ty, pos, aft, gd⟩ :: rest) N f h := by
  show (if _ then _ else _)
  rw [if_pos hw]; exact .inl ⟨r, hx, hk⟩
theorem s_gH {r : AV} {h' : Hp} (hw : wantA ops f ⟨d, op, ty, pos, aft, gd⟩ = true) (hx : exH P f h op = some (r, h')) (hk : wkO P ops rest N (f.put d r) h') : wkO P ops (⟨d, op, ty, pos, aft, gd⟩ :: rest) N f h := by
  show (if _ then _ else _)
  rw [if_pos hw]; exact .inr (.inl ⟨r, h', hx, hk⟩)
theorem s_gC {g : FuncId} {args : List AV} (hw : wantA ops f ⟨d, op, ty, pos, aft, gd⟩ = true) (hx : callOf f op = some (g, args)) (hg : okFn P g = true) (hk : ACalls P g args h (fun r h' => wkO P ops rest N (f.put d r) h')) : wkO P ops (⟨d, op, ty, pos, aft, gd⟩ :: rest) N f h := by
  show (if _ then _ else _)
  rw [if_pos hw]; exact .inr (.inr (.inl ⟨g, args, hx, hg, hk⟩))
theorem s_gN (hw : wantA ops f ⟨d, op, ty, pos, aft, gd⟩ = false) (hk : wkO P ops rest N (f.put d (.v undef)) h) : wkO P ops (⟨d, op, ty, pos, aft, gd⟩ :: rest) N f h := by
  show (if _ then _ else _)
  rw [if_neg (by rw [hw]; simp)]; exact hk

/-! ### Drawn regions -/
variable {h0 : Hp} {i : Nat} {lst : List (Nat × Bool)}
theorem d_end (hk : N f h) : wkD P ops h0 [] N f h := hk
theorem d_light {o : Oper} {r : AV} (ho : ops[i]? = some o) (hw : wantA ops f o = true) (hx : exL P f (padH h0 h) o.op = some r) (hk : wkD P ops h0 lst N (f.put o.dst r) h) : wkD P ops h0 ((i, true) :: lst) N f h := by
  simp only [wkD, ho, hw, if_true]; exact ⟨r, hx, hk⟩
theorem d_skip {b : Bool} {o : Oper} (ho : ops[i]? = some o) (hw : wantA ops f o = false) (hk : wkD P ops h0 lst N (f.put o.dst (.v undef)) h) : wkD P ops h0 ((i, b) :: lst) N f h := by
  cases b <;> (simp only [wkD, ho]; rw [if_neg (by rw [hw]; simp)]; exact hk)
theorem d_opL {o : Oper} {r : AV} (ho : ops[i]? = some o) (hw : wantA ops f o = true) (hx : exL P f h o.op = some r) (hkp : Keeps h0 h) (hk : wkD P ops h0 lst N (f.put o.dst r) h) : wkD P ops h0 ((i, false) :: lst) N f h := by
  simp only [wkD, ho, hw, if_true]; exact .inl ⟨r, hx, hkp, hk⟩
theorem d_opH {o : Oper} {r : AV} {h' : Hp} (ho : ops[i]? = some o) (hw : wantA ops f o = true) (hx : exH P f h o.op = some (r, h')) (hkp : Keeps h0 h') (hk : wkD P ops h0 lst N (f.put o.dst r) h') : wkD P ops h0 ((i, false) :: lst) N f h := by
  simp only [wkD, ho, hw, if_true]; exact .inr (.inl ⟨r, h', hx, hkp, hk⟩)
theorem d_opC {o : Oper} {g : FuncId} {args : List AV} (ho : ops[i]? = some o) (hw : wantA ops f o = true) (hx : callOf f o.op = some (g, args)) (hg : okFn P g = true) (hk : ACalls P g args h (fun r h' => Keeps h0 h' ∧ wkD P ops h0 lst N (f.put o.dst r) h')) : wkD P ops h0 ((i, false) :: lst) N f h := by
  simp only [wkD, ho, hw, if_true]; exact .inr (.inr (.inl ⟨g, args, hx, hg, hk⟩))
end

/-! ### The bridge -/
theorem hrel_nil (P : Program) (ρ : Nat → Place) (w : World) : HRel P ρ [] w := ⟨fun i o hi => by simp at hi, fun i o hi => by simp at hi, fun i j o o' hi => by simp at hi⟩
/-- A contract in no memory serves in any. -/
theorem ACalls.any {P : Program} {g : FuncId} {args : List AV} {N : AV → Prop} (hs : AV.scs 0 args = true) (hc : ACalls P g args [] (fun r _ => N r ∧ r.sc 0 = true)) (h : Hp) {N' : AV → Hp → Prop} (hn : ∀ r, N r → r.sc 0 = true → N' r h) : ACalls P g args h N' := by
  intro ρ w H _
  refine (hc ρ w (hrel_nil P ρ w) hs).mono fun e w' hp => ?_
  obtain ⟨ρ', r, h', rfl, h2, h3, ⟨h4, h4'⟩, h5, h6⟩ := hp
  have e1 : r.real ρ' = r.real ρ := (real_agree (n := 0) (fun i hi => absurd hi (Nat.not_lt_zero i)) r h4').trans rfl
  have S : Stp h.length ρ h w ρ h w' := ⟨h6.os, h6.tape, h6.output, h6.size, fun b hb _ => h6.block b hb (fun i o hi => by simp at hi), fun i o hi ho => .inl ⟨i, o, hi, ho, rfl⟩, fun _ _ => rfl⟩
  exact ⟨ρ, r, h, by rw [e1], sc_mono (Nat.zero_le _) r h4', Nat.le_refl _, hn r h4 h4', H.other fun i o hi hl hlt => h6.block _ hlt (fun j o' hj => by simp at hj), S⟩
/-- Out of the model's own contract. -/
theorem acalls_of_calls {P : Program} {g : FuncId} {args : List Value} {v : Value} (hc : ∀ w, Calls P g args.toArray w fun e w' => e = .returned v ∧ Below w.heap.size w w') : ACalls P g (args.map .v) [] (fun r _ => r = .v v ∧ r.sc 0 = true) := by
  intro ρ w _ _
  rw [reals_v]
  refine (hc w).mono fun e w' hp => ?_
  obtain ⟨rfl, hb⟩ := hp
  exact ⟨ρ, .v v, [], rfl, rfl, Nat.le_refl _, ⟨rfl, rfl⟩, hrel_nil P ρ w', ⟨hb.os, hb.tape, hb.output, hb.size, fun b hb' _ => hb.block b hb', fun i o hi => by simp at hi, fun _ _ => rfl⟩⟩
/-- INTO the model's own contract. -/
theorem calls_of_acalls {P : Program} {g : FuncId} {args : List AV} {h : Hp} {v : Value} {ρ : Nat → Place} {w : World} (H : HRel P ρ h w) (ho : ∀ o ∈ h, o.own = false) (hs : AV.scs h.length args = true) (hc : ACalls P g args h (fun r _ => r = .v v)) :
    Calls P g (AV.reals ρ args).toArray w fun e w' => e = .returned v ∧ Below w.heap.size w w' := by
  refine (hc ρ w H hs).mono fun e w' hp => ?_
  obtain ⟨ρ', r, h', rfl, h2, h3, rfl, h5, h6⟩ := hp
  exact ⟨rfl, ⟨h6.os, h6.tape, h6.output, h6.size, fun b hb => h6.block b hb (fun i o hi hown => by rw [ho o (List.mem_of_getElem? hi)] at hown; cases hown)⟩⟩
end Go.Az
