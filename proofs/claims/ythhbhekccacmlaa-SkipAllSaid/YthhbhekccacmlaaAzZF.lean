/-
  Ends of functions whose results lie in cells; what lies behind a known memory; memory cut back at a function's end. Conditions: stated at each theorem.
-/
import Derived.Test.YthhbhekccacmlaaAzZE
set_option linter.unusedSimpArgs false
set_option linter.unusedVariables false
namespace Go.Az
open Go Go.Chz

/-! ### Behind a known memory -/
theorem ga0 {H r : Hp} {a0 : AObj} : (H ++ a0 :: r)[H.length]? = some a0 := by rw [List.getElem?_append_right (by omega), show H.length - H.length = 0 by omega]; rfl
theorem ga1 {H r : Hp} {a0 a1 : AObj} : (H ++ a0 :: a1 :: r)[H.length + 1]? = some a1 := by rw [List.getElem?_append_right (by omega), show H.length + 1 - H.length = 1 by omega]; rfl
theorem ga2 {H r : Hp} {a0 a1 a2 : AObj} : (H ++ a0 :: a1 :: a2 :: r)[H.length + 2]? = some a2 := by rw [List.getElem?_append_right (by omega), show H.length + 2 - H.length = 2 by omega]; rfl
theorem ga3 {H r : Hp} {a0 a1 a2 a3 : AObj} : (H ++ a0 :: a1 :: a2 :: a3 :: r)[H.length + 3]? = some a3 := by rw [List.getElem?_append_right (by omega), show H.length + 3 - H.length = 3 by omega]; rfl
theorem ga4 {H r : Hp} {a0 a1 a2 a3 a4 : AObj} : (H ++ a0 :: a1 :: a2 :: a3 :: a4 :: r)[H.length + 4]? = some a4 := by rw [List.getElem?_append_right (by omega), show H.length + 4 - H.length = 4 by omega]; rfl
theorem ga5 {H r : Hp} {a0 a1 a2 a3 a4 a5 : AObj} : (H ++ a0 :: a1 :: a2 :: a3 :: a4 :: a5 :: r)[H.length + 5]? = some a5 := by rw [List.getElem?_append_right (by omega), show H.length + 5 - H.length = 5 by omega]; rfl
theorem ga6 {H r : Hp} {a0 a1 a2 a3 a4 a5 a6 : AObj} : (H ++ a0 :: a1 :: a2 :: a3 :: a4 :: a5 :: a6 :: r)[H.length + 6]? = some a6 := by rw [List.getElem?_append_right (by omega), show H.length + 6 - H.length = 6 by omega]; rfl
theorem ga7 {H r : Hp} {a0 a1 a2 a3 a4 a5 a6 a7 : AObj} : (H ++ a0 :: a1 :: a2 :: a3 :: a4 :: a5 :: a6 :: a7 :: r)[H.length + 7]? = some a7 := by rw [List.getElem?_append_right (by omega), show H.length + 7 - H.length = 7 by omega]; rfl
theorem sa0 {H r : Hp} {a0 x : AObj} : (H ++ a0 :: r).set (H.length) x = H ++ x :: r := by rw [List.set_append_right (i := H.length) x (by omega), show H.length - H.length = 0 by omega]; rfl
theorem sa1 {H r : Hp} {a0 a1 x : AObj} : (H ++ a0 :: a1 :: r).set (H.length + 1) x = H ++ a0 :: x :: r := by rw [List.set_append_right (i := H.length + 1) x (by omega), show H.length + 1 - H.length = 1 by omega]; rfl
theorem sa2 {H r : Hp} {a0 a1 a2 x : AObj} : (H ++ a0 :: a1 :: a2 :: r).set (H.length + 2) x = H ++ a0 :: a1 :: x :: r := by rw [List.set_append_right (i := H.length + 2) x (by omega), show H.length + 2 - H.length = 2 by omega]; rfl
theorem sa3 {H r : Hp} {a0 a1 a2 a3 x : AObj} : (H ++ a0 :: a1 :: a2 :: a3 :: r).set (H.length + 3) x = H ++ a0 :: a1 :: a2 :: x :: r := by rw [List.set_append_right (i := H.length + 3) x (by omega), show H.length + 3 - H.length = 3 by omega]; rfl
theorem sa4 {H r : Hp} {a0 a1 a2 a3 a4 x : AObj} : (H ++ a0 :: a1 :: a2 :: a3 :: a4 :: r).set (H.length + 4) x = H ++ a0 :: a1 :: a2 :: a3 :: x :: r := by rw [List.set_append_right (i := H.length + 4) x (by omega), show H.length + 4 - H.length = 4 by omega]; rfl
theorem sa5 {H r : Hp} {a0 a1 a2 a3 a4 a5 x : AObj} : (H ++ a0 :: a1 :: a2 :: a3 :: a4 :: a5 :: r).set (H.length + 5) x = H ++ a0 :: a1 :: a2 :: a3 :: a4 :: x :: r := by rw [List.set_append_right (i := H.length + 5) x (by omega), show H.length + 5 - H.length = 5 by omega]; rfl
theorem sa6 {H r : Hp} {a0 a1 a2 a3 a4 a5 a6 x : AObj} : (H ++ a0 :: a1 :: a2 :: a3 :: a4 :: a5 :: a6 :: r).set (H.length + 6) x = H ++ a0 :: a1 :: a2 :: a3 :: a4 :: a5 :: x :: r := by rw [List.set_append_right (i := H.length + 6) x (by omega), show H.length + 6 - H.length = 6 by omega]; rfl
theorem sa7 {H r : Hp} {a0 a1 a2 a3 a4 a5 a6 a7 x : AObj} : (H ++ a0 :: a1 :: a2 :: a3 :: a4 :: a5 :: a6 :: a7 :: r).set (H.length + 7) x = H ++ a0 :: a1 :: a2 :: a3 :: a4 :: a5 :: a6 :: x :: r := by rw [List.set_append_right (i := H.length + 7) x (by omega), show H.length + 7 - H.length = 7 by omega]; rfl
theorem ext_app (h l : Hp) : Ext h (h ++ l) := ⟨by simp, fun i hi => by rw [List.getElem?_append_left hi]⟩
theorem ext_set {h h' : Hp} {i : Nat} {o : AObj} (x : Ext h h') (hi : h.length ≤ i) : Ext h (h'.set i o) := ⟨by rw [List.length_set]; exact x.1, fun j hj => by rw [List.getElem?_set_ne (by omega), x.2 j hj]⟩
/-- What was made and is not named any more is forgotten. -/
theorem acalls_back {P : Program} {h : Hp} {g : FuncId} {args : List AV} {N : AV → Hp → Prop} (hc : ACalls P g args h (fun r h' => r.sc h.length = true ∧ Ext h h' ∧ N r h)) : ACalls P g args h N := by
  intro ρ w H hs
  refine (hc ρ w H hs).mono fun e w' hp => ?_
  obtain ⟨ρ', r, h', rfl, h2, h3, ⟨h4, hx, hn⟩, h5, h6⟩ := hp
  have e : h'.take h.length = h := by
    apply List.ext_getElem?
    intro i
    rw [List.getElem?_take]
    split
    · rename_i hi; exact hx.2 i hi
    · rename_i hi; rw [List.getElem?_eq_none (by omega)]
  have ht := h5.take h.length (fun o ho => by
    rw [e] at ho
    obtain ⟨i, hi⟩ := List.getElem?_of_mem ho
    exact H.sc i o hi)
  rw [e] at ht
  have hst := (h6.trans (Stp.take h.length h.length) (Nat.le_refl _))
  rw [e] at hst
  exact ⟨ρ', r, h, rfl, h4, Nat.le_refl _, hn, ht, hst⟩
/-- The same where an object of the call's own was turned. -/
theorem acalls_backS {P : Program} {h : Hp} {g : FuncId} {args : List AV} {N : AV → Hp → Prop} (hc : ACalls P g args h (fun r h' => ∃ h2 : Hp, r.sc h.length = true ∧ h2.length = h.length ∧ (∀ o ∈ h2, o ∈ h ∨ o.sc h.length = true) ∧ Ext h2 h' ∧ N r h2)) : ACalls P g args h N := by
  intro ρ w H hs
  refine (hc ρ w H hs).mono fun e w' hp => ?_
  obtain ⟨ρ', r, h', rfl, h2, h3, ⟨hh, h4, hl, hsc, hx, hn⟩, h5, h6⟩ := hp
  have e : h'.take h.length = hh := by
    apply List.ext_getElem?
    intro i
    rw [List.getElem?_take]
    split
    · rename_i hi; exact hx.2 i (by omega)
    · rename_i hi; rw [List.getElem?_eq_none (by omega)]
  have ht := h5.take h.length (fun o ho => by
    rw [e] at ho
    rcases hsc o ho with h7 | h7
    · obtain ⟨i, hi⟩ := List.getElem?_of_mem h7
      exact H.sc i o hi
    · exact h7)
  rw [e] at ht
  have hst := (h6.trans (Stp.take h.length h.length) (Nat.le_refl _))
  rw [e] at hst
  exact ⟨ρ', r, hh, rfl, by rw [hl]; exact h4, by omega, hn, ht, hst⟩

section
variable {P : Program} {fn : Func} {N : AV → Hp → Prop} {f : Fr} {h : Hp} {l : List AV} {v1 v2 v3 v4 : ResultVar} {r r1 r2 r3 r4 : AV} {t t' tt i o m : Nat} {cs : List AV} {ow : Bool}
/-! ### Results -/
theorem v_t (hl : l[t]? = some r) : resOne P ⟨l, []⟩ h (.tmp t) = some r := by simp only [resOne, List.getD_eq_getElem?_getD, hl, Option.getD_some]
theorem v_c1 (hs : isS1 P t' = true) (hl : l[t]? = some (.ptr i o)) (hi : h[i]? = some (.cells cs tt ow)) (hc : cs[o]? = some r) : resOne P ⟨l, []⟩ h (.cell t t') = some r := by
  have := x_load1 (f := ⟨l, []⟩) (a := .tmp t) hs (e_t hl) hi hc
  simp only [exL, e_t hl] at this
  simp only [resOne, List.getD_eq_getElem?_getD, hl, Option.getD_some, this]
theorem v_cA (hs : isAg P t' m = true) (hl : l[t]? = some (.ptr i o)) (hi : h[i]? = some (.cells cs tt ow)) (hc : o + m ≤ cs.length) : resOne P ⟨l, []⟩ h (.cell t t') = some (.agg ((cs.drop o).take m)) := by
  have := x_loadA (f := ⟨l, []⟩) (a := .tmp t) hs (e_t hl) hi hc
  simp only [exL, e_t hl] at this
  simp only [resOne, List.getD_eq_getElem?_getD, hl, Option.getD_some, this]
theorem v_cF (hs : isAg P t' m = true) (hl : l[t]? = some (.ptr i 0)) (hi : h[i]? = some (.cells cs tt ow)) (hc : cs.length = m) : resOne P ⟨l, []⟩ h (.cell t t') = some (.agg cs) := by
  rw [v_cA hs hl hi (by omega), List.drop_zero, List.take_of_length_le (by omega)]
theorem w_0 (hr : fn.results.toList = []) (hk : N (.tup []) h) : RK P fn N .ret ⟨l, []⟩ h :=
  ⟨h, _, rfl, by simp only [resA, hr, resAll], hk⟩
theorem w_1 (hr : fn.results.toList = [v1]) (h1 : resOne P ⟨l, []⟩ h v1 = some r1) (hk : N r1 h) : RK P fn N .ret ⟨l, []⟩ h :=
  ⟨h, r1, rfl, by simp only [resA, hr, resAll, h1], hk⟩
theorem w_2 (hr : fn.results.toList = [v1, v2]) (h1 : resOne P ⟨l, []⟩ h v1 = some r1) (h2 : resOne P ⟨l, []⟩ h v2 = some r2) (hk : N (.tup [r1, r2]) h) : RK P fn N .ret ⟨l, []⟩ h :=
  ⟨h, _, rfl, by simp only [resA, hr, resAll, h1, h2], hk⟩
theorem w_3 (hr : fn.results.toList = [v1, v2, v3]) (h1 : resOne P ⟨l, []⟩ h v1 = some r1) (h2 : resOne P ⟨l, []⟩ h v2 = some r2) (h3 : resOne P ⟨l, []⟩ h v3 = some r3) (hk : N (.tup [r1, r2, r3]) h) : RK P fn N .ret ⟨l, []⟩ h :=
  ⟨h, _, rfl, by simp only [resA, hr, resAll, h1, h2, h3], hk⟩
theorem w_4 (hr : fn.results.toList = [v1, v2, v3, v4]) (h1 : resOne P ⟨l, []⟩ h v1 = some r1) (h2 : resOne P ⟨l, []⟩ h v2 = some r2) (h3 : resOne P ⟨l, []⟩ h v3 = some r3) (h4 : resOne P ⟨l, []⟩ h v4 = some r4) (hk : N (.tup [r1, r2, r3, r4]) h) : RK P fn N .ret ⟨l, []⟩ h :=
  ⟨h, _, rfl, by simp only [resA, hr, resAll, h1, h2, h3, h4], hk⟩
theorem w_n (hk : RK P fn N .ret f h) : RK P fn N .normal f h := hk
end
section
variable {P : Program} {f : Fr} {h : Hp} {a b c : Operand} {t t' tt : TypeId} {i o m q off : Nat} {cs vs : List AV}
theorem x_boxA (hs : isAg P t m = true) (ha : ev f a = .agg vs) (hp : allOne vs = true) (hv : vs.length = m) : exH P f h (.box t a) = some (.ptr h.length 0, h ++ [.cells vs t true]) := by
  obtain ⟨inf, hi, h1⟩ := ag_size hs
  have e1 : (AV.agg vs).cellsL = vs := rfl
  have e2 : (AV.agg vs).cellOk = true := rfl
  simp only [exH, ha, e1, e2, newC, hi, h1, hv, if_true]
theorem s_inv {P : Program} {f : Fr} {h : Hp} {ops : Array Oper} {N : Fr → Hp → Prop} {d : Option Tmp} {ty : TypeId} {pos : String} {aft : Array Edge} {gd : Option (Nat × Bool)} {rest : List Oper} {op : Op} {t : TypeId} {name : String} {args : List AV} {g : FuncId} (hw : wantA ops f ⟨d, op, ty, pos, aft, gd⟩ = true) (hx : invOf f op = some (t, name, args))
    (hm : ∀ v w, (method (P.types.size + Made.depth) t v name).run P w = .ok (g, v) w) (hg : okFn P g = true) (hk : ACalls P g args h (fun r h' => wkO P ops rest N (f.put d r) h')) : wkO P ops (⟨d, op, ty, pos, aft, gd⟩ :: rest) N f h := by
  show (if _ then _ else _)
  rw [if_pos hw]; exact .inr (.inr (.inr (.inr (.inr ⟨t, name, args, g, hx, hm, hg, hk⟩))))
theorem x_lenX {P : Program} {f : Fr} {h : Hp} {t e q : Nat} {a : Operand} {i o n c : Nat} {u : Bool} (hu : sliOf P t = some (e, q)) (ha : ev f a = .sl i o n c u) : exL P f h (.call ⟨.builtin .len, #[a], #[t]⟩) = some (.v (.int .i64 (n : Nat))) := by
  simp [exL, ha, exB, lenB, sliOf_und hu]
theorem wrap_u8_in {n : Int} (h0 : 0 ≤ n) (h1 : n ≤ 255) : IntKind.u8.wrap n = n := IntWalk.u8_in n ⟨h0, h1⟩
theorem wrap_u32_in {n : Int} (h0 : 0 ≤ n) (h1 : n ≤ 4294967295) : IntKind.u32.wrap n = n := IntWalk.u32_in n ⟨h0, h1⟩
end
end Go.Az
