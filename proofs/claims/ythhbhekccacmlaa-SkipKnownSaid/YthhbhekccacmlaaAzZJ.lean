/-
  Short names for the equations that bring a walk's frame into its plain form. Conditions: stated at each theorem.
-/
import Derived.Test.YthhbhekccacmlaaAzZH
import Derived.Test.YthhbhekccacmlaaAzZI
set_option linter.unusedSimpArgs false
set_option linter.unusedVariables false
namespace Go.Az
open Go Go.Chz
theorem pu' {l : List AV} {ds : List Nat} {d : Tmp} {v : AV} : Fr.put ⟨l, ds⟩ (some d) v = ⟨l.set d v, ds⟩ := rfl
theorem p0' {l : List AV} {ds : List Nat} {v : AV} : Fr.put ⟨l, ds⟩ none v = ⟨l, ds⟩ := rfl
theorem c1' {α : Type} {l : List α} {a b : α} {n : Nat} : (a :: l).set (n + 1) b = a :: l.set n b := rfl
theorem c0' {α : Type} {l : List α} {a b : α} : (a :: l).set 0 b = b :: l := rfl
theorem i0' {n : Nat} : (Int.ofNat n).toNat = n := rfl
theorem i1' {n : Nat} : ((n : Nat) : Int).toNat = n := rfl
theorem z0' {n : Nat} : 0 + n = n := Nat.zero_add n
theorem a0' {α : Type} {l k m : List α} : l ++ k ++ m = l ++ (k ++ m) := List.append_assoc l k m
theorem a1' {α : Type} {l k : List α} {a : α} : a :: l ++ k = a :: (l ++ k) := rfl
theorem a2' {α : Type} {l : List α} : [] ++ l = l := rfl
theorem n0' {α : Type} {l k : List α} : (l ++ k).length = l.length + k.length := List.length_append
theorem n1' {α : Type} {l : List α} {a : α} : (a :: l).length = l.length + 1 := rfl
theorem n2' {α : Type} : ([] : List α).length = 0 := rfl
theorem n3' {α : Type} {l : List α} {a : α} {n : Nat} : (l.set n a).length = l.length := List.length_set
theorem n4' {α : Type} {a : α} {n : Nat} : (List.replicate n a).length = n := List.length_replicate
theorem n5' {a b c : Nat} : a + b + c = a + (b + c) := Nat.add_assoc a b c
theorem dT' {p : Prop} [Decidable p] (h : decide p = true) : p := of_decide_eq_true h
theorem dF' {p : Prop} [Decidable p] (h : decide p = false) : ¬ p := of_decide_eq_false h
theorem bX' {b : Bool} {p : Prop} (h1 : b = true) (h2 : b = false) : p := by rw [h1] at h2; cases h2

instance {H r : Hp} {i : Nat} {o : AObj} [x : HA H i o] : HA (H ++ r) i o := ⟨by
  have h := x.p
  have hi : i < H.length := by
    rcases Nat.lt_or_ge i H.length with h1 | h1
    · exact h1
    · rw [List.getElem?_eq_none h1] at h; cases h
  rw [List.getElem?_append_left hi]; exact h⟩

/-! ### Cuts: what follows is walked once -/
section
variable {P : Program} {m : Nat} {ro : Option Nat} {ops : Array Oper}
theorem wkL_mono {K K' : Fr → Hp → Prop} (hn : ∀ f h, K f h → K' f h) : ∀ (l : List Nat) (f : Fr) (h : Hp), wkL P ops l K f h → wkL P ops l K' f h
  | [], f, h, hk => hn f h hk
  | i :: r, f, h, hk => by
    simp only [wkL] at hk ⊢
    cases ho : ops[i]? with
    | none => simp only [ho] at hk ⊢; exact wkL_mono hn r f h hk
    | some o =>
      simp only [ho] at hk ⊢
      split
      · rename_i hw; rw [if_pos hw] at hk
        exact wop_mono (fun v h' hh => wkL_mono hn r _ h' hh) hk
      · rename_i hw; rw [if_neg hw] at hk
        exact wkL_mono hn r _ h hk
theorem wkD_mono {K K' : Fr → Hp → Prop} {h0 : Hp} (hn : ∀ f h, K f h → K' f h) : ∀ (l : List (Nat × Bool)) (f : Fr) (h : Hp), wkD P ops h0 l K f h → wkD P ops h0 l K' f h
  | [], f, h, hk => hn f h hk
  | (i, true) :: r, f, h, hk => by
    simp only [wkD] at hk ⊢
    cases ho : ops[i]? with
    | none => simp only [ho] at hk
    | some o =>
      simp only [ho] at hk ⊢
      split
      · rename_i hw; rw [if_pos hw] at hk
        obtain ⟨v, hv, hk⟩ := hk
        exact ⟨v, hv, wkD_mono hn r _ h hk⟩
      · rename_i hw; rw [if_neg hw] at hk
        exact wkD_mono hn r _ h hk
  | (i, false) :: r, f, h, hk => by
    simp only [wkD] at hk ⊢
    cases ho : ops[i]? with
    | none => simp only [ho] at hk
    | some o =>
      simp only [ho] at hk ⊢
      split
      · rename_i hw; rw [if_pos hw] at hk
        exact wop_mono (fun v h' hh => ⟨hh.1, wkD_mono hn r _ h' hh.2⟩) hk
      · rename_i hw; rw [if_neg hw] at hk
        exact wkD_mono hn r _ h hk
theorem wkT_mono {K K' : Fr → Hp → Prop} (hn : ∀ f h, K f h → K' f h) : ∀ (T : Ord) (pd : List (Nat × Nat)) (f : Fr) (h : Hp), wkT P ops T pd K f h → wkT P ops T pd K' f h
  | .done, pd, f, h, hk => hn f h hk
  | .no, pd, f, h, hk => trivial
  | .light i r, pd, f, h, hk => by
    simp only [wkT] at hk ⊢
    cases ho : ops[i]? with
    | none => simp only [ho] at hk
    | some o =>
      simp only [ho] at hk ⊢
      split
      · rename_i hw; rw [if_pos hw] at hk
        obtain ⟨v, hv, hk⟩ := hk
        exact ⟨v, hv, wkT_mono hn r _ _ h hk⟩
      · rename_i hw; rw [if_neg hw] at hk
        exact wkT_mono hn r _ _ h hk
  | .alt i gone r rest, pd, f, h, hk => by
    simp only [wkT] at hk ⊢
    cases ho : ops[i]? with
    | none => simp only [ho] at hk; exact hk.1.elim
    | some o =>
      simp only [ho] at hk ⊢
      refine ⟨?_, wkT_mono hn rest pd f h hk.2⟩
      replace hk := hk.1
      split
      · rename_i hw; rw [if_pos hw] at hk
        exact wop_mono (fun v h' hh => ⟨hh.1, wkT_mono hn r _ _ h' hh.2⟩) hk
      · rename_i hw; rw [if_neg hw] at hk
        exact wkT_mono hn r _ _ h hk
theorem wk_mono : ∀ (c : Code) {K K' : Exit → Fr → Hp → Prop} (f : Fr) (h : Hp), (∀ e f h, K e f h → K' e f h) → wk P m ro c K f h → wk P m ro c K' f h
  | .skip, K, K', f, h, hn, hk => hn _ _ _ hk
  | .region _ ops false, K, K', f, h, hn, hk => wkL_mono (fun f h => hn _ f h) _ f h hk
  | .region _ ops true, K, K', f, h, hn, hk => by
    rcases hk with ⟨l, h0, a, b, c, hk⟩ | ⟨T, hv, a, hk⟩
    · exact .inl ⟨l, h0, a, b, c, wkD_mono (fun f h => hn _ f h) l f h hk⟩
    · exact .inr ⟨T, hv, a, wkT_mono (fun f h => hn _ f h) T [] f h hk⟩
  | .seq a b, K, K', f, h, hn, hk => wk_mono a f h (fun e f h hk => by
      cases e with
      | normal => exact wk_mono b f h hn hk
      | _ => exact hn _ _ _ hk) hk
  | .cond c a b, K, K', f, h, hn, ⟨t, h1, h2, h3⟩ => ⟨t, h1, fun ht => wk_mono a f h hn (h2 ht), fun ht => wk_mono b f h hn (h3 ht)⟩
  | .block id b, K, K', f, h, hn, hk => wk_mono b f h (fun e f h hk => by
      cases e with
      | exit i =>
        show (if _ then _ else _)
        have hk' : (if i = id then K .normal f h else K (.exit i) f h) := hk
        split
        · rename_i hi; rw [if_pos hi] at hk'; exact hn _ _ _ hk'
        · rename_i hi; rw [if_neg hi] at hk'; exact hn _ _ _ hk'
      | _ => exact hn _ _ _ hk) hk
  | .exit id, K, K', f, h, hn, hk => hn _ _ _ hk
  | .label _, K, K', f, h, hn, hk => hn _ _ _ hk
  | .ret, K, K', f, h, hn, hk => hn _ _ _ hk
  | .loop _, K, K', f, h, hn, hk => AW.mono hk hn
  | .rangeFunc .., K, K', f, h, hn, hk => AW.mono hk hn
  | .scope _, K, K', f, h, hn, hk => AW.mono hk hn
  | .goto _, K, K', f, h, hn, hk => AW.mono hk hn
  | .refuse _, K, K', f, h, hn, hk => AW.mono hk hn
/-- What is so behind a piece of code, however it was reached. -/
def At {β : Type} (F : β → (Nat → AV) → List AV) (H : β → Hp) (ok : β → Prop) (ds : List Nat) : Fr → Hp → Prop := fun f h => ∃ b s, ok b ∧ f = ⟨F b s, ds⟩ ∧ h = H b
theorem at_in {β : Type} {F : β → (Nat → AV) → List AV} {H : β → Hp} {ok : β → Prop} {ds : List Nat} {l : List AV} {h : Hp} (b : β) (h1 : ok b) (h3 : l = F b fun k => l.getD k (.v undef)) (h4 : h = H b) : At F H ok ds ⟨l, ds⟩ h := ⟨b, _, h1, congrArg (Fr.mk · ds) h3, h4⟩
/-- A cut where a piece of code ends normally. -/
theorem s_cut {β : Type} (F : β → (Nat → AV) → List AV) (H : β → Hp) (ok : β → Prop) {c : Code} {N : Fr → Hp → Prop} {K : Exit → Fr → Hp → Prop} {ds : List Nat} {l : List AV} {h : Hp} (hk : wk P m ro c (thenK (At F H ok ds) K) ⟨l, ds⟩ h) (hn : ∀ b s, ok b → N ⟨F b s, ds⟩ (H b)) : wk P m ro c (thenK N K) ⟨l, ds⟩ h :=
  wk_mono c _ _ (fun e f h hh => by
    cases e with
    | normal => obtain ⟨b, s, h1, rfl, rfl⟩ := hh; exact hn b s h1
    | _ => exact hh) hk
end
section
variable {P : Program} {l : List AV} {ds : List Nat} {h : Hp} {ops : Array Oper} {N : Fr → Hp → Prop} {d : Option Tmp} {ty : TypeId} {pos : String} {aft : Array Edge} {gd : Option (Nat × Bool)} {X : OrdX} {pd : List (Nat × Nat)} {ii : Nat} {gone : List Nat}
theorem uC {op : Op} {g : FuncId} {args : List AV} (hc : ACalls P g args h (fun r' h' => stayG gone pd h h' ∧ wkX P ops X pd N (Fr.put ⟨l, ds⟩ d r') h')) (hw : wantA ops ⟨l, ds⟩ ⟨d, op, ty, pos, aft, gd⟩ = true := by rfl) (hx : callOf ⟨l, ds⟩ op = some (g, args) := by rfl) (hg : CO P g := by infer_instance) : wkX P ops (.alt ⟨d, op, ty, pos, aft, gd⟩ ii gone X .no) pd N ⟨l, ds⟩ h := u_gC hw hx hg.p hc
end
theorem stay_app {gone : List Nat} {h r : Hp} {pd : List (Nat × Nat)} (hp : ∀ p ∈ pd, p.2 < h.length) : stayG gone pd h (h ++ r) := stayG_iff.2 fun p hp' => .inr (List.getElem?_append_left (hp p hp'))
theorem elts_at {α : Type} {enc : α → List AV} {q : Nat} (hE : EncOk enc q) {h : Hp} {i c : Nat} {u : Bool} {cs : List AV} {t : TypeId} {ow : Bool} {l : List α} (hi : HA h i (.cells cs t ow)) (hc : cs = l.flatMap enc) : Elts enc q h (.sl i 0 l.length c u) l := by
  refine .inr ⟨i, 0, c, u, cs, t, ow, rfl, hi.p, ?_, ?_⟩
  · rw [hc, flat_len hE]; omega
  · rw [hc, List.drop_zero, List.take_of_length_le (by rw [flat_len hE]; omega)]
theorem s_scope {P : Program} {m : Nat} {ro : Option Nat} (hm : P.follows .mixedOrders = true) {b : Code} {K : Exit → Fr → Hp → Prop} {f : Fr} {h : Hp} (hk : wk P m ro b (noGo K) f h) : wk P m ro (.scope b) K f h := aw_scope (wk_ok hm b _ f h hk)
theorem s_ngN {K : Exit → Fr → Hp → Prop} {f : Fr} {h : Hp} (hk : K .normal f h) : noGo K .normal f h := hk
theorem s_ngR {K : Exit → Fr → Hp → Prop} {f : Fr} {h : Hp} (hk : K .ret f h) : noGo K .ret f h := hk
theorem s_ngE {K : Exit → Fr → Hp → Prop} {f : Fr} {h : Hp} {i : Nat} (hk : K (.exit i) f h) : noGo K (.exit i) f h := hk
theorem tmod_lo {n m : Int} (hm : 0 < m) (h : n.tmod m < 0) : n.tmod m + m = n % m := by
  have := Int.tmod_eq_emod (a := n) (b := m)
  have h2 := Int.emod_nonneg n (show m ≠ 0 by omega)
  rw [this] at h ⊢
  split at h
  · omega
  · rename_i hc
    rw [if_neg hc]; omega
theorem tmod_hi {n m : Int} (hm : 0 < m) (h : ¬ n.tmod m < 0) : n.tmod m = n % m := by
  have := Int.tmod_eq_emod (a := n) (b := m)
  have h2 := Int.emod_lt_of_pos n hm
  rw [this] at h ⊢
  split at h
  · rename_i hc
    rw [if_pos hc]; omega
  · omega
end Go.Az
