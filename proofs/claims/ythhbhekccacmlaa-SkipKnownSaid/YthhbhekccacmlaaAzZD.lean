/-
  Steps of a walk through a drawn region along a tree of orders. Conditions: stated at each theorem.
-/
import Derived.Test.YthhbhekccacmlaaAzZC
set_option linter.unusedSimpArgs false
set_option linter.unusedVariables false
namespace Go.Az
open Go Go.Chz

inductive OrdX where
  | done
  | light (o : Oper) (i : Nat) (r : OrdX)
  | alt (o : Oper) (i : Nat) (gone : List Nat) (r rest : OrdX)
  | no
  | bad
def pickT (ops : List Oper) : Ord → OrdX
  | .done => .done
  | .no => .no
  | .light i r => match ops[i]? with
    | some o => .light o i (pickT ops r)
    | none => .bad
  | .alt i gone r rest => match ops[i]? with
    | some o => .alt o i gone (pickT ops r) (pickT ops rest)
    | none => .bad

section
variable {P : Program} {f : Fr} {h : Hp} {m : Nat} {ro : Option Nat} {ops : Array Oper}
def wkX (P : Program) (ops : Array Oper) : OrdX → List (Nat × Nat) → (Fr → Hp → Prop) → Fr → Hp → Prop
  | .done, _, K, f, h => K f h
  | .no, _, _, _, _ => True
  | .bad, _, _, _, _ => False
  | .light o i r, pd, K, f, h => if wantA ops f o = true then ∃ v, exL P f h o.op = some v ∧ wkX P ops r ((readsOf f o.op).map (fun x => (i, x)) ++ pd) K (f.put o.dst v) h else wkX P ops r pd K (f.put o.dst (.v undef)) h
  | .alt o i gone r rest, pd, K, f, h => (if wantA ops f o = true then WOp P o f h (fun v h' => stayG gone pd h h' ∧ wkX P ops r pd K (f.put o.dst v) h') else wkX P ops r pd K (f.put o.dst (.v undef)) h) ∧ wkX P ops rest pd K f h
theorem wkT_of_X {ops : Array Oper} {K : Fr → Hp → Prop} : ∀ (T : Ord) (pd : List (Nat × Nat)) (f : Fr) (h : Hp), wkX P ops (pickT ops.toList T) pd K f h → wkT P ops T pd K f h
  | .done, pd, f, h, hk => hk
  | .no, pd, f, h, hk => trivial
  | .light i r, pd, f, h, hk => by
    simp only [pickT] at hk
    cases ho : ops.toList[i]? with
    | none => simp only [ho] at hk; exact hk.elim
    | some o =>
      have ho' : ops[i]? = some o := by simpa using ho
      simp only [ho] at hk
      simp only [wkT, ho']
      simp only [wkX] at hk
      split
      · rename_i hw
        rw [if_pos hw] at hk
        obtain ⟨v, hv, hk⟩ := hk
        exact ⟨v, hv, wkT_of_X r _ _ _ hk⟩
      · rename_i hw
        rw [if_neg hw] at hk
        exact wkT_of_X r _ _ _ hk
  | .alt i gone r rest, pd, f, h, hk => by
    simp only [pickT] at hk
    cases ho : ops.toList[i]? with
    | none => simp only [ho] at hk; exact hk.elim
    | some o =>
      have ho' : ops[i]? = some o := by simpa using ho
      simp only [ho] at hk
      simp only [wkT, ho']
      simp only [wkX] at hk
      refine ⟨?_, wkT_of_X rest _ _ _ hk.2⟩
      replace hk := hk.1
      split
      · rename_i hw
        rw [if_pos hw] at hk
        exact wop_mono (fun v h' hn => ⟨hn.1, wkT_of_X r _ _ _ hn.2⟩) hk
      · rename_i hw
        rw [if_neg hw] at hk
        exact wkT_of_X r _ _ _ hk
theorem s_regT {K : Exit → Fr → Hp → Prop} {id : Nat} {ops : List Oper} (T : Ord) (hv : List Nat) (h1 : ordTok ops.toArray hv T = true) {X : OrdX} (hX : pickT ops T = X) (hk : wkX P ops.toArray X [] (K .normal) f h) : wk P m ro (.region id ops.toArray true) K f h := by
  subst hX
  exact .inr ⟨T, hv, h1, wkT_of_X T [] f h hk⟩

variable {N : Fr → Hp → Prop} {d : Option Tmp} {op : Op} {ty : TypeId} {pos : String} {aft : Array Edge} {gd : Option (Nat × Bool)} {X Y : OrdX} {pd : List (Nat × Nat)} {i x : Nat} {gone : List Nat}
theorem t_end (hk : N f h) : wkX P ops .done pd N f h := hk
theorem t_gN (hw : wantA ops f ⟨d, op, ty, pos, aft, gd⟩ = false) (hk : wkX P ops X pd N (f.put d (.v undef)) h) : wkX P ops (.light ⟨d, op, ty, pos, aft, gd⟩ i X) pd N f h := by
  show (if _ then _ else _)
  rw [if_neg (by rw [hw]; simp)]; exact hk
theorem t_gL {r : AV} (hw : wantA ops f ⟨d, op, ty, pos, aft, gd⟩ = true) (hx : exL P f h op = some r) (hk : wkX P ops X pd N (f.put d r) h) (hrd : readsOf f op = [] := by rfl) : wkX P ops (.light ⟨d, op, ty, pos, aft, gd⟩ i X) pd N f h := by
  show (if _ then _ else _)
  rw [if_pos hw]; refine ⟨r, hx, ?_⟩
  show wkX P ops X ((readsOf f op).map _ ++ pd) N _ h
  rw [hrd]; exact hk
theorem t_gR {r : AV} (hw : wantA ops f ⟨d, op, ty, pos, aft, gd⟩ = true) (hrd : readsOf f op = [x]) (hx : exL P f h op = some r) (hk : wkX P ops X ((i, x) :: pd) N (f.put d r) h) : wkX P ops (.light ⟨d, op, ty, pos, aft, gd⟩ i X) pd N f h := by
  show (if _ then _ else _)
  rw [if_pos hw]; refine ⟨r, hx, ?_⟩
  show wkX P ops X ((readsOf f op).map _ ++ pd) N _ h
  rw [hrd]; exact hk
theorem t_gB {b : Bool} (hw : wantA ops f ⟨d, op, ty, pos, aft, gd⟩ = true) (hx : exL P f h op = some (.v (.bool b))) (h1 : b = true → wkX P ops X pd N (f.put d (.v (.bool true))) h) (h2 : b = false → wkX P ops X pd N (f.put d (.v (.bool false))) h) (hrd : readsOf f op = [] := by rfl) : wkX P ops (.light ⟨d, op, ty, pos, aft, gd⟩ i X) pd N f h :=
  t_gL hw hx (by cases b <;> first | exact h2 rfl | exact h1 rfl) hrd
theorem is_t (op : Op) (hk : wkX P ops (.light ⟨d, op, ty, pos, aft, gd⟩ i X) pd N f h) : wkX P ops (.light ⟨d, op, ty, pos, aft, gd⟩ i X) pd N f h := hk
theorem is_tG {g : Nat × Bool} (op : Op) (hk : wkX P ops (.light ⟨d, op, ty, pos, aft, some g⟩ i X) pd N f h) : wkX P ops (.light ⟨d, op, ty, pos, aft, some g⟩ i X) pd N f h := hk

/-! An operation that may be first alone. -/
theorem u_both {o o' : Oper} {j : Nat} {g' : List Nat} {Z : OrdX} (h1 : wkX P ops (.alt o i gone X .no) pd N f h) (h2 : wkX P ops (.alt o' j g' Y Z) pd N f h) : wkX P ops (.alt o i gone X (.alt o' j g' Y Z)) pd N f h := ⟨h1.1, h2⟩
theorem u_gN (hw : wantA ops f ⟨d, op, ty, pos, aft, gd⟩ = false) (hk : wkX P ops X pd N (f.put d (.v undef)) h) : wkX P ops (.alt ⟨d, op, ty, pos, aft, gd⟩ i gone X .no) pd N f h := by
  refine ⟨?_, trivial⟩
  rw [if_neg (by rw [hw]; simp)]; exact hk
theorem u_gL {r : AV} (hw : wantA ops f ⟨d, op, ty, pos, aft, gd⟩ = true) (hx : exL P f h op = some r) (hk : wkX P ops X pd N (f.put d r) h) : wkX P ops (.alt ⟨d, op, ty, pos, aft, gd⟩ i gone X .no) pd N f h := by
  refine ⟨?_, trivial⟩
  rw [if_pos hw]; exact .inl ⟨r, hx, stayG_same pd, hk⟩
theorem u_gB {b : Bool} (hw : wantA ops f ⟨d, op, ty, pos, aft, gd⟩ = true) (hx : exL P f h op = some (.v (.bool b))) (h1 : b = true → wkX P ops X pd N (f.put d (.v (.bool true))) h) (h2 : b = false → wkX P ops X pd N (f.put d (.v (.bool false))) h) : wkX P ops (.alt ⟨d, op, ty, pos, aft, gd⟩ i gone X .no) pd N f h :=
  u_gL hw hx (by cases b <;> first | exact h2 rfl | exact h1 rfl)
theorem u_gH {r : AV} {h' : Hp} (hw : wantA ops f ⟨d, op, ty, pos, aft, gd⟩ = true) (hx : exH P f h op = some (r, h')) (hs : stayG gone pd h h') (hk : wkX P ops X pd N (f.put d r) h') : wkX P ops (.alt ⟨d, op, ty, pos, aft, gd⟩ i gone X .no) pd N f h := by
  refine ⟨?_, trivial⟩
  rw [if_pos hw]; exact .inr (.inl ⟨r, h', hx, hs, hk⟩)
theorem u_gC {g : FuncId} {args : List AV} (hw : wantA ops f ⟨d, op, ty, pos, aft, gd⟩ = true) (hx : callOf f op = some (g, args)) (hg : okFn P g = true) (hk : ACalls P g args h (fun r h' => stayG gone pd h h' ∧ wkX P ops X pd N (f.put d r) h')) : wkX P ops (.alt ⟨d, op, ty, pos, aft, gd⟩ i gone X .no) pd N f h := by
  refine ⟨?_, trivial⟩
  rw [if_pos hw]; exact .inr (.inr (.inl ⟨g, args, hx, hg, hk⟩))
theorem u_gK {g : FuncId} {args : List AV} {r : AV} (hw : wantA ops f ⟨d, op, ty, pos, aft, gd⟩ = true) (hx : callOf f op = some (g, args)) (hg : okFn P g = true) (hs : AV.scs 0 args = true) (hc : ACalls P g args [] (fun r' _ => r' = r ∧ r'.sc 0 = true)) (hk : wkX P ops X pd N (f.put d r) h) : wkX P ops (.alt ⟨d, op, ty, pos, aft, gd⟩ i gone X .no) pd N f h :=
  u_gC hw hx hg (hc.any hs h (N := fun r' => r' = r) (fun r' hr _ => by rw [hr]; exact ⟨stayG_same pd, hk⟩))
theorem u_gKB {g : FuncId} {args : List AV} {b : Bool} (hw : wantA ops f ⟨d, op, ty, pos, aft, gd⟩ = true) (hx : callOf f op = some (g, args)) (hg : okFn P g = true) (hs : AV.scs 0 args = true) (hc : ACalls P g args [] (fun r' _ => r' = .v (.bool b) ∧ r'.sc 0 = true)) (h1 : b = true → wkX P ops X pd N (f.put d (.v (.bool true))) h) (h2 : b = false → wkX P ops X pd N (f.put d (.v (.bool false))) h) : wkX P ops (.alt ⟨d, op, ty, pos, aft, gd⟩ i gone X .no) pd N f h :=
  u_gK hw hx hg hs hc (by cases b <;> first | exact h2 rfl | exact h1 rfl)
theorem u_gM {g : FuncId} {args : List AV} {r : AV} (hw : wantA ops f ⟨d, op, ty, pos, aft, gd⟩ = true) (hx : callOf f op = some (g, args)) (hg : okFn P g = true) (hc : ACalls P g args h (fun r' h' => r' = r ∧ h' = h)) (hk : wkX P ops X pd N (f.put d r) h) : wkX P ops (.alt ⟨d, op, ty, pos, aft, gd⟩ i gone X .no) pd N f h :=
  u_gC hw hx hg (hc.mono fun r' h' _ hh => by rw [hh.1, hh.2]; exact ⟨stayG_same pd, hk⟩)
theorem u_gMB {g : FuncId} {args : List AV} {b : Bool} (hw : wantA ops f ⟨d, op, ty, pos, aft, gd⟩ = true) (hx : callOf f op = some (g, args)) (hg : okFn P g = true) (hc : ACalls P g args h (fun r' h' => r' = .v (.bool b) ∧ h' = h)) (h1 : b = true → wkX P ops X pd N (f.put d (.v (.bool true))) h) (h2 : b = false → wkX P ops X pd N (f.put d (.v (.bool false))) h) : wkX P ops (.alt ⟨d, op, ty, pos, aft, gd⟩ i gone X .no) pd N f h :=
  u_gM hw hx hg hc (by cases b <;> first | exact h2 rfl | exact h1 rfl)
theorem is_u (op : Op) (hk : wkX P ops (.alt ⟨d, op, ty, pos, aft, gd⟩ i gone X .no) pd N f h) : wkX P ops (.alt ⟨d, op, ty, pos, aft, gd⟩ i gone X .no) pd N f h := hk
theorem is_uG {g : Nat × Bool} (op : Op) (hk : wkX P ops (.alt ⟨d, op, ty, pos, aft, some g⟩ i gone X .no) pd N f h) : wkX P ops (.alt ⟨d, op, ty, pos, aft, some g⟩ i gone X .no) pd N f h := hk
end
end Go.Az
