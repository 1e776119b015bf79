/-
  All operations that leave the memory alone: 'exL', and that the model does the same. Conditions: stated at each theorem.
-/
import Derived.Test.YthhbhekccacmlaaAzH
set_option linter.unusedSimpArgs false
set_option linter.unusedVariables false
namespace Go.Az
open Go Go.Chz

section
variable {P : Program} {ρ : Nat → Place} {h : Hp} {w : World}

def bin (P : Program) (op : BinOp) (t : TypeId) (x y : AV) : Option AV :=
  match x, y with
  | .v (.int k a), .v (.int k' b) => ibin op k a k' b
  | .v (.string a), .v (.string b) => sbin op a b
  | .v (.bool a), .v (.bool b) => match op with
    | .eql => (aeq P 1 t x y).map fun b => .v (.bool b)
    | .neq => (aeq P 1 t x y).map fun b => .v (.bool (!b))
    | _ => none
  | .agg xs, .agg ys => if P.eqGuardType P.depth t = true then none else match op with
    | .eql => (aeq P 6 t x y).map fun b => .v (.bool b)
    | .neq => (aeq P 6 t x y).map fun b => .v (.bool (!b))
    | _ => none
  | .v (.slice none n c), y => match op with
    | .eql => (aeq P 1 t x y).map fun b => .v (.bool b)
    | .neq => (aeq P 1 t x y).map fun b => .v (.bool (!b))
    | _ => none
  | .sl i o n c u, y => match op with
    | .eql => (aeq P 1 t x y).map fun b => .v (.bool b)
    | .neq => (aeq P 1 t x y).map fun b => .v (.bool (!b))
    | _ => none
  | _, _ => none

theorem run_equal {t : TypeId} {x y : AV} {b : Bool} {d : Nat} (ρ : Nat → Place) (w : World) (hd : d ≤ 10000) (h : aeq P d t x y = some b) : (Op.equal t (x.real ρ) (y.real ρ)).run P w = .ok b w :=
  run_equalIn ρ w d 10000 t x y b hd h

theorem run_binop_eq {op : BinOp} {t : TypeId} {x y : AV} {b : Bool} {d : Nat} (ρ : Nat → Place) (w : World) (hd : d ≤ 10000) (h : aeq P d t x y = some b) (hop : op = .eql ∨ op = .neq)
    (h1 : ∀ k a k' c, ¬ (x.real ρ = .int k a ∧ y.real ρ = .int k' c)) (h2 : ∀ a c, ¬ (x.real ρ = .string a ∧ y.real ρ = .string c)) (h3 : (∃ b, x.real ρ = .bool b) ∨ (∃ c, x.real ρ = .agg c) ∨ (∃ a n c, x.real ρ = .slice a n c)) :
    (binOp op t (x.real ρ) (y.real ρ)).run P w = .ok (.bool (if op = .eql then b else !b)) w := by
  have he := run_equal (P := P) ρ w hd h
  generalize hX : x.real ρ = X at *
  generalize hY : y.real ρ = Y at *
  rcases h3 with ⟨b0, rfl⟩ | ⟨c0, rfl⟩ | ⟨a0, n0, c0, rfl⟩ <;> rcases hop with rfl | rfl <;> cases Y <;> simp [binOp, he]

theorem run_bin {op : BinOp} {t : TypeId} {x y : AV} {r : AV} (ox oy : Operand) (hr : bin P op t x y = some r) (ρ : Nat → Place) (w : World) :
    ((do eqGuard op t ox oy (x.real ρ) (y.real ρ); binOp op t (x.real ρ) (y.real ρ) : Sem Value)).run P w = .ok (r.real ρ) w ∧ ∀ n, r.sc n = true := by
  have hscI : ∀ {k a k' b r}, ibin op k a k' b = some r → ∀ n, r.sc n = true := by
    intro k a k' b r h n
    unfold ibin at h
    cases op <;> simp only [Option.ite_none_right_eq_some, Option.ite_none_left_eq_some, Option.some.injEq] at h
    all_goals first
      | (obtain ⟨_, _, rfl⟩ := h; rfl)
      | (obtain ⟨_, rfl⟩ := h; rfl)
  have hscS : ∀ {a b r}, sbin op a b = some r → ∀ n, r.sc n = true := by
    intro a b r h n
    unfold sbin at h
    cases op <;> simp only [Option.ite_none_right_eq_some, Option.some.injEq, reduceCtorEq] at h
    all_goals first
      | (obtain ⟨_, rfl⟩ := h; rfl)
      | (subst h; rfl)
  have gd : ∀ {X Y : Value}, (∀ cs cs', ¬ (X = .agg cs ∧ Y = .agg cs')) → (¬ (X = .nilIface ∧ Y = .nilIface)) → (eqGuard op t ox oy X Y).run P w = .ok () w := fun h1 h2 => eqGuard_int P w op t ox oy h1 h2
  unfold bin at hr
  split at hr
  · simp only [AV.real, Sem.run_bind]
    rw [gd (by rintro _ _ ⟨h, _⟩; cases h) (by rintro ⟨h, _⟩; cases h), Result.andThen_ok]
    exact ⟨run_ibin ρ hr, hscI hr⟩
  · simp only [AV.real, Sem.run_bind]
    rw [gd (by rintro _ _ ⟨h, _⟩; cases h) (by rintro ⟨h, _⟩; cases h), Result.andThen_ok]
    exact ⟨run_sbin ρ hr, hscS hr⟩
  · split at hr <;> first | (cases hr; done) | skip
    all_goals
      obtain ⟨b, hb, rfl⟩ := Option.map_eq_some_iff.1 hr
      rw [Sem.run_bind, gd (by rintro _ _ ⟨h, _⟩; cases h) (by rintro ⟨h, _⟩; cases h), Result.andThen_ok,
        run_binop_eq ρ w (by omega) hb (by first | exact .inl rfl | exact .inr rfl) (by rintro _ _ _ _ ⟨h, _⟩; cases h) (by rintro _ _ ⟨h, _⟩; cases h) (.inl ⟨_, rfl⟩)]
      exact ⟨rfl, fun _ => rfl⟩
  · split at hr
    · cases hr
    · rename_i xs ys hg
      have hgd : (eqGuard op t ox oy ((AV.agg xs).real ρ) ((AV.agg ys).real ρ)).run P w = .ok () w := by
        have hg' : P.eqGuardType P.depth t = false := by simpa using hg
        unfold eqGuard
        cases op <;> first | rfl | simp [AV.real, hg']
      split at hr <;> first | (cases hr; done) | skip
      all_goals
        obtain ⟨b, hb, rfl⟩ := Option.map_eq_some_iff.1 hr
        rw [Sem.run_bind, hgd, Result.andThen_ok,
          run_binop_eq ρ w (by omega) hb (by first | exact .inl rfl | exact .inr rfl) (by rintro _ _ _ _ ⟨h, _⟩; cases h) (by rintro _ _ ⟨h, _⟩; cases h) (.inr (.inl ⟨_, rfl⟩))]
        exact ⟨rfl, fun _ => rfl⟩
  · split at hr <;> first | (cases hr; done) | skip
    all_goals
      obtain ⟨b, hb, rfl⟩ := Option.map_eq_some_iff.1 hr
      rw [Sem.run_bind, gd (by rintro _ _ ⟨h, _⟩; cases h) (by rintro ⟨h, _⟩; cases h), Result.andThen_ok,
        run_binop_eq ρ w (by omega) hb (by first | exact .inl rfl | exact .inr rfl) (by rintro _ _ _ _ ⟨h, _⟩; cases h) (by rintro _ _ ⟨h, _⟩; cases h) (.inr (.inr ⟨_, _, _, rfl⟩))]
      exact ⟨rfl, fun _ => rfl⟩
  · split at hr <;> first | (cases hr; done) | skip
    all_goals
      obtain ⟨b, hb, rfl⟩ := Option.map_eq_some_iff.1 hr
      rw [Sem.run_bind, gd (by rintro _ _ ⟨h, _⟩; cases h) (by rintro ⟨h, _⟩; cases h), Result.andThen_ok,
        run_binop_eq ρ w (by omega) hb (by first | exact .inl rfl | exact .inr rfl) (by rintro _ _ _ _ ⟨h, _⟩; cases h) (by rintro _ _ ⟨h, _⟩; cases h) (.inr (.inr ⟨_, _, _, rfl⟩))]
      exact ⟨rfl, fun _ => rfl⟩
  · cases hr

def una (op : UnOp) (x : AV) : Option AV :=
  match op, x with
  | .neg, .v (.int k n) => some (.v (.int k (k.wrap (0 - n))))
  | .xor, .v (.int k n) => some (.v (.int k (k.wrap (BitVec.ofInt k.bits (if k.signed then -1 else k.max) ^^^ BitVec.ofInt k.bits n).toNat)))
  | .not, .v (.bool b) => some (.v (.bool (!b)))
  | _, _ => none
def mif (P : Program) (t : TypeId) (x : AV) : Option AV :=
  match P.underlying t with
  | some (.interface _) => none
  | some _ => some (.ifc t x)
  | none => none

/-- An operation that leaves the memory alone: what it yields. -/
def exL (P : Program) (f : Fr) (h : Hp) (op : Op) : Option AV :=
  match op with
  | .move x => some (ev f x)
  | .assign x => some (ev f x)
  | .pick c a b => match ev f c with
    | .v (.bool t) => some (if t then ev f a else ev f b)
    | _ => none
  | .load t a => match ev f a with
    | .ptr i o => ldc P h t i o
    | _ => none
  | .nilCheck x => match ev f x with
    | .ptr i o => some (.ptr i o)
    | .fn (.func g) cs => some (.fn (.func g) cs)
    | .yld i => some (.yld i)
    | .ifc t x => some (.ifc t x)
    | _ => none
  | .binOp op t x y _ => bin P op t (ev f x) (ev f y)
  | .unOp op _ x => una op (ev f x)
  | .convert s d x => cnv P h s d (ev f x)
  | .makeInterface t x => mif P t (ev f x)
  | .makeFunc fn first cap => if first.size = 0 then some (.fn fn (cap.toList.map (ev f))) else none
  | .slice t x lo hi mx => slc P h t (ev f x) (lo.map (ev f)) (hi.map (ev f)) (mx.map (ev f))
  | .fieldAddr s x k => fad P s (ev f x) k
  | .field t x k => fld P t (ev f x) k
  | .indexAddr t x i => iad P t (ev f x) (ev f i)
  | .index t x i => idx P t (ev f x) (ev f i)
  | .lookup t x k ok => lkp P h t (ev f x) (ev f k) ok
  | .extract x i => match ev f x with
    | .tup vs => vs[i]?
    | _ => none
  | .build t parts => bld P t (parts.toList.map fun p => (p.1, ev f p.2))
  | .call c => match c.callee with
    | .builtin b => exB P b c.argTypes (c.args.toList.map (ev f))
    | _ => none
  | _ => none

theorem map_real {f : Fr} {A : Act} (hA : A.tmps = (AV.reals ρ f.t).toArray) (xs : Array Operand) : xs.map A.eval = (AV.reals ρ (xs.toList.map (ev f))).toArray := by
  apply Array.ext'
  simp only [Array.toList_map, reals_eq, List.map_map]
  exact List.map_congr_left fun x _ => ev_real hA x
theorem scs_map {f : Fr} {n : Nat} (hs : AV.scs n f.t = true) (xs : List Operand) : AV.scs n (xs.map (ev f)) = true :=
  (scs_iff n _).2 fun a ha => by obtain ⟨x, _, rfl⟩ := List.mem_map.1 ha; exact ev_sc hs x

theorem exL_ok (H : HRel P ρ h w) {f : Fr} {A : Act} (hA : A.tmps = (AV.reals ρ f.t).toArray) (hs : AV.scs h.length f.t = true) {o : Oper} {r : AV} (hr : exL P f h o.op = some r) :
    (execOp A.eval o).run P w = .ok (.value (r.real ρ)) w ∧ r.sc h.length = true := by
  have E := ev_real (ρ := ρ) hA
  have S := ev_sc hs
  unfold exL at hr
  unfold execOp
  split at hr
  · rename_i x ho
    injection hr with hr; subst hr
    simp only [ho, Sem.run_pure, E]; exact ⟨trivial, S x⟩
  · rename_i x ho
    injection hr with hr; subst hr
    simp only [ho, Sem.run_pure, E]; exact ⟨trivial, S x⟩
  · rename_i c a b ho
    split at hr
    · rename_i t hc
      injection hr with hr; subst hr
      simp only [ho, E, hc, AV.real, asBool, Sem.run_bind, Sem.run_pure, Result.andThen_ok]
      cases t
      · exact ⟨rfl, S b⟩
      · exact ⟨rfl, S a⟩
    · cases hr
  · rename_i t a ho
    split at hr
    · rename_i i o' ha
      have := run_ldc H hr
      simp only [ho, E, ha, AV.real, Instr.loadAt, Instr.sureAddr, Sem.run_bind, Sem.run_pure, Result.andThen_ok, this.1]
      exact ⟨trivial, this.2⟩
    · cases hr
  · rename_i x ho
    have Sx := S x
    split at hr
    · rename_i i o' hx; injection hr with hr; subst hr; rw [hx] at Sx; simp only [ho, E, hx, AV.real, Sem.run_pure]; exact ⟨trivial, Sx⟩
    · rename_i g cs hx; injection hr with hr; subst hr; rw [hx] at Sx; simp only [ho, E, hx, AV.real, Sem.run_pure]; exact ⟨trivial, Sx⟩
    · rename_i i hx; injection hr with hr; subst hr; rw [hx] at Sx; simp only [ho, E, hx, AV.real, Sem.run_pure]; exact ⟨trivial, Sx⟩
    · rename_i t y hx; injection hr with hr; subst hr; rw [hx] at Sx; simp only [ho, E, hx, AV.real, Sem.run_pure]; exact ⟨trivial, Sx⟩
    · cases hr
  · rename_i op t x y yt ho
    have := run_bin x y hr ρ w
    simp only [ho, E, Sem.run_bind] at this ⊢
    rw [this.1]
    exact ⟨rfl, this.2 _⟩
  · rename_i op t x ho
    unfold una at hr
    split at hr <;> first | (cases hr; done) | skip
    · rename_i k n hx
      injection hr with hr; subst hr
      simp only [ho, E, hx, AV.real, Op.unary, Op.intArith, Sem.run_bind, Sem.run_pure, Result.andThen_ok]; exact ⟨trivial, rfl⟩
    · rename_i k n hx
      injection hr with hr; subst hr
      simp only [ho, E, hx, AV.real, Op.unary, Op.intBits, Sem.run_bind, Sem.run_pure, Result.andThen_ok]; exact ⟨trivial, rfl⟩
    · rename_i b hx
      injection hr with hr; subst hr
      simp only [ho, E, hx, AV.real, Op.unary, Sem.run_bind, Sem.run_pure, Result.andThen_ok]; exact ⟨trivial, rfl⟩
  · rename_i s d x ho
    have := run_cnv H hr
    simp only [ho, E, Sem.run_bind, this.1, Result.andThen_ok, Sem.run_pure]; exact ⟨trivial, this.2⟩
  · rename_i t x ho
    unfold mif at hr
    split at hr <;> first | (cases hr; done) | skip
    rename_i d hu hd
    injection hr with hr; subst hr
    simp only [ho, E, Instr.makeInterface, Sem.run_bind, run_underlying hd w, Result.andThen_ok, AV.real]
    refine ⟨?_, S x⟩
    cases d <;> first | rfl | exact absurd rfl (hu _)
  · rename_i fn first cap ho
    simp only [Option.ite_none_right_eq_some, Option.some.injEq] at hr
    obtain ⟨h0, rfl⟩ := hr
    have : first = #[] := by simpa using h0
    subst this
    simp only [ho, Instr.makeFunc, AV.real, Sem.run_bind, Sem.run_pure, Result.andThen_ok, map_real hA]
    refine ⟨by simp [AV.reals], ?_⟩
    exact scs_map hs _
  · rename_i t x lo hi mx ho
    have hm : ∀ o : Option Operand, o.map A.eval = (o.map (ev f)).map (AV.real ρ) := fun o => by cases o <;> simp [E]
    have := run_slc H hr
    simp only [ho, E, hm, Sem.run_bind, this.1, Result.andThen_ok, Sem.run_pure]; exact ⟨trivial, this.2 (S x)⟩
  · rename_i s x k ho
    have := run_fad (ρ := ρ) (w := w) (h := h) hr
    simp only [ho, E, Sem.run_bind, this.1, Result.andThen_ok, Sem.run_pure]; exact ⟨trivial, this.2 (S x)⟩
  · rename_i t x k ho
    have := run_fld (ρ := ρ) (w := w) (h := h) hr
    simp only [ho, E, Sem.run_bind, this.1, Result.andThen_ok, Sem.run_pure]; exact ⟨trivial, this.2 (S x)⟩
  · rename_i t x i ho
    have := run_iad (ρ := ρ) (w := w) (h := h) hr
    simp only [ho, E, Sem.run_bind, this.1, Result.andThen_ok, Sem.run_pure]; exact ⟨trivial, this.2 (S x)⟩
  · rename_i t x i ho
    have := run_idx (ρ := ρ) (w := w) (h := h) hr
    simp only [ho, E, Sem.run_bind, this.1, Result.andThen_ok, Sem.run_pure]; exact ⟨trivial, this.2 (S x)⟩
  · rename_i t x k ok ho
    have := run_lkp H hr
    simp only [ho, E, Sem.run_bind, this.1, Result.andThen_ok, Sem.run_pure]; exact ⟨trivial, this.2⟩
  · rename_i x i ho
    have Sx := S x
    split at hr
    · rename_i vs hx
      rw [hx] at Sx
      have hg : (AV.reals ρ vs).toArray[i]? = some (r.real ρ) := by simp only [List.getElem?_toArray, reals_getElem?, hr, Option.map_some]
      simp only [ho, E, hx, AV.real, Instr.extract, Sem.run_bind, hg, Sem.run_pure, Result.andThen_ok]
      exact ⟨trivial, (scs_iff _ vs).1 Sx r (List.mem_of_getElem? hr)⟩
    · cases hr
  · rename_i t parts ho
    have := run_bld hr ρ w
    have hp : parts.map (fun (i, x) => (i, A.eval x)) = ((parts.toList.map fun p => (p.1, ev f p.2)).map fun p => (p.1, p.2.real ρ)).toArray := by
      apply Array.ext'
      simp [E]
    simp only [ho, Sem.run_bind, hp, this.1, Result.andThen_ok, Sem.run_pure]
    refine ⟨trivial, this.2 _ fun p hp => ?_⟩
    obtain ⟨q, _, rfl⟩ := List.mem_map.1 hp
    exact S _
  · rename_i c ho
    split at hr
    · rename_i b hb
      simp only [ho, resolve, hb, Sem.run_bind, Sem.run_pure, Result.andThen_ok, invoke, map_real hA]
      exact ⟨(run_exB hr ρ w).1, (run_exB (ty := o.type) (cn := #[]) hr ρ w).2 _⟩
    · cases hr
  · cases hr
end
end Go.Az
