/-
  Short steps of a walk over abstract memory: what they ask for is found by the elaborator (facts about types as instances, the rest by reduction or arithmetic). Conditions: stated at each theorem.
-/
import Derived.Test.YtgjbmhclgmpjdaaGreatAzQ
import Derived.ChangeSlices
import Derived.Lib.SmallJoins
set_option linter.unusedVariables false
set_option linter.unusedSectionVars false
set_option linter.unusedSimpArgs false
set_option linter.unusedVariables false
namespace Go.Az
open Go Go.Chz

class C1 (P : Program) (t : TypeId) : Prop where
  p : isS1 P t = true
class CA (P : Program) (t : TypeId) (m : outParam Nat) : Prop where
  p : isAg P t m = true
class CS (P : Program) (t : TypeId) (e : outParam TypeId) (q : outParam Nat) : Prop where
  p : sliOf P t = some (e, q)
class CR (P : Program) (t : TypeId) (m : outParam Nat) (e : outParam TypeId) (q : outParam Nat) : Prop where
  p : arrOf P t = some (m, e, q)
class CF (P : Program) (t : TypeId) (fl : Nat) (off : outParam Nat) : Prop where
  p : fadOf P t fl = some off
class CZ (P : Program) (t : TypeId) (vs : outParam (List AV)) : Prop where
  p : zeroA P t = some vs
class CU (P : Program) (t : TypeId) (k : outParam IntKind) : Prop where
  p : P.underlying t = some (.int k)
class CT (P : Program) (t : TypeId) : Prop where
  p : strTy P t = true
class CB (P : Program) (t : TypeId) : Prop where
  p : P.underlying t = some .bool
class CE (P : Program) (e : TypeId) (q : outParam Nat) : Prop where
  p : elOkQ P e q = true
class CO (P : Program) (g : FuncId) : Prop where
  p : okFn P g = true
class BD (P : Program) (t : TypeId) (ps : List (Nat × AV)) (r : outParam AV) : Prop where
  p : bld P t ps = some r
class BS (P : Program) (t : TypeId) (len : Nat) (ps : List (Nat × AV)) (e : outParam TypeId) (cs : outParam (List AV)) : Prop where
  p : bslC P t len ps = some (e, cs)
class BN (P : Program) (op : BinOp) (t : TypeId) (u w : AV) (r : outParam Bool) : Prop where
  p : bin P op t u w = some (.v (.bool r))
class MI (P : Program) (t : TypeId) (v : AV) (r : outParam AV) : Prop where
  p : mif P t v = some r
class HA (h : Hp) (i : Nat) (o : outParam AObj) : Prop where
  p : h[i]? = some o
theorem ha_same {Y Y' : Hp} {i : Nat} {o : AObj} (a : HA Y i o) (b : HA Y' i o) : Y'[i]? = Y[i]? := b.p.trans a.p.symm
/-- A value that is a slice. -/
class SlC (v : AV) : Prop where
  p : v = .v (.slice none 0 0) ∨ ∃ i o n c u, v = .sl i o n c u
class PlC (v : AV) : Prop where
  p : v.plain = true
class AllP (l : List AV) : Prop where
  p : allOne l = true
instance : SlC (.v (.slice none 0 0)) := ⟨.inl rfl⟩
instance {i o n c : Nat} {u : Bool} : SlC (.sl i o n c u) := ⟨.inr ⟨_, _, _, _, _, rfl⟩⟩
instance {v : AV} [x : SlC v] : PlC v := ⟨by rcases x.p with rfl | ⟨i, o, n, c, u, rfl⟩ <;> rfl⟩
instance {k : IntKind} {n : Int} : PlC (.v (.int k n)) := ⟨rfl⟩
instance {b : Bool} : PlC (.v (.bool b)) := ⟨rfl⟩
instance {b : ByteArray} : PlC (.v (.string b)) := ⟨rfl⟩
instance {i o : Nat} : PlC (.ptr i o) := ⟨rfl⟩
instance {i : Nat} : PlC (.mp i) := ⟨rfl⟩
instance : AllP [] := ⟨rfl⟩
instance {v : AV} {l : List AV} [x : PlC v] [y : AllP l] : AllP (v :: l) := ⟨by
  show (v.one && allOne l) = true
  rw [(plain_spec x.p).2.1, y.p]; rfl⟩
class EL (α : outParam Type) (enc : outParam (α → List AV)) (q : outParam Nat) (d : outParam α) (h : Hp) (s : AV) (l : outParam (List α)) : Prop where
  ok : EncOk enc q
  p : Elts enc q h s l
theorem mkEL {α : Type} {enc : α → List AV} {q : Nat} {h : Hp} {s : AV} {l : List α} (ok : EncOk enc q) (d : α) (hS : Elts enc q h s l) : EL α enc q d h s l := ⟨ok, hS⟩
instance {α : Type} {enc : α → List AV} {q : Nat} {d : α} {h r : Hp} {s : AV} {l : List α} [x : EL α enc q d h s l] : EL α enc q d (h ++ r) s l := ⟨x.ok, x.p.ext (ext_app _ _)⟩

instance {H r : Hp} {a0 : AObj} : HA (H ++ a0 :: r) H.length a0 := ⟨by rw [List.getElem?_append_right (by omega), show H.length - H.length = 0 by omega]; rfl⟩
instance {r : Hp} {a0 : AObj} : HA (a0 :: r) 0 a0 := ⟨rfl⟩
instance {H r : Hp} {a0 a1 : AObj} : HA (H ++ a0 :: a1 :: r) (H.length + 1) a1 := ⟨by rw [List.getElem?_append_right (by omega), show (H.length + 1) - H.length = 1 by omega]; rfl⟩
instance {r : Hp} {a0 a1 : AObj} : HA (a0 :: a1 :: r) 1 a1 := ⟨rfl⟩
instance {H r : Hp} {a0 a1 a2 : AObj} : HA (H ++ a0 :: a1 :: a2 :: r) (H.length + 2) a2 := ⟨by rw [List.getElem?_append_right (by omega), show (H.length + 2) - H.length = 2 by omega]; rfl⟩
instance {r : Hp} {a0 a1 a2 : AObj} : HA (a0 :: a1 :: a2 :: r) 2 a2 := ⟨rfl⟩
instance {H r : Hp} {a0 a1 a2 a3 : AObj} : HA (H ++ a0 :: a1 :: a2 :: a3 :: r) (H.length + 3) a3 := ⟨by rw [List.getElem?_append_right (by omega), show (H.length + 3) - H.length = 3 by omega]; rfl⟩
instance {r : Hp} {a0 a1 a2 a3 : AObj} : HA (a0 :: a1 :: a2 :: a3 :: r) 3 a3 := ⟨rfl⟩
instance {H r : Hp} {a0 a1 a2 a3 a4 : AObj} : HA (H ++ a0 :: a1 :: a2 :: a3 :: a4 :: r) (H.length + 4) a4 := ⟨by rw [List.getElem?_append_right (by omega), show (H.length + 4) - H.length = 4 by omega]; rfl⟩
instance {r : Hp} {a0 a1 a2 a3 a4 : AObj} : HA (a0 :: a1 :: a2 :: a3 :: a4 :: r) 4 a4 := ⟨rfl⟩
instance {H r : Hp} {a0 a1 a2 a3 a4 a5 : AObj} : HA (H ++ a0 :: a1 :: a2 :: a3 :: a4 :: a5 :: r) (H.length + 5) a5 := ⟨by rw [List.getElem?_append_right (by omega), show (H.length + 5) - H.length = 5 by omega]; rfl⟩
instance {r : Hp} {a0 a1 a2 a3 a4 a5 : AObj} : HA (a0 :: a1 :: a2 :: a3 :: a4 :: a5 :: r) 5 a5 := ⟨rfl⟩
instance {H r : Hp} {a0 a1 a2 a3 a4 a5 a6 : AObj} : HA (H ++ a0 :: a1 :: a2 :: a3 :: a4 :: a5 :: a6 :: r) (H.length + 6) a6 := ⟨by rw [List.getElem?_append_right (by omega), show (H.length + 6) - H.length = 6 by omega]; rfl⟩
instance {r : Hp} {a0 a1 a2 a3 a4 a5 a6 : AObj} : HA (a0 :: a1 :: a2 :: a3 :: a4 :: a5 :: a6 :: r) 6 a6 := ⟨rfl⟩
instance {H r : Hp} {a0 a1 a2 a3 a4 a5 a6 a7 : AObj} : HA (H ++ a0 :: a1 :: a2 :: a3 :: a4 :: a5 :: a6 :: a7 :: r) (H.length + 7) a7 := ⟨by rw [List.getElem?_append_right (by omega), show (H.length + 7) - H.length = 7 by omega]; rfl⟩
instance {r : Hp} {a0 a1 a2 a3 a4 a5 a6 a7 : AObj} : HA (a0 :: a1 :: a2 :: a3 :: a4 :: a5 :: a6 :: a7 :: r) 7 a7 := ⟨rfl⟩
instance {H r : Hp} {a0 a1 a2 a3 a4 a5 a6 a7 a8 : AObj} : HA (H ++ a0 :: a1 :: a2 :: a3 :: a4 :: a5 :: a6 :: a7 :: a8 :: r) (H.length + 8) a8 := ⟨by rw [List.getElem?_append_right (by omega), show (H.length + 8) - H.length = 8 by omega]; rfl⟩
instance {r : Hp} {a0 a1 a2 a3 a4 a5 a6 a7 a8 : AObj} : HA (a0 :: a1 :: a2 :: a3 :: a4 :: a5 :: a6 :: a7 :: a8 :: r) 8 a8 := ⟨rfl⟩
instance {H r : Hp} {a0 a1 a2 a3 a4 a5 a6 a7 a8 a9 : AObj} : HA (H ++ a0 :: a1 :: a2 :: a3 :: a4 :: a5 :: a6 :: a7 :: a8 :: a9 :: r) (H.length + 9) a9 := ⟨by rw [List.getElem?_append_right (by omega), show (H.length + 9) - H.length = 9 by omega]; rfl⟩
instance {r : Hp} {a0 a1 a2 a3 a4 a5 a6 a7 a8 a9 : AObj} : HA (a0 :: a1 :: a2 :: a3 :: a4 :: a5 :: a6 :: a7 :: a8 :: a9 :: r) 9 a9 := ⟨rfl⟩
instance {H r : Hp} {a0 a1 a2 a3 a4 a5 a6 a7 a8 a9 a10 : AObj} : HA (H ++ a0 :: a1 :: a2 :: a3 :: a4 :: a5 :: a6 :: a7 :: a8 :: a9 :: a10 :: r) (H.length + 10) a10 := ⟨by rw [List.getElem?_append_right (by omega), show (H.length + 10) - H.length = 10 by omega]; rfl⟩
instance {r : Hp} {a0 a1 a2 a3 a4 a5 a6 a7 a8 a9 a10 : AObj} : HA (a0 :: a1 :: a2 :: a3 :: a4 :: a5 :: a6 :: a7 :: a8 :: a9 :: a10 :: r) 10 a10 := ⟨rfl⟩
instance {H r : Hp} {a0 a1 a2 a3 a4 a5 a6 a7 a8 a9 a10 a11 : AObj} : HA (H ++ a0 :: a1 :: a2 :: a3 :: a4 :: a5 :: a6 :: a7 :: a8 :: a9 :: a10 :: a11 :: r) (H.length + 11) a11 := ⟨by rw [List.getElem?_append_right (by omega), show (H.length + 11) - H.length = 11 by omega]; rfl⟩
instance {r : Hp} {a0 a1 a2 a3 a4 a5 a6 a7 a8 a9 a10 a11 : AObj} : HA (a0 :: a1 :: a2 :: a3 :: a4 :: a5 :: a6 :: a7 :: a8 :: a9 :: a10 :: a11 :: r) 11 a11 := ⟨rfl⟩
theorem sa8 {H r : Hp} {a0 a1 a2 a3 a4 a5 a6 a7 a8 x : AObj} : (H ++ a0 :: a1 :: a2 :: a3 :: a4 :: a5 :: a6 :: a7 :: a8 :: r).set (H.length + 8) x = H ++ a0 :: a1 :: a2 :: a3 :: a4 :: a5 :: a6 :: a7 :: x :: r := by rw [List.set_append_right (i := H.length + 8) x (by omega), show H.length + 8 - H.length = 8 by omega]; rfl
theorem sa9 {H r : Hp} {a0 a1 a2 a3 a4 a5 a6 a7 a8 a9 x : AObj} : (H ++ a0 :: a1 :: a2 :: a3 :: a4 :: a5 :: a6 :: a7 :: a8 :: a9 :: r).set (H.length + 9) x = H ++ a0 :: a1 :: a2 :: a3 :: a4 :: a5 :: a6 :: a7 :: a8 :: x :: r := by rw [List.set_append_right (i := H.length + 9) x (by omega), show H.length + 9 - H.length = 9 by omega]; rfl
theorem sa10 {H r : Hp} {a0 a1 a2 a3 a4 a5 a6 a7 a8 a9 a10 x : AObj} : (H ++ a0 :: a1 :: a2 :: a3 :: a4 :: a5 :: a6 :: a7 :: a8 :: a9 :: a10 :: r).set (H.length + 10) x = H ++ a0 :: a1 :: a2 :: a3 :: a4 :: a5 :: a6 :: a7 :: a8 :: a9 :: x :: r := by rw [List.set_append_right (i := H.length + 10) x (by omega), show H.length + 10 - H.length = 10 by omega]; rfl
theorem sa11 {H r : Hp} {a0 a1 a2 a3 a4 a5 a6 a7 a8 a9 a10 a11 x : AObj} : (H ++ a0 :: a1 :: a2 :: a3 :: a4 :: a5 :: a6 :: a7 :: a8 :: a9 :: a10 :: a11 :: r).set (H.length + 11) x = H ++ a0 :: a1 :: a2 :: a3 :: a4 :: a5 :: a6 :: a7 :: a8 :: a9 :: a10 :: x :: r := by rw [List.set_append_right (i := H.length + 11) x (by omega), show H.length + 11 - H.length = 11 by omega]; rfl
def evP (l : List AV) : List (Nat × Operand) → Option (List (Nat × AV))
  | [] => some []
  | (i, a) :: r => match evS l a, evP l r with
    | some v, some vs => some ((i, v) :: vs)
    | _, _ => none
theorem evP_eq {l : List AV} {ds : List Dq} : ∀ {ps : List (Nat × Operand)} {vs : List (Nat × AV)}, evP l ps = some vs → ps.map (fun p => (p.1, ev ⟨l, ds⟩ p.2)) = vs
  | [], vs, h => by injection h
  | (i, a) :: r, vs, h => by
    unfold evP at h
    split at h
    · rename_i v vs' h1 h2
      injection h with h
      subst h
      simp only [List.map_cons, e_any (ds := ds) h1, evP_eq (ds := ds) h2]
    · cases h
theorem x_lenN {P : Program} {f : Fr} {h : Hp} {t e q : Nat} {a : Operand} (hu : sliOf P t = some (e, q)) (ha : ev f a = .v (.slice none 0 0)) : exL P f h (.call ⟨.builtin .len, #[a], #[t]⟩) = some (.v (.int .i64 0)) := by
  simp [exL, ha, exB, lenB, sliOf_und hu]
theorem x_loadW {P : Program} {f : Fr} {h : Hp} {t tt i m : Nat} {a : Operand} {cs : List AV} {ow : Bool} (hs : isAg P t m = true) (ha : ev f a = .ptr i 0) (hi : h[i]? = some (.cells cs tt ow)) (hl : cs.length = m) : exL P f h (.load t a) = some (.agg cs) := by
  rw [x_loadA hs ha hi (by omega), List.drop_zero, List.take_of_length_le (by omega)]
section
variable {P : Program} {l : List AV} {ds : List Dq} {h h' : Hp} {ops : Array Oper} {N : Fr → Hp → Prop} {d : Option Tmp} {ty : TypeId} {pos : String} {aft : Array Edge} {gd : Option (Nat × Bool)} {rest : List Oper} {restQ : List (Oper × Bool)} {zz : Bool} {X : OrdX} {pd : List (Nat × Nat)} {ii : Nat} {gone : List Nat} {a b c : Operand} {t t' tt e : TypeId} {x y n : Int} {k k0 k1 : IntKind} {r v : AV} {i o m q off fl : Nat} {cs vs : List AV} {ow : Bool}
theorem smove  (hk : wkO P ops rest N (Fr.put ⟨l, ds⟩ d (r)) (h)) (hw : wantA ops ⟨l, ds⟩ ⟨d, .move a, ty, pos, aft, gd⟩ = true := by rfl) (ha : evS l a = some (r) := by rfl) : wkO P ops (⟨d, .move a, ty, pos, aft, gd⟩ :: rest) N ⟨l, ds⟩ h := s_gL hw (x_move (e_any ha)) hk
theorem qmove  (hk : wkQ P ops restQ N (Fr.put ⟨l, ds⟩ d (r)) (h)) (hw : wantA ops ⟨l, ds⟩ ⟨d, .move a, ty, pos, aft, gd⟩ = true := by rfl) (ha : evS l a = some (r) := by rfl) : wkQ P ops ((⟨d, .move a, ty, pos, aft, gd⟩, zz) :: restQ) N ⟨l, ds⟩ h := q_gL hw (x_move (e_any ha)) hk
theorem tmove  (hk : wkX P ops X pd N (Fr.put ⟨l, ds⟩ d (r)) (h)) (hw : wantA ops ⟨l, ds⟩ ⟨d, .move a, ty, pos, aft, gd⟩ = true := by rfl) (ha : evS l a = some (r) := by rfl) (hrd : readsOf ⟨l, ds⟩ (.move a) = [] := by rfl) : wkX P ops (.light ⟨d, .move a, ty, pos, aft, gd⟩ ii X) pd N ⟨l, ds⟩ h := t_gL hw (x_move (e_any ha)) hk hrd
theorem umove  (hk : wkX P ops X pd N (Fr.put ⟨l, ds⟩ d (r)) (h)) (hw : wantA ops ⟨l, ds⟩ ⟨d, .move a, ty, pos, aft, gd⟩ = true := by rfl) (ha : evS l a = some (r) := by rfl) : wkX P ops (.alt ⟨d, .move a, ty, pos, aft, gd⟩ ii gone X .no) pd N ⟨l, ds⟩ h := u_gL hw (x_move (e_any ha)) hk
theorem sassign  (hk : wkO P ops rest N (Fr.put ⟨l, ds⟩ d (r)) (h)) (hw : wantA ops ⟨l, ds⟩ ⟨d, .assign a, ty, pos, aft, gd⟩ = true := by rfl) (ha : evS l a = some (r) := by rfl) : wkO P ops (⟨d, .assign a, ty, pos, aft, gd⟩ :: rest) N ⟨l, ds⟩ h := s_gL hw (x_assign (e_any ha)) hk
theorem qassign  (hk : wkQ P ops restQ N (Fr.put ⟨l, ds⟩ d (r)) (h)) (hw : wantA ops ⟨l, ds⟩ ⟨d, .assign a, ty, pos, aft, gd⟩ = true := by rfl) (ha : evS l a = some (r) := by rfl) : wkQ P ops ((⟨d, .assign a, ty, pos, aft, gd⟩, zz) :: restQ) N ⟨l, ds⟩ h := q_gL hw (x_assign (e_any ha)) hk
theorem tassign  (hk : wkX P ops X pd N (Fr.put ⟨l, ds⟩ d (r)) (h)) (hw : wantA ops ⟨l, ds⟩ ⟨d, .assign a, ty, pos, aft, gd⟩ = true := by rfl) (ha : evS l a = some (r) := by rfl) (hrd : readsOf ⟨l, ds⟩ (.assign a) = [] := by rfl) : wkX P ops (.light ⟨d, .assign a, ty, pos, aft, gd⟩ ii X) pd N ⟨l, ds⟩ h := t_gL hw (x_assign (e_any ha)) hk hrd
theorem uassign  (hk : wkX P ops X pd N (Fr.put ⟨l, ds⟩ d (r)) (h)) (hw : wantA ops ⟨l, ds⟩ ⟨d, .assign a, ty, pos, aft, gd⟩ = true := by rfl) (ha : evS l a = some (r) := by rfl) : wkX P ops (.alt ⟨d, .assign a, ty, pos, aft, gd⟩ ii gone X .no) pd N ⟨l, ds⟩ h := u_gL hw (x_assign (e_any ha)) hk
theorem spickT  (hk : wkO P ops rest N (Fr.put ⟨l, ds⟩ d (r)) (h)) (hw : wantA ops ⟨l, ds⟩ ⟨d, .pick c a b, ty, pos, aft, gd⟩ = true := by rfl) (hc : evS l c = some (.v (.bool true)) := by rfl) (ha : evS l a = some (r) := by rfl) : wkO P ops (⟨d, .pick c a b, ty, pos, aft, gd⟩ :: rest) N ⟨l, ds⟩ h := s_gL hw (x_pickT (e_any hc) (e_any ha)) hk
theorem qpickT  (hk : wkQ P ops restQ N (Fr.put ⟨l, ds⟩ d (r)) (h)) (hw : wantA ops ⟨l, ds⟩ ⟨d, .pick c a b, ty, pos, aft, gd⟩ = true := by rfl) (hc : evS l c = some (.v (.bool true)) := by rfl) (ha : evS l a = some (r) := by rfl) : wkQ P ops ((⟨d, .pick c a b, ty, pos, aft, gd⟩, zz) :: restQ) N ⟨l, ds⟩ h := q_gL hw (x_pickT (e_any hc) (e_any ha)) hk
theorem tpickT  (hk : wkX P ops X pd N (Fr.put ⟨l, ds⟩ d (r)) (h)) (hw : wantA ops ⟨l, ds⟩ ⟨d, .pick c a b, ty, pos, aft, gd⟩ = true := by rfl) (hc : evS l c = some (.v (.bool true)) := by rfl) (ha : evS l a = some (r) := by rfl) (hrd : readsOf ⟨l, ds⟩ (.pick c a b) = [] := by rfl) : wkX P ops (.light ⟨d, .pick c a b, ty, pos, aft, gd⟩ ii X) pd N ⟨l, ds⟩ h := t_gL hw (x_pickT (e_any hc) (e_any ha)) hk hrd
theorem upickT  (hk : wkX P ops X pd N (Fr.put ⟨l, ds⟩ d (r)) (h)) (hw : wantA ops ⟨l, ds⟩ ⟨d, .pick c a b, ty, pos, aft, gd⟩ = true := by rfl) (hc : evS l c = some (.v (.bool true)) := by rfl) (ha : evS l a = some (r) := by rfl) : wkX P ops (.alt ⟨d, .pick c a b, ty, pos, aft, gd⟩ ii gone X .no) pd N ⟨l, ds⟩ h := u_gL hw (x_pickT (e_any hc) (e_any ha)) hk
theorem spickF  (hk : wkO P ops rest N (Fr.put ⟨l, ds⟩ d (r)) (h)) (hw : wantA ops ⟨l, ds⟩ ⟨d, .pick c a b, ty, pos, aft, gd⟩ = true := by rfl) (hc : evS l c = some (.v (.bool false)) := by rfl) (hb : evS l b = some (r) := by rfl) : wkO P ops (⟨d, .pick c a b, ty, pos, aft, gd⟩ :: rest) N ⟨l, ds⟩ h := s_gL hw (x_pickF (e_any hc) (e_any hb)) hk
theorem qpickF  (hk : wkQ P ops restQ N (Fr.put ⟨l, ds⟩ d (r)) (h)) (hw : wantA ops ⟨l, ds⟩ ⟨d, .pick c a b, ty, pos, aft, gd⟩ = true := by rfl) (hc : evS l c = some (.v (.bool false)) := by rfl) (hb : evS l b = some (r) := by rfl) : wkQ P ops ((⟨d, .pick c a b, ty, pos, aft, gd⟩, zz) :: restQ) N ⟨l, ds⟩ h := q_gL hw (x_pickF (e_any hc) (e_any hb)) hk
theorem tpickF  (hk : wkX P ops X pd N (Fr.put ⟨l, ds⟩ d (r)) (h)) (hw : wantA ops ⟨l, ds⟩ ⟨d, .pick c a b, ty, pos, aft, gd⟩ = true := by rfl) (hc : evS l c = some (.v (.bool false)) := by rfl) (hb : evS l b = some (r) := by rfl) (hrd : readsOf ⟨l, ds⟩ (.pick c a b) = [] := by rfl) : wkX P ops (.light ⟨d, .pick c a b, ty, pos, aft, gd⟩ ii X) pd N ⟨l, ds⟩ h := t_gL hw (x_pickF (e_any hc) (e_any hb)) hk hrd
theorem upickF  (hk : wkX P ops X pd N (Fr.put ⟨l, ds⟩ d (r)) (h)) (hw : wantA ops ⟨l, ds⟩ ⟨d, .pick c a b, ty, pos, aft, gd⟩ = true := by rfl) (hc : evS l c = some (.v (.bool false)) := by rfl) (hb : evS l b = some (r) := by rfl) : wkX P ops (.alt ⟨d, .pick c a b, ty, pos, aft, gd⟩ ii gone X .no) pd N ⟨l, ds⟩ h := u_gL hw (x_pickF (e_any hc) (e_any hb)) hk
theorem snotT  (hk : wkO P ops rest N (Fr.put ⟨l, ds⟩ d (.v (.bool false))) (h)) (hw : wantA ops ⟨l, ds⟩ ⟨d, .unOp .not t a, ty, pos, aft, gd⟩ = true := by rfl) (ha : evS l a = some (.v (.bool true)) := by rfl) : wkO P ops (⟨d, .unOp .not t a, ty, pos, aft, gd⟩ :: rest) N ⟨l, ds⟩ h := s_gL hw (x_notT (e_any ha)) hk
theorem qnotT  (hk : wkQ P ops restQ N (Fr.put ⟨l, ds⟩ d (.v (.bool false))) (h)) (hw : wantA ops ⟨l, ds⟩ ⟨d, .unOp .not t a, ty, pos, aft, gd⟩ = true := by rfl) (ha : evS l a = some (.v (.bool true)) := by rfl) : wkQ P ops ((⟨d, .unOp .not t a, ty, pos, aft, gd⟩, zz) :: restQ) N ⟨l, ds⟩ h := q_gL hw (x_notT (e_any ha)) hk
theorem tnotT  (hk : wkX P ops X pd N (Fr.put ⟨l, ds⟩ d (.v (.bool false))) (h)) (hw : wantA ops ⟨l, ds⟩ ⟨d, .unOp .not t a, ty, pos, aft, gd⟩ = true := by rfl) (ha : evS l a = some (.v (.bool true)) := by rfl) (hrd : readsOf ⟨l, ds⟩ (.unOp .not t a) = [] := by rfl) : wkX P ops (.light ⟨d, .unOp .not t a, ty, pos, aft, gd⟩ ii X) pd N ⟨l, ds⟩ h := t_gL hw (x_notT (e_any ha)) hk hrd
theorem unotT  (hk : wkX P ops X pd N (Fr.put ⟨l, ds⟩ d (.v (.bool false))) (h)) (hw : wantA ops ⟨l, ds⟩ ⟨d, .unOp .not t a, ty, pos, aft, gd⟩ = true := by rfl) (ha : evS l a = some (.v (.bool true)) := by rfl) : wkX P ops (.alt ⟨d, .unOp .not t a, ty, pos, aft, gd⟩ ii gone X .no) pd N ⟨l, ds⟩ h := u_gL hw (x_notT (e_any ha)) hk
theorem snotF  (hk : wkO P ops rest N (Fr.put ⟨l, ds⟩ d (.v (.bool true))) (h)) (hw : wantA ops ⟨l, ds⟩ ⟨d, .unOp .not t a, ty, pos, aft, gd⟩ = true := by rfl) (ha : evS l a = some (.v (.bool false)) := by rfl) : wkO P ops (⟨d, .unOp .not t a, ty, pos, aft, gd⟩ :: rest) N ⟨l, ds⟩ h := s_gL hw (x_notF (e_any ha)) hk
theorem qnotF  (hk : wkQ P ops restQ N (Fr.put ⟨l, ds⟩ d (.v (.bool true))) (h)) (hw : wantA ops ⟨l, ds⟩ ⟨d, .unOp .not t a, ty, pos, aft, gd⟩ = true := by rfl) (ha : evS l a = some (.v (.bool false)) := by rfl) : wkQ P ops ((⟨d, .unOp .not t a, ty, pos, aft, gd⟩, zz) :: restQ) N ⟨l, ds⟩ h := q_gL hw (x_notF (e_any ha)) hk
theorem tnotF  (hk : wkX P ops X pd N (Fr.put ⟨l, ds⟩ d (.v (.bool true))) (h)) (hw : wantA ops ⟨l, ds⟩ ⟨d, .unOp .not t a, ty, pos, aft, gd⟩ = true := by rfl) (ha : evS l a = some (.v (.bool false)) := by rfl) (hrd : readsOf ⟨l, ds⟩ (.unOp .not t a) = [] := by rfl) : wkX P ops (.light ⟨d, .unOp .not t a, ty, pos, aft, gd⟩ ii X) pd N ⟨l, ds⟩ h := t_gL hw (x_notF (e_any ha)) hk hrd
theorem unotF  (hk : wkX P ops X pd N (Fr.put ⟨l, ds⟩ d (.v (.bool true))) (h)) (hw : wantA ops ⟨l, ds⟩ ⟨d, .unOp .not t a, ty, pos, aft, gd⟩ = true := by rfl) (ha : evS l a = some (.v (.bool false)) := by rfl) : wkX P ops (.alt ⟨d, .unOp .not t a, ty, pos, aft, gd⟩ ii gone X .no) pd N ⟨l, ds⟩ h := u_gL hw (x_notF (e_any ha)) hk
theorem sext  (hk : wkO P ops rest N (Fr.put ⟨l, ds⟩ d (r)) (h)) (hw : wantA ops ⟨l, ds⟩ ⟨d, .extract a i, ty, pos, aft, gd⟩ = true := by rfl) (ha : evS l a = some (.tup vs) := by rfl) (hi : vs[i]? = some r := by rfl) : wkO P ops (⟨d, .extract a i, ty, pos, aft, gd⟩ :: rest) N ⟨l, ds⟩ h := s_gL hw (x_extract (e_any ha) hi) hk
theorem qext  (hk : wkQ P ops restQ N (Fr.put ⟨l, ds⟩ d (r)) (h)) (hw : wantA ops ⟨l, ds⟩ ⟨d, .extract a i, ty, pos, aft, gd⟩ = true := by rfl) (ha : evS l a = some (.tup vs) := by rfl) (hi : vs[i]? = some r := by rfl) : wkQ P ops ((⟨d, .extract a i, ty, pos, aft, gd⟩, zz) :: restQ) N ⟨l, ds⟩ h := q_gL hw (x_extract (e_any ha) hi) hk
theorem text  (hk : wkX P ops X pd N (Fr.put ⟨l, ds⟩ d (r)) (h)) (hw : wantA ops ⟨l, ds⟩ ⟨d, .extract a i, ty, pos, aft, gd⟩ = true := by rfl) (ha : evS l a = some (.tup vs) := by rfl) (hi : vs[i]? = some r := by rfl) (hrd : readsOf ⟨l, ds⟩ (.extract a i) = [] := by rfl) : wkX P ops (.light ⟨d, .extract a i, ty, pos, aft, gd⟩ ii X) pd N ⟨l, ds⟩ h := t_gL hw (x_extract (e_any ha) hi) hk hrd
theorem uext  (hk : wkX P ops X pd N (Fr.put ⟨l, ds⟩ d (r)) (h)) (hw : wantA ops ⟨l, ds⟩ ⟨d, .extract a i, ty, pos, aft, gd⟩ = true := by rfl) (ha : evS l a = some (.tup vs) := by rfl) (hi : vs[i]? = some r := by rfl) : wkX P ops (.alt ⟨d, .extract a i, ty, pos, aft, gd⟩ ii gone X .no) pd N ⟨l, ds⟩ h := u_gL hw (x_extract (e_any ha) hi) hk
theorem sadd  (hk : wkO P ops rest N (Fr.put ⟨l, ds⟩ d (.v (.int k (x + y)))) (h)) (hw : wantA ops ⟨l, ds⟩ ⟨d, .binOp .add t a b t', ty, pos, aft, gd⟩ = true := by rfl) (ha : evS l a = some (.v (.int k x)) := by rfl) (hb : evS l b = some (.v (.int k y)) := by rfl) (hr : k.wrap (x + y) = x + y := by first | exact wrap_i64_in (by omega) (by omega) | exact wrap_u64_in (by omega) (by omega) | exact wrap_u8_in (by omega) (by omega) | exact wrap_u32_in (by omega) (by omega) | rfl) : wkO P ops (⟨d, .binOp .add t a b t', ty, pos, aft, gd⟩ :: rest) N ⟨l, ds⟩ h := s_gL hw (x_add (e_any ha) (e_any hb) hr) hk
theorem qadd  (hk : wkQ P ops restQ N (Fr.put ⟨l, ds⟩ d (.v (.int k (x + y)))) (h)) (hw : wantA ops ⟨l, ds⟩ ⟨d, .binOp .add t a b t', ty, pos, aft, gd⟩ = true := by rfl) (ha : evS l a = some (.v (.int k x)) := by rfl) (hb : evS l b = some (.v (.int k y)) := by rfl) (hr : k.wrap (x + y) = x + y := by first | exact wrap_i64_in (by omega) (by omega) | exact wrap_u64_in (by omega) (by omega) | exact wrap_u8_in (by omega) (by omega) | exact wrap_u32_in (by omega) (by omega) | rfl) : wkQ P ops ((⟨d, .binOp .add t a b t', ty, pos, aft, gd⟩, zz) :: restQ) N ⟨l, ds⟩ h := q_gL hw (x_add (e_any ha) (e_any hb) hr) hk
theorem tadd  (hk : wkX P ops X pd N (Fr.put ⟨l, ds⟩ d (.v (.int k (x + y)))) (h)) (hw : wantA ops ⟨l, ds⟩ ⟨d, .binOp .add t a b t', ty, pos, aft, gd⟩ = true := by rfl) (ha : evS l a = some (.v (.int k x)) := by rfl) (hb : evS l b = some (.v (.int k y)) := by rfl) (hr : k.wrap (x + y) = x + y := by first | exact wrap_i64_in (by omega) (by omega) | exact wrap_u64_in (by omega) (by omega) | exact wrap_u8_in (by omega) (by omega) | exact wrap_u32_in (by omega) (by omega) | rfl) (hrd : readsOf ⟨l, ds⟩ (.binOp .add t a b t') = [] := by rfl) : wkX P ops (.light ⟨d, .binOp .add t a b t', ty, pos, aft, gd⟩ ii X) pd N ⟨l, ds⟩ h := t_gL hw (x_add (e_any ha) (e_any hb) hr) hk hrd
theorem uadd  (hk : wkX P ops X pd N (Fr.put ⟨l, ds⟩ d (.v (.int k (x + y)))) (h)) (hw : wantA ops ⟨l, ds⟩ ⟨d, .binOp .add t a b t', ty, pos, aft, gd⟩ = true := by rfl) (ha : evS l a = some (.v (.int k x)) := by rfl) (hb : evS l b = some (.v (.int k y)) := by rfl) (hr : k.wrap (x + y) = x + y := by first | exact wrap_i64_in (by omega) (by omega) | exact wrap_u64_in (by omega) (by omega) | exact wrap_u8_in (by omega) (by omega) | exact wrap_u32_in (by omega) (by omega) | rfl) : wkX P ops (.alt ⟨d, .binOp .add t a b t', ty, pos, aft, gd⟩ ii gone X .no) pd N ⟨l, ds⟩ h := u_gL hw (x_add (e_any ha) (e_any hb) hr) hk
theorem ssub  (hk : wkO P ops rest N (Fr.put ⟨l, ds⟩ d (.v (.int k (x - y)))) (h)) (hw : wantA ops ⟨l, ds⟩ ⟨d, .binOp .sub t a b t', ty, pos, aft, gd⟩ = true := by rfl) (ha : evS l a = some (.v (.int k x)) := by rfl) (hb : evS l b = some (.v (.int k y)) := by rfl) (hr : k.wrap (x - y) = x - y := by first | exact wrap_i64_in (by omega) (by omega) | exact wrap_u64_in (by omega) (by omega) | exact wrap_u8_in (by omega) (by omega) | exact wrap_u32_in (by omega) (by omega) | rfl) : wkO P ops (⟨d, .binOp .sub t a b t', ty, pos, aft, gd⟩ :: rest) N ⟨l, ds⟩ h := s_gL hw (x_sub (e_any ha) (e_any hb) hr) hk
theorem qsub  (hk : wkQ P ops restQ N (Fr.put ⟨l, ds⟩ d (.v (.int k (x - y)))) (h)) (hw : wantA ops ⟨l, ds⟩ ⟨d, .binOp .sub t a b t', ty, pos, aft, gd⟩ = true := by rfl) (ha : evS l a = some (.v (.int k x)) := by rfl) (hb : evS l b = some (.v (.int k y)) := by rfl) (hr : k.wrap (x - y) = x - y := by first | exact wrap_i64_in (by omega) (by omega) | exact wrap_u64_in (by omega) (by omega) | exact wrap_u8_in (by omega) (by omega) | exact wrap_u32_in (by omega) (by omega) | rfl) : wkQ P ops ((⟨d, .binOp .sub t a b t', ty, pos, aft, gd⟩, zz) :: restQ) N ⟨l, ds⟩ h := q_gL hw (x_sub (e_any ha) (e_any hb) hr) hk
theorem tsub  (hk : wkX P ops X pd N (Fr.put ⟨l, ds⟩ d (.v (.int k (x - y)))) (h)) (hw : wantA ops ⟨l, ds⟩ ⟨d, .binOp .sub t a b t', ty, pos, aft, gd⟩ = true := by rfl) (ha : evS l a = some (.v (.int k x)) := by rfl) (hb : evS l b = some (.v (.int k y)) := by rfl) (hr : k.wrap (x - y) = x - y := by first | exact wrap_i64_in (by omega) (by omega) | exact wrap_u64_in (by omega) (by omega) | exact wrap_u8_in (by omega) (by omega) | exact wrap_u32_in (by omega) (by omega) | rfl) (hrd : readsOf ⟨l, ds⟩ (.binOp .sub t a b t') = [] := by rfl) : wkX P ops (.light ⟨d, .binOp .sub t a b t', ty, pos, aft, gd⟩ ii X) pd N ⟨l, ds⟩ h := t_gL hw (x_sub (e_any ha) (e_any hb) hr) hk hrd
theorem usub  (hk : wkX P ops X pd N (Fr.put ⟨l, ds⟩ d (.v (.int k (x - y)))) (h)) (hw : wantA ops ⟨l, ds⟩ ⟨d, .binOp .sub t a b t', ty, pos, aft, gd⟩ = true := by rfl) (ha : evS l a = some (.v (.int k x)) := by rfl) (hb : evS l b = some (.v (.int k y)) := by rfl) (hr : k.wrap (x - y) = x - y := by first | exact wrap_i64_in (by omega) (by omega) | exact wrap_u64_in (by omega) (by omega) | exact wrap_u8_in (by omega) (by omega) | exact wrap_u32_in (by omega) (by omega) | rfl) : wkX P ops (.alt ⟨d, .binOp .sub t a b t', ty, pos, aft, gd⟩ ii gone X .no) pd N ⟨l, ds⟩ h := u_gL hw (x_sub (e_any ha) (e_any hb) hr) hk
theorem smul  (hk : wkO P ops rest N (Fr.put ⟨l, ds⟩ d (.v (.int k (x * y)))) (h)) (hw : wantA ops ⟨l, ds⟩ ⟨d, .binOp .mul t a b t', ty, pos, aft, gd⟩ = true := by rfl) (ha : evS l a = some (.v (.int k x)) := by rfl) (hb : evS l b = some (.v (.int k y)) := by rfl) (hr : k.wrap (x * y) = x * y := by first | exact wrap_i64_in (by omega) (by omega) | exact wrap_u64_in (by omega) (by omega) | exact wrap_u8_in (by omega) (by omega) | exact wrap_u32_in (by omega) (by omega) | rfl) : wkO P ops (⟨d, .binOp .mul t a b t', ty, pos, aft, gd⟩ :: rest) N ⟨l, ds⟩ h := s_gL hw (x_mul (e_any ha) (e_any hb) hr) hk
theorem qmul  (hk : wkQ P ops restQ N (Fr.put ⟨l, ds⟩ d (.v (.int k (x * y)))) (h)) (hw : wantA ops ⟨l, ds⟩ ⟨d, .binOp .mul t a b t', ty, pos, aft, gd⟩ = true := by rfl) (ha : evS l a = some (.v (.int k x)) := by rfl) (hb : evS l b = some (.v (.int k y)) := by rfl) (hr : k.wrap (x * y) = x * y := by first | exact wrap_i64_in (by omega) (by omega) | exact wrap_u64_in (by omega) (by omega) | exact wrap_u8_in (by omega) (by omega) | exact wrap_u32_in (by omega) (by omega) | rfl) : wkQ P ops ((⟨d, .binOp .mul t a b t', ty, pos, aft, gd⟩, zz) :: restQ) N ⟨l, ds⟩ h := q_gL hw (x_mul (e_any ha) (e_any hb) hr) hk
theorem tmul  (hk : wkX P ops X pd N (Fr.put ⟨l, ds⟩ d (.v (.int k (x * y)))) (h)) (hw : wantA ops ⟨l, ds⟩ ⟨d, .binOp .mul t a b t', ty, pos, aft, gd⟩ = true := by rfl) (ha : evS l a = some (.v (.int k x)) := by rfl) (hb : evS l b = some (.v (.int k y)) := by rfl) (hr : k.wrap (x * y) = x * y := by first | exact wrap_i64_in (by omega) (by omega) | exact wrap_u64_in (by omega) (by omega) | exact wrap_u8_in (by omega) (by omega) | exact wrap_u32_in (by omega) (by omega) | rfl) (hrd : readsOf ⟨l, ds⟩ (.binOp .mul t a b t') = [] := by rfl) : wkX P ops (.light ⟨d, .binOp .mul t a b t', ty, pos, aft, gd⟩ ii X) pd N ⟨l, ds⟩ h := t_gL hw (x_mul (e_any ha) (e_any hb) hr) hk hrd
theorem umul  (hk : wkX P ops X pd N (Fr.put ⟨l, ds⟩ d (.v (.int k (x * y)))) (h)) (hw : wantA ops ⟨l, ds⟩ ⟨d, .binOp .mul t a b t', ty, pos, aft, gd⟩ = true := by rfl) (ha : evS l a = some (.v (.int k x)) := by rfl) (hb : evS l b = some (.v (.int k y)) := by rfl) (hr : k.wrap (x * y) = x * y := by first | exact wrap_i64_in (by omega) (by omega) | exact wrap_u64_in (by omega) (by omega) | exact wrap_u8_in (by omega) (by omega) | exact wrap_u32_in (by omega) (by omega) | rfl) : wkX P ops (.alt ⟨d, .binOp .mul t a b t', ty, pos, aft, gd⟩ ii gone X .no) pd N ⟨l, ds⟩ h := u_gL hw (x_mul (e_any ha) (e_any hb) hr) hk
theorem saddS {l1 l2 : List UInt8} (hk : wkO P ops rest N (Fr.put ⟨l, ds⟩ d (St (l1 ++ l2))) (h)) (hw : wantA ops ⟨l, ds⟩ ⟨d, .binOp .add t a b t', ty, pos, aft, gd⟩ = true := by rfl) (ha : evS l a = some (St l1) := by rfl) (hb : evS l b = some (St l2) := by rfl) (hl : l1.length + l2.length ≤ 9223372036854775807 := by (try simp only [List.length_append, List.length_cons, List.length_nil]); omega) : wkO P ops (⟨d, .binOp .add t a b t', ty, pos, aft, gd⟩ :: rest) N ⟨l, ds⟩ h := s_gL hw (x_addS (e_any ha) (e_any hb) hl) hk
theorem qaddS {l1 l2 : List UInt8} (hk : wkQ P ops restQ N (Fr.put ⟨l, ds⟩ d (St (l1 ++ l2))) (h)) (hw : wantA ops ⟨l, ds⟩ ⟨d, .binOp .add t a b t', ty, pos, aft, gd⟩ = true := by rfl) (ha : evS l a = some (St l1) := by rfl) (hb : evS l b = some (St l2) := by rfl) (hl : l1.length + l2.length ≤ 9223372036854775807 := by (try simp only [List.length_append, List.length_cons, List.length_nil]); omega) : wkQ P ops ((⟨d, .binOp .add t a b t', ty, pos, aft, gd⟩, zz) :: restQ) N ⟨l, ds⟩ h := q_gL hw (x_addS (e_any ha) (e_any hb) hl) hk
theorem taddS {l1 l2 : List UInt8} (hk : wkX P ops X pd N (Fr.put ⟨l, ds⟩ d (St (l1 ++ l2))) (h)) (hw : wantA ops ⟨l, ds⟩ ⟨d, .binOp .add t a b t', ty, pos, aft, gd⟩ = true := by rfl) (ha : evS l a = some (St l1) := by rfl) (hb : evS l b = some (St l2) := by rfl) (hl : l1.length + l2.length ≤ 9223372036854775807 := by (try simp only [List.length_append, List.length_cons, List.length_nil]); omega) (hrd : readsOf ⟨l, ds⟩ (.binOp .add t a b t') = [] := by rfl) : wkX P ops (.light ⟨d, .binOp .add t a b t', ty, pos, aft, gd⟩ ii X) pd N ⟨l, ds⟩ h := t_gL hw (x_addS (e_any ha) (e_any hb) hl) hk hrd
theorem uaddS {l1 l2 : List UInt8} (hk : wkX P ops X pd N (Fr.put ⟨l, ds⟩ d (St (l1 ++ l2))) (h)) (hw : wantA ops ⟨l, ds⟩ ⟨d, .binOp .add t a b t', ty, pos, aft, gd⟩ = true := by rfl) (ha : evS l a = some (St l1) := by rfl) (hb : evS l b = some (St l2) := by rfl) (hl : l1.length + l2.length ≤ 9223372036854775807 := by (try simp only [List.length_append, List.length_cons, List.length_nil]); omega) : wkX P ops (.alt ⟨d, .binOp .add t a b t', ty, pos, aft, gd⟩ ii gone X .no) pd N ⟨l, ds⟩ h := u_gL hw (x_addS (e_any ha) (e_any hb) hl) hk
theorem srem  (hk : wkO P ops rest N (Fr.put ⟨l, ds⟩ d (.v (.int k (x % y)))) (h)) (hw : wantA ops ⟨l, ds⟩ ⟨d, .binOp .rem t a b t', ty, pos, aft, gd⟩ = true := by rfl) (ha : evS l a = some (.v (.int k x)) := by rfl) (hb : evS l b = some (.v (.int k y)) := by rfl) (h0 : 0 ≤ x := by omega) (h1 : 0 < y := by omega) : wkO P ops (⟨d, .binOp .rem t a b t', ty, pos, aft, gd⟩ :: rest) N ⟨l, ds⟩ h := s_gL hw (x_rem (e_any ha) (e_any hb) h0 h1) hk
theorem qrem  (hk : wkQ P ops restQ N (Fr.put ⟨l, ds⟩ d (.v (.int k (x % y)))) (h)) (hw : wantA ops ⟨l, ds⟩ ⟨d, .binOp .rem t a b t', ty, pos, aft, gd⟩ = true := by rfl) (ha : evS l a = some (.v (.int k x)) := by rfl) (hb : evS l b = some (.v (.int k y)) := by rfl) (h0 : 0 ≤ x := by omega) (h1 : 0 < y := by omega) : wkQ P ops ((⟨d, .binOp .rem t a b t', ty, pos, aft, gd⟩, zz) :: restQ) N ⟨l, ds⟩ h := q_gL hw (x_rem (e_any ha) (e_any hb) h0 h1) hk
theorem trem  (hk : wkX P ops X pd N (Fr.put ⟨l, ds⟩ d (.v (.int k (x % y)))) (h)) (hw : wantA ops ⟨l, ds⟩ ⟨d, .binOp .rem t a b t', ty, pos, aft, gd⟩ = true := by rfl) (ha : evS l a = some (.v (.int k x)) := by rfl) (hb : evS l b = some (.v (.int k y)) := by rfl) (h0 : 0 ≤ x := by omega) (h1 : 0 < y := by omega) (hrd : readsOf ⟨l, ds⟩ (.binOp .rem t a b t') = [] := by rfl) : wkX P ops (.light ⟨d, .binOp .rem t a b t', ty, pos, aft, gd⟩ ii X) pd N ⟨l, ds⟩ h := t_gL hw (x_rem (e_any ha) (e_any hb) h0 h1) hk hrd
theorem urem  (hk : wkX P ops X pd N (Fr.put ⟨l, ds⟩ d (.v (.int k (x % y)))) (h)) (hw : wantA ops ⟨l, ds⟩ ⟨d, .binOp .rem t a b t', ty, pos, aft, gd⟩ = true := by rfl) (ha : evS l a = some (.v (.int k x)) := by rfl) (hb : evS l b = some (.v (.int k y)) := by rfl) (h0 : 0 ≤ x := by omega) (h1 : 0 < y := by omega) : wkX P ops (.alt ⟨d, .binOp .rem t a b t', ty, pos, aft, gd⟩ ii gone X .no) pd N ⟨l, ds⟩ h := u_gL hw (x_rem (e_any ha) (e_any hb) h0 h1) hk
theorem stmod  (hk : wkO P ops rest N (Fr.put ⟨l, ds⟩ d (.v (.int k (x.tmod y)))) (h)) (hw : wantA ops ⟨l, ds⟩ ⟨d, .binOp .rem t a b t', ty, pos, aft, gd⟩ = true := by rfl) (ha : evS l a = some (.v (.int k x)) := by rfl) (hb : evS l b = some (.v (.int k y)) := by rfl) (h1 : y ≠ 0 := by omega) : wkO P ops (⟨d, .binOp .rem t a b t', ty, pos, aft, gd⟩ :: rest) N ⟨l, ds⟩ h := s_gL hw (x_tmod (e_any ha) (e_any hb) h1) hk
theorem qtmod  (hk : wkQ P ops restQ N (Fr.put ⟨l, ds⟩ d (.v (.int k (x.tmod y)))) (h)) (hw : wantA ops ⟨l, ds⟩ ⟨d, .binOp .rem t a b t', ty, pos, aft, gd⟩ = true := by rfl) (ha : evS l a = some (.v (.int k x)) := by rfl) (hb : evS l b = some (.v (.int k y)) := by rfl) (h1 : y ≠ 0 := by omega) : wkQ P ops ((⟨d, .binOp .rem t a b t', ty, pos, aft, gd⟩, zz) :: restQ) N ⟨l, ds⟩ h := q_gL hw (x_tmod (e_any ha) (e_any hb) h1) hk
theorem ttmod  (hk : wkX P ops X pd N (Fr.put ⟨l, ds⟩ d (.v (.int k (x.tmod y)))) (h)) (hw : wantA ops ⟨l, ds⟩ ⟨d, .binOp .rem t a b t', ty, pos, aft, gd⟩ = true := by rfl) (ha : evS l a = some (.v (.int k x)) := by rfl) (hb : evS l b = some (.v (.int k y)) := by rfl) (h1 : y ≠ 0 := by omega) (hrd : readsOf ⟨l, ds⟩ (.binOp .rem t a b t') = [] := by rfl) : wkX P ops (.light ⟨d, .binOp .rem t a b t', ty, pos, aft, gd⟩ ii X) pd N ⟨l, ds⟩ h := t_gL hw (x_tmod (e_any ha) (e_any hb) h1) hk hrd
theorem utmod  (hk : wkX P ops X pd N (Fr.put ⟨l, ds⟩ d (.v (.int k (x.tmod y)))) (h)) (hw : wantA ops ⟨l, ds⟩ ⟨d, .binOp .rem t a b t', ty, pos, aft, gd⟩ = true := by rfl) (ha : evS l a = some (.v (.int k x)) := by rfl) (hb : evS l b = some (.v (.int k y)) := by rfl) (h1 : y ≠ 0 := by omega) : wkX P ops (.alt ⟨d, .binOp .rem t a b t', ty, pos, aft, gd⟩ ii gone X .no) pd N ⟨l, ds⟩ h := u_gL hw (x_tmod (e_any ha) (e_any hb) h1) hk
theorem squo  (hk : wkO P ops rest N (Fr.put ⟨l, ds⟩ d (.v (.int k (x / y)))) (h)) (hw : wantA ops ⟨l, ds⟩ ⟨d, .binOp .quo t a b t', ty, pos, aft, gd⟩ = true := by rfl) (ha : evS l a = some (.v (.int k x)) := by rfl) (hb : evS l b = some (.v (.int k y)) := by rfl) (h0 : 0 ≤ x := by omega) (h1 : 0 < y := by omega) (hr : k.wrap (x / y) = x / y := by first | exact wrap_i64_in (by omega) (by omega) | exact wrap_u64_in (by omega) (by omega)) : wkO P ops (⟨d, .binOp .quo t a b t', ty, pos, aft, gd⟩ :: rest) N ⟨l, ds⟩ h := s_gL hw (x_quo (e_any ha) (e_any hb) h0 h1 hr) hk
theorem qquo  (hk : wkQ P ops restQ N (Fr.put ⟨l, ds⟩ d (.v (.int k (x / y)))) (h)) (hw : wantA ops ⟨l, ds⟩ ⟨d, .binOp .quo t a b t', ty, pos, aft, gd⟩ = true := by rfl) (ha : evS l a = some (.v (.int k x)) := by rfl) (hb : evS l b = some (.v (.int k y)) := by rfl) (h0 : 0 ≤ x := by omega) (h1 : 0 < y := by omega) (hr : k.wrap (x / y) = x / y := by first | exact wrap_i64_in (by omega) (by omega) | exact wrap_u64_in (by omega) (by omega)) : wkQ P ops ((⟨d, .binOp .quo t a b t', ty, pos, aft, gd⟩, zz) :: restQ) N ⟨l, ds⟩ h := q_gL hw (x_quo (e_any ha) (e_any hb) h0 h1 hr) hk
theorem tquo  (hk : wkX P ops X pd N (Fr.put ⟨l, ds⟩ d (.v (.int k (x / y)))) (h)) (hw : wantA ops ⟨l, ds⟩ ⟨d, .binOp .quo t a b t', ty, pos, aft, gd⟩ = true := by rfl) (ha : evS l a = some (.v (.int k x)) := by rfl) (hb : evS l b = some (.v (.int k y)) := by rfl) (h0 : 0 ≤ x := by omega) (h1 : 0 < y := by omega) (hr : k.wrap (x / y) = x / y := by first | exact wrap_i64_in (by omega) (by omega) | exact wrap_u64_in (by omega) (by omega)) (hrd : readsOf ⟨l, ds⟩ (.binOp .quo t a b t') = [] := by rfl) : wkX P ops (.light ⟨d, .binOp .quo t a b t', ty, pos, aft, gd⟩ ii X) pd N ⟨l, ds⟩ h := t_gL hw (x_quo (e_any ha) (e_any hb) h0 h1 hr) hk hrd
theorem uquo  (hk : wkX P ops X pd N (Fr.put ⟨l, ds⟩ d (.v (.int k (x / y)))) (h)) (hw : wantA ops ⟨l, ds⟩ ⟨d, .binOp .quo t a b t', ty, pos, aft, gd⟩ = true := by rfl) (ha : evS l a = some (.v (.int k x)) := by rfl) (hb : evS l b = some (.v (.int k y)) := by rfl) (h0 : 0 ≤ x := by omega) (h1 : 0 < y := by omega) (hr : k.wrap (x / y) = x / y := by first | exact wrap_i64_in (by omega) (by omega) | exact wrap_u64_in (by omega) (by omega)) : wkX P ops (.alt ⟨d, .binOp .quo t a b t', ty, pos, aft, gd⟩ ii gone X .no) pd N ⟨l, ds⟩ h := u_gL hw (x_quo (e_any ha) (e_any hb) h0 h1 hr) hk
theorem sconv  (hk : wkO P ops rest N (Fr.put ⟨l, ds⟩ d (.v (.int k n))) (h)) (hw : wantA ops ⟨l, ds⟩ ⟨d, .convert t t' a, ty, pos, aft, gd⟩ = true := by rfl) (hu : CU P t k1 := by infer_instance) (hu' : CU P t' k := by infer_instance) (ha : evS l a = some (.v (.int k0 n)) := by rfl) (hr : k.wrap n = n := by first | exact wrap_i64_in (by omega) (by omega) | exact wrap_u64_in (by omega) (by omega) | exact wrap_u8_in (by omega) (by omega) | exact wrap_u32_in (by omega) (by omega) | rfl) : wkO P ops (⟨d, .convert t t' a, ty, pos, aft, gd⟩ :: rest) N ⟨l, ds⟩ h := s_gL hw (x_conv hu.p hu'.p (e_any ha) hr) hk
theorem qconv  (hk : wkQ P ops restQ N (Fr.put ⟨l, ds⟩ d (.v (.int k n))) (h)) (hw : wantA ops ⟨l, ds⟩ ⟨d, .convert t t' a, ty, pos, aft, gd⟩ = true := by rfl) (hu : CU P t k1 := by infer_instance) (hu' : CU P t' k := by infer_instance) (ha : evS l a = some (.v (.int k0 n)) := by rfl) (hr : k.wrap n = n := by first | exact wrap_i64_in (by omega) (by omega) | exact wrap_u64_in (by omega) (by omega) | exact wrap_u8_in (by omega) (by omega) | exact wrap_u32_in (by omega) (by omega) | rfl) : wkQ P ops ((⟨d, .convert t t' a, ty, pos, aft, gd⟩, zz) :: restQ) N ⟨l, ds⟩ h := q_gL hw (x_conv hu.p hu'.p (e_any ha) hr) hk
theorem tconv  (hk : wkX P ops X pd N (Fr.put ⟨l, ds⟩ d (.v (.int k n))) (h)) (hw : wantA ops ⟨l, ds⟩ ⟨d, .convert t t' a, ty, pos, aft, gd⟩ = true := by rfl) (hu : CU P t k1 := by infer_instance) (hu' : CU P t' k := by infer_instance) (ha : evS l a = some (.v (.int k0 n)) := by rfl) (hr : k.wrap n = n := by first | exact wrap_i64_in (by omega) (by omega) | exact wrap_u64_in (by omega) (by omega) | exact wrap_u8_in (by omega) (by omega) | exact wrap_u32_in (by omega) (by omega) | rfl) (hrd : readsOf ⟨l, ds⟩ (.convert t t' a) = [] := by rfl) : wkX P ops (.light ⟨d, .convert t t' a, ty, pos, aft, gd⟩ ii X) pd N ⟨l, ds⟩ h := t_gL hw (x_conv hu.p hu'.p (e_any ha) hr) hk hrd
theorem uconv  (hk : wkX P ops X pd N (Fr.put ⟨l, ds⟩ d (.v (.int k n))) (h)) (hw : wantA ops ⟨l, ds⟩ ⟨d, .convert t t' a, ty, pos, aft, gd⟩ = true := by rfl) (hu : CU P t k1 := by infer_instance) (hu' : CU P t' k := by infer_instance) (ha : evS l a = some (.v (.int k0 n)) := by rfl) (hr : k.wrap n = n := by first | exact wrap_i64_in (by omega) (by omega) | exact wrap_u64_in (by omega) (by omega) | exact wrap_u8_in (by omega) (by omega) | exact wrap_u32_in (by omega) (by omega) | rfl) : wkX P ops (.alt ⟨d, .convert t t' a, ty, pos, aft, gd⟩ ii gone X .no) pd N ⟨l, ds⟩ h := u_gL hw (x_conv hu.p hu'.p (e_any ha) hr) hk
theorem sconvM  (hk : wkO P ops rest N (Fr.put ⟨l, ds⟩ d (.v (.int k (k.wrap n)))) (h)) (hw : wantA ops ⟨l, ds⟩ ⟨d, .convert t t' a, ty, pos, aft, gd⟩ = true := by rfl) (hu : CU P t k1 := by infer_instance) (hu' : CU P t' k := by infer_instance) (ha : evS l a = some (.v (.int k0 n)) := by rfl) : wkO P ops (⟨d, .convert t t' a, ty, pos, aft, gd⟩ :: rest) N ⟨l, ds⟩ h := s_gL hw (x_convM hu.p hu'.p (e_any ha)) hk
theorem qconvM  (hk : wkQ P ops restQ N (Fr.put ⟨l, ds⟩ d (.v (.int k (k.wrap n)))) (h)) (hw : wantA ops ⟨l, ds⟩ ⟨d, .convert t t' a, ty, pos, aft, gd⟩ = true := by rfl) (hu : CU P t k1 := by infer_instance) (hu' : CU P t' k := by infer_instance) (ha : evS l a = some (.v (.int k0 n)) := by rfl) : wkQ P ops ((⟨d, .convert t t' a, ty, pos, aft, gd⟩, zz) :: restQ) N ⟨l, ds⟩ h := q_gL hw (x_convM hu.p hu'.p (e_any ha)) hk
theorem tconvM  (hk : wkX P ops X pd N (Fr.put ⟨l, ds⟩ d (.v (.int k (k.wrap n)))) (h)) (hw : wantA ops ⟨l, ds⟩ ⟨d, .convert t t' a, ty, pos, aft, gd⟩ = true := by rfl) (hu : CU P t k1 := by infer_instance) (hu' : CU P t' k := by infer_instance) (ha : evS l a = some (.v (.int k0 n)) := by rfl) (hrd : readsOf ⟨l, ds⟩ (.convert t t' a) = [] := by rfl) : wkX P ops (.light ⟨d, .convert t t' a, ty, pos, aft, gd⟩ ii X) pd N ⟨l, ds⟩ h := t_gL hw (x_convM hu.p hu'.p (e_any ha)) hk hrd
theorem uconvM  (hk : wkX P ops X pd N (Fr.put ⟨l, ds⟩ d (.v (.int k (k.wrap n)))) (h)) (hw : wantA ops ⟨l, ds⟩ ⟨d, .convert t t' a, ty, pos, aft, gd⟩ = true := by rfl) (hu : CU P t k1 := by infer_instance) (hu' : CU P t' k := by infer_instance) (ha : evS l a = some (.v (.int k0 n)) := by rfl) : wkX P ops (.alt ⟨d, .convert t t' a, ty, pos, aft, gd⟩ ii gone X .no) pd N ⟨l, ds⟩ h := u_gL hw (x_convM hu.p hu'.p (e_any ha)) hk
theorem sshr1  (hk : wkO P ops rest N (Fr.put ⟨l, ds⟩ d (.v (.int k (x / 2 ^ 1)))) (h)) (hw : wantA ops ⟨l, ds⟩ ⟨d, .binOp .shr t a b t', ty, pos, aft, gd⟩ = true := by rfl) (ha : evS l a = some (.v (.int k x)) := by rfl) (hb : evS l b = some (.v (.int k1 1)) := by rfl) (h0 : 0 ≤ x := by omega) : wkO P ops (⟨d, .binOp .shr t a b t', ty, pos, aft, gd⟩ :: rest) N ⟨l, ds⟩ h := s_gL hw (x_shr (m := 1) (e_any ha) (e_any hb) rfl (by cases k <;> decide) h0) hk
theorem qshr1  (hk : wkQ P ops restQ N (Fr.put ⟨l, ds⟩ d (.v (.int k (x / 2 ^ 1)))) (h)) (hw : wantA ops ⟨l, ds⟩ ⟨d, .binOp .shr t a b t', ty, pos, aft, gd⟩ = true := by rfl) (ha : evS l a = some (.v (.int k x)) := by rfl) (hb : evS l b = some (.v (.int k1 1)) := by rfl) (h0 : 0 ≤ x := by omega) : wkQ P ops ((⟨d, .binOp .shr t a b t', ty, pos, aft, gd⟩, zz) :: restQ) N ⟨l, ds⟩ h := q_gL hw (x_shr (m := 1) (e_any ha) (e_any hb) rfl (by cases k <;> decide) h0) hk
theorem tshr1  (hk : wkX P ops X pd N (Fr.put ⟨l, ds⟩ d (.v (.int k (x / 2 ^ 1)))) (h)) (hw : wantA ops ⟨l, ds⟩ ⟨d, .binOp .shr t a b t', ty, pos, aft, gd⟩ = true := by rfl) (ha : evS l a = some (.v (.int k x)) := by rfl) (hb : evS l b = some (.v (.int k1 1)) := by rfl) (h0 : 0 ≤ x := by omega) (hrd : readsOf ⟨l, ds⟩ (.binOp .shr t a b t') = [] := by rfl) : wkX P ops (.light ⟨d, .binOp .shr t a b t', ty, pos, aft, gd⟩ ii X) pd N ⟨l, ds⟩ h := t_gL hw (x_shr (m := 1) (e_any ha) (e_any hb) rfl (by cases k <;> decide) h0) hk hrd
theorem ushr1  (hk : wkX P ops X pd N (Fr.put ⟨l, ds⟩ d (.v (.int k (x / 2 ^ 1)))) (h)) (hw : wantA ops ⟨l, ds⟩ ⟨d, .binOp .shr t a b t', ty, pos, aft, gd⟩ = true := by rfl) (ha : evS l a = some (.v (.int k x)) := by rfl) (hb : evS l b = some (.v (.int k1 1)) := by rfl) (h0 : 0 ≤ x := by omega) : wkX P ops (.alt ⟨d, .binOp .shr t a b t', ty, pos, aft, gd⟩ ii gone X .no) pd N ⟨l, ds⟩ h := u_gL hw (x_shr (m := 1) (e_any ha) (e_any hb) rfl (by cases k <;> decide) h0) hk
theorem sshr {y : Int} (hk : wkO P ops rest N (Fr.put ⟨l, ds⟩ d (.v (.int k (x / 2 ^ m)))) (h)) (hw : wantA ops ⟨l, ds⟩ ⟨d, .binOp .shr t a b t', ty, pos, aft, gd⟩ = true := by rfl) (ha : evS l a = some (.v (.int k x)) := by rfl) (hb : evS l b = some (.v (.int k1 y)) := by rfl) (hy : y = (m : Int) := by first | rfl | exact (Int.toNat_of_nonneg (by omega)).symm) (hm : m ≤ k.bits := by first | decide | (show _ ≤ 64; omega)) (h0 : 0 ≤ x := by omega) : wkO P ops (⟨d, .binOp .shr t a b t', ty, pos, aft, gd⟩ :: rest) N ⟨l, ds⟩ h := s_gL hw (x_shr (e_any ha) (e_any hb) hy hm h0) hk
theorem qshr {y : Int} (hk : wkQ P ops restQ N (Fr.put ⟨l, ds⟩ d (.v (.int k (x / 2 ^ m)))) (h)) (hw : wantA ops ⟨l, ds⟩ ⟨d, .binOp .shr t a b t', ty, pos, aft, gd⟩ = true := by rfl) (ha : evS l a = some (.v (.int k x)) := by rfl) (hb : evS l b = some (.v (.int k1 y)) := by rfl) (hy : y = (m : Int) := by first | rfl | exact (Int.toNat_of_nonneg (by omega)).symm) (hm : m ≤ k.bits := by first | decide | (show _ ≤ 64; omega)) (h0 : 0 ≤ x := by omega) : wkQ P ops ((⟨d, .binOp .shr t a b t', ty, pos, aft, gd⟩, zz) :: restQ) N ⟨l, ds⟩ h := q_gL hw (x_shr (e_any ha) (e_any hb) hy hm h0) hk
theorem tshr {y : Int} (hk : wkX P ops X pd N (Fr.put ⟨l, ds⟩ d (.v (.int k (x / 2 ^ m)))) (h)) (hw : wantA ops ⟨l, ds⟩ ⟨d, .binOp .shr t a b t', ty, pos, aft, gd⟩ = true := by rfl) (ha : evS l a = some (.v (.int k x)) := by rfl) (hb : evS l b = some (.v (.int k1 y)) := by rfl) (hy : y = (m : Int) := by first | rfl | exact (Int.toNat_of_nonneg (by omega)).symm) (hm : m ≤ k.bits := by first | decide | (show _ ≤ 64; omega)) (h0 : 0 ≤ x := by omega) (hrd : readsOf ⟨l, ds⟩ (.binOp .shr t a b t') = [] := by rfl) : wkX P ops (.light ⟨d, .binOp .shr t a b t', ty, pos, aft, gd⟩ ii X) pd N ⟨l, ds⟩ h := t_gL hw (x_shr (e_any ha) (e_any hb) hy hm h0) hk hrd
theorem ushr {y : Int} (hk : wkX P ops X pd N (Fr.put ⟨l, ds⟩ d (.v (.int k (x / 2 ^ m)))) (h)) (hw : wantA ops ⟨l, ds⟩ ⟨d, .binOp .shr t a b t', ty, pos, aft, gd⟩ = true := by rfl) (ha : evS l a = some (.v (.int k x)) := by rfl) (hb : evS l b = some (.v (.int k1 y)) := by rfl) (hy : y = (m : Int) := by first | rfl | exact (Int.toNat_of_nonneg (by omega)).symm) (hm : m ≤ k.bits := by first | decide | (show _ ≤ 64; omega)) (h0 : 0 ≤ x := by omega) : wkX P ops (.alt ⟨d, .binOp .shr t a b t', ty, pos, aft, gd⟩ ii gone X .no) pd N ⟨l, ds⟩ h := u_gL hw (x_shr (e_any ha) (e_any hb) hy hm h0) hk
theorem sshl1  (hk : wkO P ops rest N (Fr.put ⟨l, ds⟩ d (.v (.int .i64 (2 ^ m)))) (h)) (hw : wantA ops ⟨l, ds⟩ ⟨d, .binOp .shl t a b t', ty, pos, aft, gd⟩ = true := by rfl) (ha : evS l a = some (.v (.int .i64 1)) := by rfl) (hb : evS l b = some (.v (.int k1 y)) := by rfl) (hy : y = (m : Int) := by first | rfl | exact (Int.toNat_of_nonneg (by omega)).symm) (hm : m ≤ 62 := by omega) : wkO P ops (⟨d, .binOp .shl t a b t', ty, pos, aft, gd⟩ :: rest) N ⟨l, ds⟩ h := s_gL hw (x_shl1 (e_any ha) (e_any hb) hy hm) hk
theorem qshl1  (hk : wkQ P ops restQ N (Fr.put ⟨l, ds⟩ d (.v (.int .i64 (2 ^ m)))) (h)) (hw : wantA ops ⟨l, ds⟩ ⟨d, .binOp .shl t a b t', ty, pos, aft, gd⟩ = true := by rfl) (ha : evS l a = some (.v (.int .i64 1)) := by rfl) (hb : evS l b = some (.v (.int k1 y)) := by rfl) (hy : y = (m : Int) := by first | rfl | exact (Int.toNat_of_nonneg (by omega)).symm) (hm : m ≤ 62 := by omega) : wkQ P ops ((⟨d, .binOp .shl t a b t', ty, pos, aft, gd⟩, zz) :: restQ) N ⟨l, ds⟩ h := q_gL hw (x_shl1 (e_any ha) (e_any hb) hy hm) hk
theorem tshl1  (hk : wkX P ops X pd N (Fr.put ⟨l, ds⟩ d (.v (.int .i64 (2 ^ m)))) (h)) (hw : wantA ops ⟨l, ds⟩ ⟨d, .binOp .shl t a b t', ty, pos, aft, gd⟩ = true := by rfl) (ha : evS l a = some (.v (.int .i64 1)) := by rfl) (hb : evS l b = some (.v (.int k1 y)) := by rfl) (hy : y = (m : Int) := by first | rfl | exact (Int.toNat_of_nonneg (by omega)).symm) (hm : m ≤ 62 := by omega) (hrd : readsOf ⟨l, ds⟩ (.binOp .shl t a b t') = [] := by rfl) : wkX P ops (.light ⟨d, .binOp .shl t a b t', ty, pos, aft, gd⟩ ii X) pd N ⟨l, ds⟩ h := t_gL hw (x_shl1 (e_any ha) (e_any hb) hy hm) hk hrd
theorem ushl1  (hk : wkX P ops X pd N (Fr.put ⟨l, ds⟩ d (.v (.int .i64 (2 ^ m)))) (h)) (hw : wantA ops ⟨l, ds⟩ ⟨d, .binOp .shl t a b t', ty, pos, aft, gd⟩ = true := by rfl) (ha : evS l a = some (.v (.int .i64 1)) := by rfl) (hb : evS l b = some (.v (.int k1 y)) := by rfl) (hy : y = (m : Int) := by first | rfl | exact (Int.toNat_of_nonneg (by omega)).symm) (hm : m ≤ 62 := by omega) : wkX P ops (.alt ⟨d, .binOp .shl t a b t', ty, pos, aft, gd⟩ ii gone X .no) pd N ⟨l, ds⟩ h := u_gL hw (x_shl1 (e_any ha) (e_any hb) hy hm) hk
theorem sshl {y : Int} (hk : wkO P ops rest N (Fr.put ⟨l, ds⟩ d (.v (.int k (x * 2 ^ m)))) (h)) (hw : wantA ops ⟨l, ds⟩ ⟨d, .binOp .shl t a b t', ty, pos, aft, gd⟩ = true := by rfl) (ha : evS l a = some (.v (.int k x)) := by rfl) (hb : evS l b = some (.v (.int k1 y)) := by rfl) (hy : y = (m : Int) := by first | rfl | exact (Int.toNat_of_nonneg (by omega)).symm) (hm : m ≤ k.bits := by first | decide | (show _ ≤ 64; omega)) (hr : k.wrap (x * 2 ^ m) = x * 2 ^ m := by (try simp only [Int.reducePow]); first | exact wrap_i64_in (by omega) (by omega) | exact wrap_u64_in (by omega) (by omega) | exact wrap_u8_in (by omega) (by omega) | exact wrap_u32_in (by omega) (by omega) | rfl) : wkO P ops (⟨d, .binOp .shl t a b t', ty, pos, aft, gd⟩ :: rest) N ⟨l, ds⟩ h := s_gL hw (x_shl (e_any ha) (e_any hb) hy hm hr) hk
theorem qshl {y : Int} (hk : wkQ P ops restQ N (Fr.put ⟨l, ds⟩ d (.v (.int k (x * 2 ^ m)))) (h)) (hw : wantA ops ⟨l, ds⟩ ⟨d, .binOp .shl t a b t', ty, pos, aft, gd⟩ = true := by rfl) (ha : evS l a = some (.v (.int k x)) := by rfl) (hb : evS l b = some (.v (.int k1 y)) := by rfl) (hy : y = (m : Int) := by first | rfl | exact (Int.toNat_of_nonneg (by omega)).symm) (hm : m ≤ k.bits := by first | decide | (show _ ≤ 64; omega)) (hr : k.wrap (x * 2 ^ m) = x * 2 ^ m := by (try simp only [Int.reducePow]); first | exact wrap_i64_in (by omega) (by omega) | exact wrap_u64_in (by omega) (by omega) | exact wrap_u8_in (by omega) (by omega) | exact wrap_u32_in (by omega) (by omega) | rfl) : wkQ P ops ((⟨d, .binOp .shl t a b t', ty, pos, aft, gd⟩, zz) :: restQ) N ⟨l, ds⟩ h := q_gL hw (x_shl (e_any ha) (e_any hb) hy hm hr) hk
theorem tshl {y : Int} (hk : wkX P ops X pd N (Fr.put ⟨l, ds⟩ d (.v (.int k (x * 2 ^ m)))) (h)) (hw : wantA ops ⟨l, ds⟩ ⟨d, .binOp .shl t a b t', ty, pos, aft, gd⟩ = true := by rfl) (ha : evS l a = some (.v (.int k x)) := by rfl) (hb : evS l b = some (.v (.int k1 y)) := by rfl) (hy : y = (m : Int) := by first | rfl | exact (Int.toNat_of_nonneg (by omega)).symm) (hm : m ≤ k.bits := by first | decide | (show _ ≤ 64; omega)) (hr : k.wrap (x * 2 ^ m) = x * 2 ^ m := by (try simp only [Int.reducePow]); first | exact wrap_i64_in (by omega) (by omega) | exact wrap_u64_in (by omega) (by omega) | exact wrap_u8_in (by omega) (by omega) | exact wrap_u32_in (by omega) (by omega) | rfl) (hrd : readsOf ⟨l, ds⟩ (.binOp .shl t a b t') = [] := by rfl) : wkX P ops (.light ⟨d, .binOp .shl t a b t', ty, pos, aft, gd⟩ ii X) pd N ⟨l, ds⟩ h := t_gL hw (x_shl (e_any ha) (e_any hb) hy hm hr) hk hrd
theorem ushl {y : Int} (hk : wkX P ops X pd N (Fr.put ⟨l, ds⟩ d (.v (.int k (x * 2 ^ m)))) (h)) (hw : wantA ops ⟨l, ds⟩ ⟨d, .binOp .shl t a b t', ty, pos, aft, gd⟩ = true := by rfl) (ha : evS l a = some (.v (.int k x)) := by rfl) (hb : evS l b = some (.v (.int k1 y)) := by rfl) (hy : y = (m : Int) := by first | rfl | exact (Int.toNat_of_nonneg (by omega)).symm) (hm : m ≤ k.bits := by first | decide | (show _ ≤ 64; omega)) (hr : k.wrap (x * 2 ^ m) = x * 2 ^ m := by (try simp only [Int.reducePow]); first | exact wrap_i64_in (by omega) (by omega) | exact wrap_u64_in (by omega) (by omega) | exact wrap_u8_in (by omega) (by omega) | exact wrap_u32_in (by omega) (by omega) | rfl) : wkX P ops (.alt ⟨d, .binOp .shl t a b t', ty, pos, aft, gd⟩ ii gone X .no) pd N ⟨l, ds⟩ h := u_gL hw (x_shl (e_any ha) (e_any hb) hy hm hr) hk
theorem sor  (hk : wkO P ops rest N (Fr.put ⟨l, ds⟩ d (.v (.int k (orI k x y)))) (h)) (hw : wantA ops ⟨l, ds⟩ ⟨d, .binOp .or t a b t', ty, pos, aft, gd⟩ = true := by rfl) (ha : evS l a = some (.v (.int k x)) := by rfl) (hb : evS l b = some (.v (.int k y)) := by rfl) : wkO P ops (⟨d, .binOp .or t a b t', ty, pos, aft, gd⟩ :: rest) N ⟨l, ds⟩ h := s_gL hw (x_or (e_any ha) (e_any hb)) hk
theorem qor  (hk : wkQ P ops restQ N (Fr.put ⟨l, ds⟩ d (.v (.int k (orI k x y)))) (h)) (hw : wantA ops ⟨l, ds⟩ ⟨d, .binOp .or t a b t', ty, pos, aft, gd⟩ = true := by rfl) (ha : evS l a = some (.v (.int k x)) := by rfl) (hb : evS l b = some (.v (.int k y)) := by rfl) : wkQ P ops ((⟨d, .binOp .or t a b t', ty, pos, aft, gd⟩, zz) :: restQ) N ⟨l, ds⟩ h := q_gL hw (x_or (e_any ha) (e_any hb)) hk
theorem tor  (hk : wkX P ops X pd N (Fr.put ⟨l, ds⟩ d (.v (.int k (orI k x y)))) (h)) (hw : wantA ops ⟨l, ds⟩ ⟨d, .binOp .or t a b t', ty, pos, aft, gd⟩ = true := by rfl) (ha : evS l a = some (.v (.int k x)) := by rfl) (hb : evS l b = some (.v (.int k y)) := by rfl) (hrd : readsOf ⟨l, ds⟩ (.binOp .or t a b t') = [] := by rfl) : wkX P ops (.light ⟨d, .binOp .or t a b t', ty, pos, aft, gd⟩ ii X) pd N ⟨l, ds⟩ h := t_gL hw (x_or (e_any ha) (e_any hb)) hk hrd
theorem uor  (hk : wkX P ops X pd N (Fr.put ⟨l, ds⟩ d (.v (.int k (orI k x y)))) (h)) (hw : wantA ops ⟨l, ds⟩ ⟨d, .binOp .or t a b t', ty, pos, aft, gd⟩ = true := by rfl) (ha : evS l a = some (.v (.int k x)) := by rfl) (hb : evS l b = some (.v (.int k y)) := by rfl) : wkX P ops (.alt ⟨d, .binOp .or t a b t', ty, pos, aft, gd⟩ ii gone X .no) pd N ⟨l, ds⟩ h := u_gL hw (x_or (e_any ha) (e_any hb)) hk
theorem sand  (hk : wkO P ops rest N (Fr.put ⟨l, ds⟩ d (.v (.int k (andI k x y)))) (h)) (hw : wantA ops ⟨l, ds⟩ ⟨d, .binOp .and t a b t', ty, pos, aft, gd⟩ = true := by rfl) (ha : evS l a = some (.v (.int k x)) := by rfl) (hb : evS l b = some (.v (.int k y)) := by rfl) : wkO P ops (⟨d, .binOp .and t a b t', ty, pos, aft, gd⟩ :: rest) N ⟨l, ds⟩ h := s_gL hw (x_and (e_any ha) (e_any hb)) hk
theorem qand  (hk : wkQ P ops restQ N (Fr.put ⟨l, ds⟩ d (.v (.int k (andI k x y)))) (h)) (hw : wantA ops ⟨l, ds⟩ ⟨d, .binOp .and t a b t', ty, pos, aft, gd⟩ = true := by rfl) (ha : evS l a = some (.v (.int k x)) := by rfl) (hb : evS l b = some (.v (.int k y)) := by rfl) : wkQ P ops ((⟨d, .binOp .and t a b t', ty, pos, aft, gd⟩, zz) :: restQ) N ⟨l, ds⟩ h := q_gL hw (x_and (e_any ha) (e_any hb)) hk
theorem tand  (hk : wkX P ops X pd N (Fr.put ⟨l, ds⟩ d (.v (.int k (andI k x y)))) (h)) (hw : wantA ops ⟨l, ds⟩ ⟨d, .binOp .and t a b t', ty, pos, aft, gd⟩ = true := by rfl) (ha : evS l a = some (.v (.int k x)) := by rfl) (hb : evS l b = some (.v (.int k y)) := by rfl) (hrd : readsOf ⟨l, ds⟩ (.binOp .and t a b t') = [] := by rfl) : wkX P ops (.light ⟨d, .binOp .and t a b t', ty, pos, aft, gd⟩ ii X) pd N ⟨l, ds⟩ h := t_gL hw (x_and (e_any ha) (e_any hb)) hk hrd
theorem uand  (hk : wkX P ops X pd N (Fr.put ⟨l, ds⟩ d (.v (.int k (andI k x y)))) (h)) (hw : wantA ops ⟨l, ds⟩ ⟨d, .binOp .and t a b t', ty, pos, aft, gd⟩ = true := by rfl) (ha : evS l a = some (.v (.int k x)) := by rfl) (hb : evS l b = some (.v (.int k y)) := by rfl) : wkX P ops (.alt ⟨d, .binOp .and t a b t', ty, pos, aft, gd⟩ ii gone X .no) pd N ⟨l, ds⟩ h := u_gL hw (x_and (e_any ha) (e_any hb)) hk
theorem sxor  (hk : wkO P ops rest N (Fr.put ⟨l, ds⟩ d (.v (.int k (xorI k x y)))) (h)) (hw : wantA ops ⟨l, ds⟩ ⟨d, .binOp .xor t a b t', ty, pos, aft, gd⟩ = true := by rfl) (ha : evS l a = some (.v (.int k x)) := by rfl) (hb : evS l b = some (.v (.int k y)) := by rfl) : wkO P ops (⟨d, .binOp .xor t a b t', ty, pos, aft, gd⟩ :: rest) N ⟨l, ds⟩ h := s_gL hw (x_xor (e_any ha) (e_any hb)) hk
theorem qxor  (hk : wkQ P ops restQ N (Fr.put ⟨l, ds⟩ d (.v (.int k (xorI k x y)))) (h)) (hw : wantA ops ⟨l, ds⟩ ⟨d, .binOp .xor t a b t', ty, pos, aft, gd⟩ = true := by rfl) (ha : evS l a = some (.v (.int k x)) := by rfl) (hb : evS l b = some (.v (.int k y)) := by rfl) : wkQ P ops ((⟨d, .binOp .xor t a b t', ty, pos, aft, gd⟩, zz) :: restQ) N ⟨l, ds⟩ h := q_gL hw (x_xor (e_any ha) (e_any hb)) hk
theorem txor  (hk : wkX P ops X pd N (Fr.put ⟨l, ds⟩ d (.v (.int k (xorI k x y)))) (h)) (hw : wantA ops ⟨l, ds⟩ ⟨d, .binOp .xor t a b t', ty, pos, aft, gd⟩ = true := by rfl) (ha : evS l a = some (.v (.int k x)) := by rfl) (hb : evS l b = some (.v (.int k y)) := by rfl) (hrd : readsOf ⟨l, ds⟩ (.binOp .xor t a b t') = [] := by rfl) : wkX P ops (.light ⟨d, .binOp .xor t a b t', ty, pos, aft, gd⟩ ii X) pd N ⟨l, ds⟩ h := t_gL hw (x_xor (e_any ha) (e_any hb)) hk hrd
theorem uxor  (hk : wkX P ops X pd N (Fr.put ⟨l, ds⟩ d (.v (.int k (xorI k x y)))) (h)) (hw : wantA ops ⟨l, ds⟩ ⟨d, .binOp .xor t a b t', ty, pos, aft, gd⟩ = true := by rfl) (ha : evS l a = some (.v (.int k x)) := by rfl) (hb : evS l b = some (.v (.int k y)) := by rfl) : wkX P ops (.alt ⟨d, .binOp .xor t a b t', ty, pos, aft, gd⟩ ii gone X .no) pd N ⟨l, ds⟩ h := u_gL hw (x_xor (e_any ha) (e_any hb)) hk
theorem sandn  (hk : wkO P ops rest N (Fr.put ⟨l, ds⟩ d (.v (.int k (andnI k x y)))) (h)) (hw : wantA ops ⟨l, ds⟩ ⟨d, .binOp .andNot t a b t', ty, pos, aft, gd⟩ = true := by rfl) (ha : evS l a = some (.v (.int k x)) := by rfl) (hb : evS l b = some (.v (.int k y)) := by rfl) : wkO P ops (⟨d, .binOp .andNot t a b t', ty, pos, aft, gd⟩ :: rest) N ⟨l, ds⟩ h := s_gL hw (x_andn (e_any ha) (e_any hb)) hk
theorem qandn  (hk : wkQ P ops restQ N (Fr.put ⟨l, ds⟩ d (.v (.int k (andnI k x y)))) (h)) (hw : wantA ops ⟨l, ds⟩ ⟨d, .binOp .andNot t a b t', ty, pos, aft, gd⟩ = true := by rfl) (ha : evS l a = some (.v (.int k x)) := by rfl) (hb : evS l b = some (.v (.int k y)) := by rfl) : wkQ P ops ((⟨d, .binOp .andNot t a b t', ty, pos, aft, gd⟩, zz) :: restQ) N ⟨l, ds⟩ h := q_gL hw (x_andn (e_any ha) (e_any hb)) hk
theorem tandn  (hk : wkX P ops X pd N (Fr.put ⟨l, ds⟩ d (.v (.int k (andnI k x y)))) (h)) (hw : wantA ops ⟨l, ds⟩ ⟨d, .binOp .andNot t a b t', ty, pos, aft, gd⟩ = true := by rfl) (ha : evS l a = some (.v (.int k x)) := by rfl) (hb : evS l b = some (.v (.int k y)) := by rfl) (hrd : readsOf ⟨l, ds⟩ (.binOp .andNot t a b t') = [] := by rfl) : wkX P ops (.light ⟨d, .binOp .andNot t a b t', ty, pos, aft, gd⟩ ii X) pd N ⟨l, ds⟩ h := t_gL hw (x_andn (e_any ha) (e_any hb)) hk hrd
theorem uandn  (hk : wkX P ops X pd N (Fr.put ⟨l, ds⟩ d (.v (.int k (andnI k x y)))) (h)) (hw : wantA ops ⟨l, ds⟩ ⟨d, .binOp .andNot t a b t', ty, pos, aft, gd⟩ = true := by rfl) (ha : evS l a = some (.v (.int k x)) := by rfl) (hb : evS l b = some (.v (.int k y)) := by rfl) : wkX P ops (.alt ⟨d, .binOp .andNot t a b t', ty, pos, aft, gd⟩ ii gone X .no) pd N ⟨l, ds⟩ h := u_gL hw (x_andn (e_any ha) (e_any hb)) hk
theorem sconvB  (hk : wkO P ops rest N (Fr.put ⟨l, ds⟩ d (U8 (b8 n))) (h)) (hw : wantA ops ⟨l, ds⟩ ⟨d, .convert t t' a, ty, pos, aft, gd⟩ = true := by rfl) (hu : CU P t k1 := by infer_instance) (hu' : CU P t' .u8 := by infer_instance) (ha : evS l a = some (.v (.int k0 n)) := by rfl) : wkO P ops (⟨d, .convert t t' a, ty, pos, aft, gd⟩ :: rest) N ⟨l, ds⟩ h := s_gL hw (x_convB hu.p hu'.p (e_any ha)) hk
theorem qconvB  (hk : wkQ P ops restQ N (Fr.put ⟨l, ds⟩ d (U8 (b8 n))) (h)) (hw : wantA ops ⟨l, ds⟩ ⟨d, .convert t t' a, ty, pos, aft, gd⟩ = true := by rfl) (hu : CU P t k1 := by infer_instance) (hu' : CU P t' .u8 := by infer_instance) (ha : evS l a = some (.v (.int k0 n)) := by rfl) : wkQ P ops ((⟨d, .convert t t' a, ty, pos, aft, gd⟩, zz) :: restQ) N ⟨l, ds⟩ h := q_gL hw (x_convB hu.p hu'.p (e_any ha)) hk
theorem tconvB  (hk : wkX P ops X pd N (Fr.put ⟨l, ds⟩ d (U8 (b8 n))) (h)) (hw : wantA ops ⟨l, ds⟩ ⟨d, .convert t t' a, ty, pos, aft, gd⟩ = true := by rfl) (hu : CU P t k1 := by infer_instance) (hu' : CU P t' .u8 := by infer_instance) (ha : evS l a = some (.v (.int k0 n)) := by rfl) (hrd : readsOf ⟨l, ds⟩ (.convert t t' a) = [] := by rfl) : wkX P ops (.light ⟨d, .convert t t' a, ty, pos, aft, gd⟩ ii X) pd N ⟨l, ds⟩ h := t_gL hw (x_convB hu.p hu'.p (e_any ha)) hk hrd
theorem uconvB  (hk : wkX P ops X pd N (Fr.put ⟨l, ds⟩ d (U8 (b8 n))) (h)) (hw : wantA ops ⟨l, ds⟩ ⟨d, .convert t t' a, ty, pos, aft, gd⟩ = true := by rfl) (hu : CU P t k1 := by infer_instance) (hu' : CU P t' .u8 := by infer_instance) (ha : evS l a = some (.v (.int k0 n)) := by rfl) : wkX P ops (.alt ⟨d, .convert t t' a, ty, pos, aft, gd⟩ ii gone X .no) pd N ⟨l, ds⟩ h := u_gL hw (x_convB hu.p hu'.p (e_any ha)) hk
theorem sfunc0 {fn : Fn} (hk : wkO P ops rest N (Fr.put ⟨l, ds⟩ d (.fn fn [])) (h)) (hw : wantA ops ⟨l, ds⟩ ⟨d, .makeFunc fn #[] #[], ty, pos, aft, gd⟩ = true := by rfl)  : wkO P ops (⟨d, .makeFunc fn #[] #[], ty, pos, aft, gd⟩ :: rest) N ⟨l, ds⟩ h := s_gL hw (x_func (by rfl)) hk
theorem qfunc0 {fn : Fn} (hk : wkQ P ops restQ N (Fr.put ⟨l, ds⟩ d (.fn fn [])) (h)) (hw : wantA ops ⟨l, ds⟩ ⟨d, .makeFunc fn #[] #[], ty, pos, aft, gd⟩ = true := by rfl)  : wkQ P ops ((⟨d, .makeFunc fn #[] #[], ty, pos, aft, gd⟩, zz) :: restQ) N ⟨l, ds⟩ h := q_gL hw (x_func (by rfl)) hk
theorem tfunc0 {fn : Fn} (hk : wkX P ops X pd N (Fr.put ⟨l, ds⟩ d (.fn fn [])) (h)) (hw : wantA ops ⟨l, ds⟩ ⟨d, .makeFunc fn #[] #[], ty, pos, aft, gd⟩ = true := by rfl)  (hrd : readsOf ⟨l, ds⟩ (.makeFunc fn #[] #[]) = [] := by rfl) : wkX P ops (.light ⟨d, .makeFunc fn #[] #[], ty, pos, aft, gd⟩ ii X) pd N ⟨l, ds⟩ h := t_gL hw (x_func (by rfl)) hk hrd
theorem ufunc0 {fn : Fn} (hk : wkX P ops X pd N (Fr.put ⟨l, ds⟩ d (.fn fn [])) (h)) (hw : wantA ops ⟨l, ds⟩ ⟨d, .makeFunc fn #[] #[], ty, pos, aft, gd⟩ = true := by rfl)  : wkX P ops (.alt ⟨d, .makeFunc fn #[] #[], ty, pos, aft, gd⟩ ii gone X .no) pd N ⟨l, ds⟩ h := u_gL hw (x_func (by rfl)) hk
theorem sfunc1 {fn : Fn} {v1 : AV} (hk : wkO P ops rest N (Fr.put ⟨l, ds⟩ d (.fn fn [v1])) (h)) (hw : wantA ops ⟨l, ds⟩ ⟨d, .makeFunc fn #[] #[a], ty, pos, aft, gd⟩ = true := by rfl) (ha : evS l a = some (v1) := by rfl) : wkO P ops (⟨d, .makeFunc fn #[] #[a], ty, pos, aft, gd⟩ :: rest) N ⟨l, ds⟩ h := s_gL hw (x_func1 (e_any ha)) hk
theorem qfunc1 {fn : Fn} {v1 : AV} (hk : wkQ P ops restQ N (Fr.put ⟨l, ds⟩ d (.fn fn [v1])) (h)) (hw : wantA ops ⟨l, ds⟩ ⟨d, .makeFunc fn #[] #[a], ty, pos, aft, gd⟩ = true := by rfl) (ha : evS l a = some (v1) := by rfl) : wkQ P ops ((⟨d, .makeFunc fn #[] #[a], ty, pos, aft, gd⟩, zz) :: restQ) N ⟨l, ds⟩ h := q_gL hw (x_func1 (e_any ha)) hk
theorem tfunc1 {fn : Fn} {v1 : AV} (hk : wkX P ops X pd N (Fr.put ⟨l, ds⟩ d (.fn fn [v1])) (h)) (hw : wantA ops ⟨l, ds⟩ ⟨d, .makeFunc fn #[] #[a], ty, pos, aft, gd⟩ = true := by rfl) (ha : evS l a = some (v1) := by rfl) (hrd : readsOf ⟨l, ds⟩ (.makeFunc fn #[] #[a]) = [] := by rfl) : wkX P ops (.light ⟨d, .makeFunc fn #[] #[a], ty, pos, aft, gd⟩ ii X) pd N ⟨l, ds⟩ h := t_gL hw (x_func1 (e_any ha)) hk hrd
theorem ufunc1 {fn : Fn} {v1 : AV} (hk : wkX P ops X pd N (Fr.put ⟨l, ds⟩ d (.fn fn [v1])) (h)) (hw : wantA ops ⟨l, ds⟩ ⟨d, .makeFunc fn #[] #[a], ty, pos, aft, gd⟩ = true := by rfl) (ha : evS l a = some (v1) := by rfl) : wkX P ops (.alt ⟨d, .makeFunc fn #[] #[a], ty, pos, aft, gd⟩ ii gone X .no) pd N ⟨l, ds⟩ h := u_gL hw (x_func1 (e_any ha)) hk
theorem sfunc2 {fn : Fn} {v1 v2 : AV} (hk : wkO P ops rest N (Fr.put ⟨l, ds⟩ d (.fn fn [v1, v2])) (h)) (hw : wantA ops ⟨l, ds⟩ ⟨d, .makeFunc fn #[] #[a, b], ty, pos, aft, gd⟩ = true := by rfl) (ha : evS l a = some (v1) := by rfl) (hb : evS l b = some (v2) := by rfl) : wkO P ops (⟨d, .makeFunc fn #[] #[a, b], ty, pos, aft, gd⟩ :: rest) N ⟨l, ds⟩ h := s_gL hw (x_func2 (e_any ha) (e_any hb)) hk
theorem qfunc2 {fn : Fn} {v1 v2 : AV} (hk : wkQ P ops restQ N (Fr.put ⟨l, ds⟩ d (.fn fn [v1, v2])) (h)) (hw : wantA ops ⟨l, ds⟩ ⟨d, .makeFunc fn #[] #[a, b], ty, pos, aft, gd⟩ = true := by rfl) (ha : evS l a = some (v1) := by rfl) (hb : evS l b = some (v2) := by rfl) : wkQ P ops ((⟨d, .makeFunc fn #[] #[a, b], ty, pos, aft, gd⟩, zz) :: restQ) N ⟨l, ds⟩ h := q_gL hw (x_func2 (e_any ha) (e_any hb)) hk
theorem tfunc2 {fn : Fn} {v1 v2 : AV} (hk : wkX P ops X pd N (Fr.put ⟨l, ds⟩ d (.fn fn [v1, v2])) (h)) (hw : wantA ops ⟨l, ds⟩ ⟨d, .makeFunc fn #[] #[a, b], ty, pos, aft, gd⟩ = true := by rfl) (ha : evS l a = some (v1) := by rfl) (hb : evS l b = some (v2) := by rfl) (hrd : readsOf ⟨l, ds⟩ (.makeFunc fn #[] #[a, b]) = [] := by rfl) : wkX P ops (.light ⟨d, .makeFunc fn #[] #[a, b], ty, pos, aft, gd⟩ ii X) pd N ⟨l, ds⟩ h := t_gL hw (x_func2 (e_any ha) (e_any hb)) hk hrd
theorem ufunc2 {fn : Fn} {v1 v2 : AV} (hk : wkX P ops X pd N (Fr.put ⟨l, ds⟩ d (.fn fn [v1, v2])) (h)) (hw : wantA ops ⟨l, ds⟩ ⟨d, .makeFunc fn #[] #[a, b], ty, pos, aft, gd⟩ = true := by rfl) (ha : evS l a = some (v1) := by rfl) (hb : evS l b = some (v2) := by rfl) : wkX P ops (.alt ⟨d, .makeFunc fn #[] #[a, b], ty, pos, aft, gd⟩ ii gone X .no) pd N ⟨l, ds⟩ h := u_gL hw (x_func2 (e_any ha) (e_any hb)) hk
theorem sfunc3 {fn : Fn} {v1 v2 v3 : AV} (hk : wkO P ops rest N (Fr.put ⟨l, ds⟩ d (.fn fn [v1, v2, v3])) (h)) (hw : wantA ops ⟨l, ds⟩ ⟨d, .makeFunc fn #[] #[a, b, c], ty, pos, aft, gd⟩ = true := by rfl) (ha : evS l a = some (v1) := by rfl) (hb : evS l b = some (v2) := by rfl) (hc : evS l c = some (v3) := by rfl) : wkO P ops (⟨d, .makeFunc fn #[] #[a, b, c], ty, pos, aft, gd⟩ :: rest) N ⟨l, ds⟩ h := s_gL hw (x_func3 (e_any ha) (e_any hb) (e_any hc)) hk
theorem qfunc3 {fn : Fn} {v1 v2 v3 : AV} (hk : wkQ P ops restQ N (Fr.put ⟨l, ds⟩ d (.fn fn [v1, v2, v3])) (h)) (hw : wantA ops ⟨l, ds⟩ ⟨d, .makeFunc fn #[] #[a, b, c], ty, pos, aft, gd⟩ = true := by rfl) (ha : evS l a = some (v1) := by rfl) (hb : evS l b = some (v2) := by rfl) (hc : evS l c = some (v3) := by rfl) : wkQ P ops ((⟨d, .makeFunc fn #[] #[a, b, c], ty, pos, aft, gd⟩, zz) :: restQ) N ⟨l, ds⟩ h := q_gL hw (x_func3 (e_any ha) (e_any hb) (e_any hc)) hk
theorem tfunc3 {fn : Fn} {v1 v2 v3 : AV} (hk : wkX P ops X pd N (Fr.put ⟨l, ds⟩ d (.fn fn [v1, v2, v3])) (h)) (hw : wantA ops ⟨l, ds⟩ ⟨d, .makeFunc fn #[] #[a, b, c], ty, pos, aft, gd⟩ = true := by rfl) (ha : evS l a = some (v1) := by rfl) (hb : evS l b = some (v2) := by rfl) (hc : evS l c = some (v3) := by rfl) (hrd : readsOf ⟨l, ds⟩ (.makeFunc fn #[] #[a, b, c]) = [] := by rfl) : wkX P ops (.light ⟨d, .makeFunc fn #[] #[a, b, c], ty, pos, aft, gd⟩ ii X) pd N ⟨l, ds⟩ h := t_gL hw (x_func3 (e_any ha) (e_any hb) (e_any hc)) hk hrd
theorem ufunc3 {fn : Fn} {v1 v2 v3 : AV} (hk : wkX P ops X pd N (Fr.put ⟨l, ds⟩ d (.fn fn [v1, v2, v3])) (h)) (hw : wantA ops ⟨l, ds⟩ ⟨d, .makeFunc fn #[] #[a, b, c], ty, pos, aft, gd⟩ = true := by rfl) (ha : evS l a = some (v1) := by rfl) (hb : evS l b = some (v2) := by rfl) (hc : evS l c = some (v3) := by rfl) : wkX P ops (.alt ⟨d, .makeFunc fn #[] #[a, b, c], ty, pos, aft, gd⟩ ii gone X .no) pd N ⟨l, ds⟩ h := u_gL hw (x_func3 (e_any ha) (e_any hb) (e_any hc)) hk
theorem sfunc4 {fn : Fn} {a4 : Operand} {v1 v2 v3 v4 : AV} (hk : wkO P ops rest N (Fr.put ⟨l, ds⟩ d (.fn fn [v1, v2, v3, v4])) (h)) (hw : wantA ops ⟨l, ds⟩ ⟨d, .makeFunc fn #[] #[a, b, c, a4], ty, pos, aft, gd⟩ = true := by rfl) (ha : evS l a = some (v1) := by rfl) (hb : evS l b = some (v2) := by rfl) (hc : evS l c = some (v3) := by rfl) (hd : evS l a4 = some (v4) := by rfl) : wkO P ops (⟨d, .makeFunc fn #[] #[a, b, c, a4], ty, pos, aft, gd⟩ :: rest) N ⟨l, ds⟩ h := s_gL hw (x_func (by simp [e_any (ds := ds) ha, e_any (ds := ds) hb, e_any (ds := ds) hc, e_any (ds := ds) hd])) hk
theorem qfunc4 {fn : Fn} {a4 : Operand} {v1 v2 v3 v4 : AV} (hk : wkQ P ops restQ N (Fr.put ⟨l, ds⟩ d (.fn fn [v1, v2, v3, v4])) (h)) (hw : wantA ops ⟨l, ds⟩ ⟨d, .makeFunc fn #[] #[a, b, c, a4], ty, pos, aft, gd⟩ = true := by rfl) (ha : evS l a = some (v1) := by rfl) (hb : evS l b = some (v2) := by rfl) (hc : evS l c = some (v3) := by rfl) (hd : evS l a4 = some (v4) := by rfl) : wkQ P ops ((⟨d, .makeFunc fn #[] #[a, b, c, a4], ty, pos, aft, gd⟩, zz) :: restQ) N ⟨l, ds⟩ h := q_gL hw (x_func (by simp [e_any (ds := ds) ha, e_any (ds := ds) hb, e_any (ds := ds) hc, e_any (ds := ds) hd])) hk
theorem tfunc4 {fn : Fn} {a4 : Operand} {v1 v2 v3 v4 : AV} (hk : wkX P ops X pd N (Fr.put ⟨l, ds⟩ d (.fn fn [v1, v2, v3, v4])) (h)) (hw : wantA ops ⟨l, ds⟩ ⟨d, .makeFunc fn #[] #[a, b, c, a4], ty, pos, aft, gd⟩ = true := by rfl) (ha : evS l a = some (v1) := by rfl) (hb : evS l b = some (v2) := by rfl) (hc : evS l c = some (v3) := by rfl) (hd : evS l a4 = some (v4) := by rfl) (hrd : readsOf ⟨l, ds⟩ (.makeFunc fn #[] #[a, b, c, a4]) = [] := by rfl) : wkX P ops (.light ⟨d, .makeFunc fn #[] #[a, b, c, a4], ty, pos, aft, gd⟩ ii X) pd N ⟨l, ds⟩ h := t_gL hw (x_func (by simp [e_any (ds := ds) ha, e_any (ds := ds) hb, e_any (ds := ds) hc, e_any (ds := ds) hd])) hk hrd
theorem ufunc4 {fn : Fn} {a4 : Operand} {v1 v2 v3 v4 : AV} (hk : wkX P ops X pd N (Fr.put ⟨l, ds⟩ d (.fn fn [v1, v2, v3, v4])) (h)) (hw : wantA ops ⟨l, ds⟩ ⟨d, .makeFunc fn #[] #[a, b, c, a4], ty, pos, aft, gd⟩ = true := by rfl) (ha : evS l a = some (v1) := by rfl) (hb : evS l b = some (v2) := by rfl) (hc : evS l c = some (v3) := by rfl) (hd : evS l a4 = some (v4) := by rfl) : wkX P ops (.alt ⟨d, .makeFunc fn #[] #[a, b, c, a4], ty, pos, aft, gd⟩ ii gone X .no) pd N ⟨l, ds⟩ h := u_gL hw (x_func (by simp [e_any (ds := ds) ha, e_any (ds := ds) hb, e_any (ds := ds) hc, e_any (ds := ds) hd])) hk
theorem snilP  (hk : wkO P ops rest N (Fr.put ⟨l, ds⟩ d (.ptr i o)) (h)) (hw : wantA ops ⟨l, ds⟩ ⟨d, .nilCheck a, ty, pos, aft, gd⟩ = true := by rfl) (ha : evS l a = some (.ptr i o) := by rfl) : wkO P ops (⟨d, .nilCheck a, ty, pos, aft, gd⟩ :: rest) N ⟨l, ds⟩ h := s_gL hw (x_nilP (e_any ha)) hk
theorem qnilP  (hk : wkQ P ops restQ N (Fr.put ⟨l, ds⟩ d (.ptr i o)) (h)) (hw : wantA ops ⟨l, ds⟩ ⟨d, .nilCheck a, ty, pos, aft, gd⟩ = true := by rfl) (ha : evS l a = some (.ptr i o) := by rfl) : wkQ P ops ((⟨d, .nilCheck a, ty, pos, aft, gd⟩, zz) :: restQ) N ⟨l, ds⟩ h := q_gL hw (x_nilP (e_any ha)) hk
theorem tnilP  (hk : wkX P ops X pd N (Fr.put ⟨l, ds⟩ d (.ptr i o)) (h)) (hw : wantA ops ⟨l, ds⟩ ⟨d, .nilCheck a, ty, pos, aft, gd⟩ = true := by rfl) (ha : evS l a = some (.ptr i o) := by rfl) (hrd : readsOf ⟨l, ds⟩ (.nilCheck a) = [] := by rfl) : wkX P ops (.light ⟨d, .nilCheck a, ty, pos, aft, gd⟩ ii X) pd N ⟨l, ds⟩ h := t_gL hw (x_nilP (e_any ha)) hk hrd
theorem unilP  (hk : wkX P ops X pd N (Fr.put ⟨l, ds⟩ d (.ptr i o)) (h)) (hw : wantA ops ⟨l, ds⟩ ⟨d, .nilCheck a, ty, pos, aft, gd⟩ = true := by rfl) (ha : evS l a = some (.ptr i o) := by rfl) : wkX P ops (.alt ⟨d, .nilCheck a, ty, pos, aft, gd⟩ ii gone X .no) pd N ⟨l, ds⟩ h := u_gL hw (x_nilP (e_any ha)) hk
theorem snilF {g : FuncId} (hk : wkO P ops rest N (Fr.put ⟨l, ds⟩ d (.fn (.func g) vs)) (h)) (hw : wantA ops ⟨l, ds⟩ ⟨d, .nilCheck a, ty, pos, aft, gd⟩ = true := by rfl) (ha : evS l a = some (.fn (.func g) vs) := by rfl) : wkO P ops (⟨d, .nilCheck a, ty, pos, aft, gd⟩ :: rest) N ⟨l, ds⟩ h := s_gL hw (x_nilF (e_any ha)) hk
theorem qnilF {g : FuncId} (hk : wkQ P ops restQ N (Fr.put ⟨l, ds⟩ d (.fn (.func g) vs)) (h)) (hw : wantA ops ⟨l, ds⟩ ⟨d, .nilCheck a, ty, pos, aft, gd⟩ = true := by rfl) (ha : evS l a = some (.fn (.func g) vs) := by rfl) : wkQ P ops ((⟨d, .nilCheck a, ty, pos, aft, gd⟩, zz) :: restQ) N ⟨l, ds⟩ h := q_gL hw (x_nilF (e_any ha)) hk
theorem tnilF {g : FuncId} (hk : wkX P ops X pd N (Fr.put ⟨l, ds⟩ d (.fn (.func g) vs)) (h)) (hw : wantA ops ⟨l, ds⟩ ⟨d, .nilCheck a, ty, pos, aft, gd⟩ = true := by rfl) (ha : evS l a = some (.fn (.func g) vs) := by rfl) (hrd : readsOf ⟨l, ds⟩ (.nilCheck a) = [] := by rfl) : wkX P ops (.light ⟨d, .nilCheck a, ty, pos, aft, gd⟩ ii X) pd N ⟨l, ds⟩ h := t_gL hw (x_nilF (e_any ha)) hk hrd
theorem unilF {g : FuncId} (hk : wkX P ops X pd N (Fr.put ⟨l, ds⟩ d (.fn (.func g) vs)) (h)) (hw : wantA ops ⟨l, ds⟩ ⟨d, .nilCheck a, ty, pos, aft, gd⟩ = true := by rfl) (ha : evS l a = some (.fn (.func g) vs) := by rfl) : wkX P ops (.alt ⟨d, .nilCheck a, ty, pos, aft, gd⟩ ii gone X .no) pd N ⟨l, ds⟩ h := u_gL hw (x_nilF (e_any ha)) hk
theorem snilY  (hk : wkO P ops rest N (Fr.put ⟨l, ds⟩ d (.yld i)) (h)) (hw : wantA ops ⟨l, ds⟩ ⟨d, .nilCheck a, ty, pos, aft, gd⟩ = true := by rfl) (ha : evS l a = some (.yld i) := by rfl) : wkO P ops (⟨d, .nilCheck a, ty, pos, aft, gd⟩ :: rest) N ⟨l, ds⟩ h := s_gL hw (x_nilY (e_any ha)) hk
theorem qnilY  (hk : wkQ P ops restQ N (Fr.put ⟨l, ds⟩ d (.yld i)) (h)) (hw : wantA ops ⟨l, ds⟩ ⟨d, .nilCheck a, ty, pos, aft, gd⟩ = true := by rfl) (ha : evS l a = some (.yld i) := by rfl) : wkQ P ops ((⟨d, .nilCheck a, ty, pos, aft, gd⟩, zz) :: restQ) N ⟨l, ds⟩ h := q_gL hw (x_nilY (e_any ha)) hk
theorem tnilY  (hk : wkX P ops X pd N (Fr.put ⟨l, ds⟩ d (.yld i)) (h)) (hw : wantA ops ⟨l, ds⟩ ⟨d, .nilCheck a, ty, pos, aft, gd⟩ = true := by rfl) (ha : evS l a = some (.yld i) := by rfl) (hrd : readsOf ⟨l, ds⟩ (.nilCheck a) = [] := by rfl) : wkX P ops (.light ⟨d, .nilCheck a, ty, pos, aft, gd⟩ ii X) pd N ⟨l, ds⟩ h := t_gL hw (x_nilY (e_any ha)) hk hrd
theorem unilY  (hk : wkX P ops X pd N (Fr.put ⟨l, ds⟩ d (.yld i)) (h)) (hw : wantA ops ⟨l, ds⟩ ⟨d, .nilCheck a, ty, pos, aft, gd⟩ = true := by rfl) (ha : evS l a = some (.yld i) := by rfl) : wkX P ops (.alt ⟨d, .nilCheck a, ty, pos, aft, gd⟩ ii gone X .no) pd N ⟨l, ds⟩ h := u_gL hw (x_nilY (e_any ha)) hk
theorem smin {ts : Array TypeId} (hk : wkO P ops rest N (Fr.put ⟨l, ds⟩ d (.v (.int k (if y < x then y else x)))) (h)) (hw : wantA ops ⟨l, ds⟩ ⟨d, .call ⟨.builtin .min, #[a, b], ts⟩, ty, pos, aft, gd⟩ = true := by rfl) (ha : evS l a = some (.v (.int k x)) := by rfl) (hb : evS l b = some (.v (.int k1 y)) := by rfl) : wkO P ops (⟨d, .call ⟨.builtin .min, #[a, b], ts⟩, ty, pos, aft, gd⟩ :: rest) N ⟨l, ds⟩ h := s_gL hw (x_min (e_any ha) (e_any hb)) hk
theorem qmin {ts : Array TypeId} (hk : wkQ P ops restQ N (Fr.put ⟨l, ds⟩ d (.v (.int k (if y < x then y else x)))) (h)) (hw : wantA ops ⟨l, ds⟩ ⟨d, .call ⟨.builtin .min, #[a, b], ts⟩, ty, pos, aft, gd⟩ = true := by rfl) (ha : evS l a = some (.v (.int k x)) := by rfl) (hb : evS l b = some (.v (.int k1 y)) := by rfl) : wkQ P ops ((⟨d, .call ⟨.builtin .min, #[a, b], ts⟩, ty, pos, aft, gd⟩, zz) :: restQ) N ⟨l, ds⟩ h := q_gL hw (x_min (e_any ha) (e_any hb)) hk
theorem tmin {ts : Array TypeId} (hk : wkX P ops X pd N (Fr.put ⟨l, ds⟩ d (.v (.int k (if y < x then y else x)))) (h)) (hw : wantA ops ⟨l, ds⟩ ⟨d, .call ⟨.builtin .min, #[a, b], ts⟩, ty, pos, aft, gd⟩ = true := by rfl) (ha : evS l a = some (.v (.int k x)) := by rfl) (hb : evS l b = some (.v (.int k1 y)) := by rfl) (hrd : readsOf ⟨l, ds⟩ (.call ⟨.builtin .min, #[a, b], ts⟩) = [] := by rfl) : wkX P ops (.light ⟨d, .call ⟨.builtin .min, #[a, b], ts⟩, ty, pos, aft, gd⟩ ii X) pd N ⟨l, ds⟩ h := t_gL hw (x_min (e_any ha) (e_any hb)) hk hrd
theorem umin {ts : Array TypeId} (hk : wkX P ops X pd N (Fr.put ⟨l, ds⟩ d (.v (.int k (if y < x then y else x)))) (h)) (hw : wantA ops ⟨l, ds⟩ ⟨d, .call ⟨.builtin .min, #[a, b], ts⟩, ty, pos, aft, gd⟩ = true := by rfl) (ha : evS l a = some (.v (.int k x)) := by rfl) (hb : evS l b = some (.v (.int k1 y)) := by rfl) : wkX P ops (.alt ⟨d, .call ⟨.builtin .min, #[a, b], ts⟩, ty, pos, aft, gd⟩ ii gone X .no) pd N ⟨l, ds⟩ h := u_gL hw (x_min (e_any ha) (e_any hb)) hk
theorem smax {ts : Array TypeId} (hk : wkO P ops rest N (Fr.put ⟨l, ds⟩ d (.v (.int k (if y > x then y else x)))) (h)) (hw : wantA ops ⟨l, ds⟩ ⟨d, .call ⟨.builtin .max, #[a, b], ts⟩, ty, pos, aft, gd⟩ = true := by rfl) (ha : evS l a = some (.v (.int k x)) := by rfl) (hb : evS l b = some (.v (.int k1 y)) := by rfl) : wkO P ops (⟨d, .call ⟨.builtin .max, #[a, b], ts⟩, ty, pos, aft, gd⟩ :: rest) N ⟨l, ds⟩ h := s_gL hw (x_max (e_any ha) (e_any hb)) hk
theorem qmax {ts : Array TypeId} (hk : wkQ P ops restQ N (Fr.put ⟨l, ds⟩ d (.v (.int k (if y > x then y else x)))) (h)) (hw : wantA ops ⟨l, ds⟩ ⟨d, .call ⟨.builtin .max, #[a, b], ts⟩, ty, pos, aft, gd⟩ = true := by rfl) (ha : evS l a = some (.v (.int k x)) := by rfl) (hb : evS l b = some (.v (.int k1 y)) := by rfl) : wkQ P ops ((⟨d, .call ⟨.builtin .max, #[a, b], ts⟩, ty, pos, aft, gd⟩, zz) :: restQ) N ⟨l, ds⟩ h := q_gL hw (x_max (e_any ha) (e_any hb)) hk
theorem tmax {ts : Array TypeId} (hk : wkX P ops X pd N (Fr.put ⟨l, ds⟩ d (.v (.int k (if y > x then y else x)))) (h)) (hw : wantA ops ⟨l, ds⟩ ⟨d, .call ⟨.builtin .max, #[a, b], ts⟩, ty, pos, aft, gd⟩ = true := by rfl) (ha : evS l a = some (.v (.int k x)) := by rfl) (hb : evS l b = some (.v (.int k1 y)) := by rfl) (hrd : readsOf ⟨l, ds⟩ (.call ⟨.builtin .max, #[a, b], ts⟩) = [] := by rfl) : wkX P ops (.light ⟨d, .call ⟨.builtin .max, #[a, b], ts⟩, ty, pos, aft, gd⟩ ii X) pd N ⟨l, ds⟩ h := t_gL hw (x_max (e_any ha) (e_any hb)) hk hrd
theorem umax {ts : Array TypeId} (hk : wkX P ops X pd N (Fr.put ⟨l, ds⟩ d (.v (.int k (if y > x then y else x)))) (h)) (hw : wantA ops ⟨l, ds⟩ ⟨d, .call ⟨.builtin .max, #[a, b], ts⟩, ty, pos, aft, gd⟩ = true := by rfl) (ha : evS l a = some (.v (.int k x)) := by rfl) (hb : evS l b = some (.v (.int k1 y)) := by rfl) : wkX P ops (.alt ⟨d, .call ⟨.builtin .max, #[a, b], ts⟩, ty, pos, aft, gd⟩ ii gone X .no) pd N ⟨l, ds⟩ h := u_gL hw (x_max (e_any ha) (e_any hb)) hk
theorem sfad  (hk : wkO P ops rest N (Fr.put ⟨l, ds⟩ d (.ptr i (o + off))) (h)) (hw : wantA ops ⟨l, ds⟩ ⟨d, .fieldAddr t a fl, ty, pos, aft, gd⟩ = true := by rfl) (hf : CF P t fl off := by infer_instance) (ha : evS l a = some (.ptr i o) := by rfl) : wkO P ops (⟨d, .fieldAddr t a fl, ty, pos, aft, gd⟩ :: rest) N ⟨l, ds⟩ h := s_gL hw (x_fad hf.p (e_any ha)) hk
theorem qfad  (hk : wkQ P ops restQ N (Fr.put ⟨l, ds⟩ d (.ptr i (o + off))) (h)) (hw : wantA ops ⟨l, ds⟩ ⟨d, .fieldAddr t a fl, ty, pos, aft, gd⟩ = true := by rfl) (hf : CF P t fl off := by infer_instance) (ha : evS l a = some (.ptr i o) := by rfl) : wkQ P ops ((⟨d, .fieldAddr t a fl, ty, pos, aft, gd⟩, zz) :: restQ) N ⟨l, ds⟩ h := q_gL hw (x_fad hf.p (e_any ha)) hk
theorem tfad  (hk : wkX P ops X pd N (Fr.put ⟨l, ds⟩ d (.ptr i (o + off))) (h)) (hw : wantA ops ⟨l, ds⟩ ⟨d, .fieldAddr t a fl, ty, pos, aft, gd⟩ = true := by rfl) (hf : CF P t fl off := by infer_instance) (ha : evS l a = some (.ptr i o) := by rfl) (hrd : readsOf ⟨l, ds⟩ (.fieldAddr t a fl) = [] := by rfl) : wkX P ops (.light ⟨d, .fieldAddr t a fl, ty, pos, aft, gd⟩ ii X) pd N ⟨l, ds⟩ h := t_gL hw (x_fad hf.p (e_any ha)) hk hrd
theorem ufad  (hk : wkX P ops X pd N (Fr.put ⟨l, ds⟩ d (.ptr i (o + off))) (h)) (hw : wantA ops ⟨l, ds⟩ ⟨d, .fieldAddr t a fl, ty, pos, aft, gd⟩ = true := by rfl) (hf : CF P t fl off := by infer_instance) (ha : evS l a = some (.ptr i o) := by rfl) : wkX P ops (.alt ⟨d, .fieldAddr t a fl, ty, pos, aft, gd⟩ ii gone X .no) pd N ⟨l, ds⟩ h := u_gL hw (x_fad hf.p (e_any ha)) hk
theorem slenX {nn cc : Nat} {u : Bool} (hk : wkO P ops rest N (Fr.put ⟨l, ds⟩ d (.v (.int .i64 (nn : Nat)))) (h)) (hw : wantA ops ⟨l, ds⟩ ⟨d, .call ⟨.builtin .len, #[a], #[t]⟩, ty, pos, aft, gd⟩ = true := by rfl) (hs : CS P t e q := by infer_instance) (ha : evS l a = some (.sl i o nn cc u) := by rfl) : wkO P ops (⟨d, .call ⟨.builtin .len, #[a], #[t]⟩, ty, pos, aft, gd⟩ :: rest) N ⟨l, ds⟩ h := s_gL hw (x_lenX hs.p (e_any ha)) hk
theorem qlenX {nn cc : Nat} {u : Bool} (hk : wkQ P ops restQ N (Fr.put ⟨l, ds⟩ d (.v (.int .i64 (nn : Nat)))) (h)) (hw : wantA ops ⟨l, ds⟩ ⟨d, .call ⟨.builtin .len, #[a], #[t]⟩, ty, pos, aft, gd⟩ = true := by rfl) (hs : CS P t e q := by infer_instance) (ha : evS l a = some (.sl i o nn cc u) := by rfl) : wkQ P ops ((⟨d, .call ⟨.builtin .len, #[a], #[t]⟩, ty, pos, aft, gd⟩, zz) :: restQ) N ⟨l, ds⟩ h := q_gL hw (x_lenX hs.p (e_any ha)) hk
theorem tlenX {nn cc : Nat} {u : Bool} (hk : wkX P ops X pd N (Fr.put ⟨l, ds⟩ d (.v (.int .i64 (nn : Nat)))) (h)) (hw : wantA ops ⟨l, ds⟩ ⟨d, .call ⟨.builtin .len, #[a], #[t]⟩, ty, pos, aft, gd⟩ = true := by rfl) (hs : CS P t e q := by infer_instance) (ha : evS l a = some (.sl i o nn cc u) := by rfl) (hrd : readsOf ⟨l, ds⟩ (.call ⟨.builtin .len, #[a], #[t]⟩) = [] := by rfl) : wkX P ops (.light ⟨d, .call ⟨.builtin .len, #[a], #[t]⟩, ty, pos, aft, gd⟩ ii X) pd N ⟨l, ds⟩ h := t_gL hw (x_lenX hs.p (e_any ha)) hk hrd
theorem ulenX {nn cc : Nat} {u : Bool} (hk : wkX P ops X pd N (Fr.put ⟨l, ds⟩ d (.v (.int .i64 (nn : Nat)))) (h)) (hw : wantA ops ⟨l, ds⟩ ⟨d, .call ⟨.builtin .len, #[a], #[t]⟩, ty, pos, aft, gd⟩ = true := by rfl) (hs : CS P t e q := by infer_instance) (ha : evS l a = some (.sl i o nn cc u) := by rfl) : wkX P ops (.alt ⟨d, .call ⟨.builtin .len, #[a], #[t]⟩, ty, pos, aft, gd⟩ ii gone X .no) pd N ⟨l, ds⟩ h := u_gL hw (x_lenX hs.p (e_any ha)) hk
theorem slenN  (hk : wkO P ops rest N (Fr.put ⟨l, ds⟩ d (.v (.int .i64 0))) (h)) (hw : wantA ops ⟨l, ds⟩ ⟨d, .call ⟨.builtin .len, #[a], #[t]⟩, ty, pos, aft, gd⟩ = true := by rfl) (hs : CS P t e q := by infer_instance) (ha : evS l a = some (.v (.slice none 0 0)) := by rfl) : wkO P ops (⟨d, .call ⟨.builtin .len, #[a], #[t]⟩, ty, pos, aft, gd⟩ :: rest) N ⟨l, ds⟩ h := s_gL hw (x_lenN hs.p (e_any ha)) hk
theorem qlenN  (hk : wkQ P ops restQ N (Fr.put ⟨l, ds⟩ d (.v (.int .i64 0))) (h)) (hw : wantA ops ⟨l, ds⟩ ⟨d, .call ⟨.builtin .len, #[a], #[t]⟩, ty, pos, aft, gd⟩ = true := by rfl) (hs : CS P t e q := by infer_instance) (ha : evS l a = some (.v (.slice none 0 0)) := by rfl) : wkQ P ops ((⟨d, .call ⟨.builtin .len, #[a], #[t]⟩, ty, pos, aft, gd⟩, zz) :: restQ) N ⟨l, ds⟩ h := q_gL hw (x_lenN hs.p (e_any ha)) hk
theorem tlenN  (hk : wkX P ops X pd N (Fr.put ⟨l, ds⟩ d (.v (.int .i64 0))) (h)) (hw : wantA ops ⟨l, ds⟩ ⟨d, .call ⟨.builtin .len, #[a], #[t]⟩, ty, pos, aft, gd⟩ = true := by rfl) (hs : CS P t e q := by infer_instance) (ha : evS l a = some (.v (.slice none 0 0)) := by rfl) (hrd : readsOf ⟨l, ds⟩ (.call ⟨.builtin .len, #[a], #[t]⟩) = [] := by rfl) : wkX P ops (.light ⟨d, .call ⟨.builtin .len, #[a], #[t]⟩, ty, pos, aft, gd⟩ ii X) pd N ⟨l, ds⟩ h := t_gL hw (x_lenN hs.p (e_any ha)) hk hrd
theorem ulenN  (hk : wkX P ops X pd N (Fr.put ⟨l, ds⟩ d (.v (.int .i64 0))) (h)) (hw : wantA ops ⟨l, ds⟩ ⟨d, .call ⟨.builtin .len, #[a], #[t]⟩, ty, pos, aft, gd⟩ = true := by rfl) (hs : CS P t e q := by infer_instance) (ha : evS l a = some (.v (.slice none 0 0)) := by rfl) : wkX P ops (.alt ⟨d, .call ⟨.builtin .len, #[a], #[t]⟩, ty, pos, aft, gd⟩ ii gone X .no) pd N ⟨l, ds⟩ h := u_gL hw (x_lenN hs.p (e_any ha)) hk
theorem slenS {l1 : List UInt8} (hk : wkO P ops rest N (Fr.put ⟨l, ds⟩ d (.v (.int .i64 (l1.length : Nat)))) (h)) (hw : wantA ops ⟨l, ds⟩ ⟨d, .call ⟨.builtin .len, #[a], #[t]⟩, ty, pos, aft, gd⟩ = true := by rfl) (hs : CT P t := by infer_instance) (ha : evS l a = some (St l1) := by rfl) : wkO P ops (⟨d, .call ⟨.builtin .len, #[a], #[t]⟩, ty, pos, aft, gd⟩ :: rest) N ⟨l, ds⟩ h := s_gL hw (x_lenS hs.p (e_any ha)) hk
theorem qlenS {l1 : List UInt8} (hk : wkQ P ops restQ N (Fr.put ⟨l, ds⟩ d (.v (.int .i64 (l1.length : Nat)))) (h)) (hw : wantA ops ⟨l, ds⟩ ⟨d, .call ⟨.builtin .len, #[a], #[t]⟩, ty, pos, aft, gd⟩ = true := by rfl) (hs : CT P t := by infer_instance) (ha : evS l a = some (St l1) := by rfl) : wkQ P ops ((⟨d, .call ⟨.builtin .len, #[a], #[t]⟩, ty, pos, aft, gd⟩, zz) :: restQ) N ⟨l, ds⟩ h := q_gL hw (x_lenS hs.p (e_any ha)) hk
theorem tlenS {l1 : List UInt8} (hk : wkX P ops X pd N (Fr.put ⟨l, ds⟩ d (.v (.int .i64 (l1.length : Nat)))) (h)) (hw : wantA ops ⟨l, ds⟩ ⟨d, .call ⟨.builtin .len, #[a], #[t]⟩, ty, pos, aft, gd⟩ = true := by rfl) (hs : CT P t := by infer_instance) (ha : evS l a = some (St l1) := by rfl) (hrd : readsOf ⟨l, ds⟩ (.call ⟨.builtin .len, #[a], #[t]⟩) = [] := by rfl) : wkX P ops (.light ⟨d, .call ⟨.builtin .len, #[a], #[t]⟩, ty, pos, aft, gd⟩ ii X) pd N ⟨l, ds⟩ h := t_gL hw (x_lenS hs.p (e_any ha)) hk hrd
theorem ulenS {l1 : List UInt8} (hk : wkX P ops X pd N (Fr.put ⟨l, ds⟩ d (.v (.int .i64 (l1.length : Nat)))) (h)) (hw : wantA ops ⟨l, ds⟩ ⟨d, .call ⟨.builtin .len, #[a], #[t]⟩, ty, pos, aft, gd⟩ = true := by rfl) (hs : CT P t := by infer_instance) (ha : evS l a = some (St l1) := by rfl) : wkX P ops (.alt ⟨d, .call ⟨.builtin .len, #[a], #[t]⟩, ty, pos, aft, gd⟩ ii gone X .no) pd N ⟨l, ds⟩ h := u_gL hw (x_lenS hs.p (e_any ha)) hk
theorem slenE {α : Type} {enc : α → List AV} {dd : α} {L : List α} {s : AV} {q' : Nat} (hk : wkO P ops rest N (Fr.put ⟨l, ds⟩ d (.v (.int .i64 (L.length : Nat)))) (h)) (hw : wantA ops ⟨l, ds⟩ ⟨d, .call ⟨.builtin .len, #[a], #[t]⟩, ty, pos, aft, gd⟩ = true := by rfl) (hs : CS P t e q' := by infer_instance) (ha : evS l a = some (s) := by rfl) (hE : EL α enc q dd h s L := by infer_instance) : wkO P ops (⟨d, .call ⟨.builtin .len, #[a], #[t]⟩, ty, pos, aft, gd⟩ :: rest) N ⟨l, ds⟩ h := s_gL hw (x_lenE hE.p hs.p (e_any ha)) hk
theorem qlenE {α : Type} {enc : α → List AV} {dd : α} {L : List α} {s : AV} {q' : Nat} (hk : wkQ P ops restQ N (Fr.put ⟨l, ds⟩ d (.v (.int .i64 (L.length : Nat)))) (h)) (hw : wantA ops ⟨l, ds⟩ ⟨d, .call ⟨.builtin .len, #[a], #[t]⟩, ty, pos, aft, gd⟩ = true := by rfl) (hs : CS P t e q' := by infer_instance) (ha : evS l a = some (s) := by rfl) (hE : EL α enc q dd h s L := by infer_instance) : wkQ P ops ((⟨d, .call ⟨.builtin .len, #[a], #[t]⟩, ty, pos, aft, gd⟩, zz) :: restQ) N ⟨l, ds⟩ h := q_gL hw (x_lenE hE.p hs.p (e_any ha)) hk
theorem tlenE {α : Type} {enc : α → List AV} {dd : α} {L : List α} {s : AV} {q' : Nat} (hk : wkX P ops X pd N (Fr.put ⟨l, ds⟩ d (.v (.int .i64 (L.length : Nat)))) (h)) (hw : wantA ops ⟨l, ds⟩ ⟨d, .call ⟨.builtin .len, #[a], #[t]⟩, ty, pos, aft, gd⟩ = true := by rfl) (hs : CS P t e q' := by infer_instance) (ha : evS l a = some (s) := by rfl) (hE : EL α enc q dd h s L := by infer_instance) (hrd : readsOf ⟨l, ds⟩ (.call ⟨.builtin .len, #[a], #[t]⟩) = [] := by rfl) : wkX P ops (.light ⟨d, .call ⟨.builtin .len, #[a], #[t]⟩, ty, pos, aft, gd⟩ ii X) pd N ⟨l, ds⟩ h := t_gL hw (x_lenE hE.p hs.p (e_any ha)) hk hrd
theorem ulenE {α : Type} {enc : α → List AV} {dd : α} {L : List α} {s : AV} {q' : Nat} (hk : wkX P ops X pd N (Fr.put ⟨l, ds⟩ d (.v (.int .i64 (L.length : Nat)))) (h)) (hw : wantA ops ⟨l, ds⟩ ⟨d, .call ⟨.builtin .len, #[a], #[t]⟩, ty, pos, aft, gd⟩ = true := by rfl) (hs : CS P t e q' := by infer_instance) (ha : evS l a = some (s) := by rfl) (hE : EL α enc q dd h s L := by infer_instance) : wkX P ops (.alt ⟨d, .call ⟨.builtin .len, #[a], #[t]⟩, ty, pos, aft, gd⟩ ii gone X .no) pd N ⟨l, ds⟩ h := u_gL hw (x_lenE hE.p hs.p (e_any ha)) hk
theorem sidxA  (hk : wkO P ops rest N (Fr.put ⟨l, ds⟩ d (.ptr i (o + x.toNat * q))) (h)) (hw : wantA ops ⟨l, ds⟩ ⟨d, .indexAddr t a b, ty, pos, aft, gd⟩ = true := by rfl) (hs : CR P t m e q := by infer_instance) (ha : evS l a = some (.ptr i o) := by rfl) (hb : evS l b = some (.v (.int k x)) := by rfl) (h0 : 0 ≤ x := by omega) (h1 : x < m := by omega) : wkO P ops (⟨d, .indexAddr t a b, ty, pos, aft, gd⟩ :: rest) N ⟨l, ds⟩ h := s_gL hw (x_idxA hs.p (e_any ha) (e_any hb) h0 h1) hk
theorem qidxA  (hk : wkQ P ops restQ N (Fr.put ⟨l, ds⟩ d (.ptr i (o + x.toNat * q))) (h)) (hw : wantA ops ⟨l, ds⟩ ⟨d, .indexAddr t a b, ty, pos, aft, gd⟩ = true := by rfl) (hs : CR P t m e q := by infer_instance) (ha : evS l a = some (.ptr i o) := by rfl) (hb : evS l b = some (.v (.int k x)) := by rfl) (h0 : 0 ≤ x := by omega) (h1 : x < m := by omega) : wkQ P ops ((⟨d, .indexAddr t a b, ty, pos, aft, gd⟩, zz) :: restQ) N ⟨l, ds⟩ h := q_gL hw (x_idxA hs.p (e_any ha) (e_any hb) h0 h1) hk
theorem tidxA  (hk : wkX P ops X pd N (Fr.put ⟨l, ds⟩ d (.ptr i (o + x.toNat * q))) (h)) (hw : wantA ops ⟨l, ds⟩ ⟨d, .indexAddr t a b, ty, pos, aft, gd⟩ = true := by rfl) (hs : CR P t m e q := by infer_instance) (ha : evS l a = some (.ptr i o) := by rfl) (hb : evS l b = some (.v (.int k x)) := by rfl) (h0 : 0 ≤ x := by omega) (h1 : x < m := by omega) (hrd : readsOf ⟨l, ds⟩ (.indexAddr t a b) = [] := by rfl) : wkX P ops (.light ⟨d, .indexAddr t a b, ty, pos, aft, gd⟩ ii X) pd N ⟨l, ds⟩ h := t_gL hw (x_idxA hs.p (e_any ha) (e_any hb) h0 h1) hk hrd
theorem uidxA  (hk : wkX P ops X pd N (Fr.put ⟨l, ds⟩ d (.ptr i (o + x.toNat * q))) (h)) (hw : wantA ops ⟨l, ds⟩ ⟨d, .indexAddr t a b, ty, pos, aft, gd⟩ = true := by rfl) (hs : CR P t m e q := by infer_instance) (ha : evS l a = some (.ptr i o) := by rfl) (hb : evS l b = some (.v (.int k x)) := by rfl) (h0 : 0 ≤ x := by omega) (h1 : x < m := by omega) : wkX P ops (.alt ⟨d, .indexAddr t a b, ty, pos, aft, gd⟩ ii gone X .no) pd N ⟨l, ds⟩ h := u_gL hw (x_idxA hs.p (e_any ha) (e_any hb) h0 h1) hk
theorem sidxS {nn cc : Nat} {u : Bool} (hk : wkO P ops rest N (Fr.put ⟨l, ds⟩ d (.ptr i (o + x.toNat * q))) (h)) (hw : wantA ops ⟨l, ds⟩ ⟨d, .indexAddr t a b, ty, pos, aft, gd⟩ = true := by rfl) (hs : CS P t e q := by infer_instance) (ha : evS l a = some (.sl i o nn cc u) := by rfl) (hb : evS l b = some (.v (.int k x)) := by rfl) (h0 : 0 ≤ x := by omega) (h1 : x < nn := by omega) : wkO P ops (⟨d, .indexAddr t a b, ty, pos, aft, gd⟩ :: rest) N ⟨l, ds⟩ h := s_gL hw (x_idxS hs.p (e_any ha) (e_any hb) h0 h1) hk
theorem qidxS {nn cc : Nat} {u : Bool} (hk : wkQ P ops restQ N (Fr.put ⟨l, ds⟩ d (.ptr i (o + x.toNat * q))) (h)) (hw : wantA ops ⟨l, ds⟩ ⟨d, .indexAddr t a b, ty, pos, aft, gd⟩ = true := by rfl) (hs : CS P t e q := by infer_instance) (ha : evS l a = some (.sl i o nn cc u) := by rfl) (hb : evS l b = some (.v (.int k x)) := by rfl) (h0 : 0 ≤ x := by omega) (h1 : x < nn := by omega) : wkQ P ops ((⟨d, .indexAddr t a b, ty, pos, aft, gd⟩, zz) :: restQ) N ⟨l, ds⟩ h := q_gL hw (x_idxS hs.p (e_any ha) (e_any hb) h0 h1) hk
theorem tidxS {nn cc : Nat} {u : Bool} (hk : wkX P ops X pd N (Fr.put ⟨l, ds⟩ d (.ptr i (o + x.toNat * q))) (h)) (hw : wantA ops ⟨l, ds⟩ ⟨d, .indexAddr t a b, ty, pos, aft, gd⟩ = true := by rfl) (hs : CS P t e q := by infer_instance) (ha : evS l a = some (.sl i o nn cc u) := by rfl) (hb : evS l b = some (.v (.int k x)) := by rfl) (h0 : 0 ≤ x := by omega) (h1 : x < nn := by omega) (hrd : readsOf ⟨l, ds⟩ (.indexAddr t a b) = [] := by rfl) : wkX P ops (.light ⟨d, .indexAddr t a b, ty, pos, aft, gd⟩ ii X) pd N ⟨l, ds⟩ h := t_gL hw (x_idxS hs.p (e_any ha) (e_any hb) h0 h1) hk hrd
theorem uidxS {nn cc : Nat} {u : Bool} (hk : wkX P ops X pd N (Fr.put ⟨l, ds⟩ d (.ptr i (o + x.toNat * q))) (h)) (hw : wantA ops ⟨l, ds⟩ ⟨d, .indexAddr t a b, ty, pos, aft, gd⟩ = true := by rfl) (hs : CS P t e q := by infer_instance) (ha : evS l a = some (.sl i o nn cc u) := by rfl) (hb : evS l b = some (.v (.int k x)) := by rfl) (h0 : 0 ≤ x := by omega) (h1 : x < nn := by omega) : wkX P ops (.alt ⟨d, .indexAddr t a b, ty, pos, aft, gd⟩ ii gone X .no) pd N ⟨l, ds⟩ h := u_gL hw (x_idxS hs.p (e_any ha) (e_any hb) h0 h1) hk
theorem sidxE {α : Type} {enc : α → List AV} {dd : α} {L : List α} {s : AV} (hk : wkO P ops rest N (Fr.put ⟨l, ds⟩ d (elP s q x)) (h)) (hw : wantA ops ⟨l, ds⟩ ⟨d, .indexAddr t a b, ty, pos, aft, gd⟩ = true := by rfl) (hs : CS P t e q := by infer_instance) (ha : evS l a = some (s) := by rfl) (hE : EL α enc q dd h s L := by infer_instance) (hb : evS l b = some (.v (.int k x)) := by rfl) (h0 : 0 ≤ x := by omega) (h1 : x < L.length := by omega) : wkO P ops (⟨d, .indexAddr t a b, ty, pos, aft, gd⟩ :: rest) N ⟨l, ds⟩ h := s_gL hw (x_idxE hE.p hs.p (e_any ha) (e_any hb) h0 h1) hk
theorem qidxE {α : Type} {enc : α → List AV} {dd : α} {L : List α} {s : AV} (hk : wkQ P ops restQ N (Fr.put ⟨l, ds⟩ d (elP s q x)) (h)) (hw : wantA ops ⟨l, ds⟩ ⟨d, .indexAddr t a b, ty, pos, aft, gd⟩ = true := by rfl) (hs : CS P t e q := by infer_instance) (ha : evS l a = some (s) := by rfl) (hE : EL α enc q dd h s L := by infer_instance) (hb : evS l b = some (.v (.int k x)) := by rfl) (h0 : 0 ≤ x := by omega) (h1 : x < L.length := by omega) : wkQ P ops ((⟨d, .indexAddr t a b, ty, pos, aft, gd⟩, zz) :: restQ) N ⟨l, ds⟩ h := q_gL hw (x_idxE hE.p hs.p (e_any ha) (e_any hb) h0 h1) hk
theorem tidxE {α : Type} {enc : α → List AV} {dd : α} {L : List α} {s : AV} (hk : wkX P ops X pd N (Fr.put ⟨l, ds⟩ d (elP s q x)) (h)) (hw : wantA ops ⟨l, ds⟩ ⟨d, .indexAddr t a b, ty, pos, aft, gd⟩ = true := by rfl) (hs : CS P t e q := by infer_instance) (ha : evS l a = some (s) := by rfl) (hE : EL α enc q dd h s L := by infer_instance) (hb : evS l b = some (.v (.int k x)) := by rfl) (h0 : 0 ≤ x := by omega) (h1 : x < L.length := by omega) (hrd : readsOf ⟨l, ds⟩ (.indexAddr t a b) = [] := by rfl) : wkX P ops (.light ⟨d, .indexAddr t a b, ty, pos, aft, gd⟩ ii X) pd N ⟨l, ds⟩ h := t_gL hw (x_idxE hE.p hs.p (e_any ha) (e_any hb) h0 h1) hk hrd
theorem uidxE {α : Type} {enc : α → List AV} {dd : α} {L : List α} {s : AV} (hk : wkX P ops X pd N (Fr.put ⟨l, ds⟩ d (elP s q x)) (h)) (hw : wantA ops ⟨l, ds⟩ ⟨d, .indexAddr t a b, ty, pos, aft, gd⟩ = true := by rfl) (hs : CS P t e q := by infer_instance) (ha : evS l a = some (s) := by rfl) (hE : EL α enc q dd h s L := by infer_instance) (hb : evS l b = some (.v (.int k x)) := by rfl) (h0 : 0 ≤ x := by omega) (h1 : x < L.length := by omega) : wkX P ops (.alt ⟨d, .indexAddr t a b, ty, pos, aft, gd⟩ ii gone X .no) pd N ⟨l, ds⟩ h := u_gL hw (x_idxE hE.p hs.p (e_any ha) (e_any hb) h0 h1) hk
theorem sfadE {α : Type} {enc : α → List AV} {dd : α} {L : List α} {s : AV} (hk : wkO P ops rest N (Fr.put ⟨l, ds⟩ d (elF s q x off)) (h)) (hw : wantA ops ⟨l, ds⟩ ⟨d, .fieldAddr t a fl, ty, pos, aft, gd⟩ = true := by rfl) (hf : CF P t fl off := by infer_instance) (ha : evS l a = some (elP s q x) := by rfl) (hE : EL α enc q dd h s L := by infer_instance) (h0 : 0 ≤ x := by omega) (h1 : x < L.length := by omega) : wkO P ops (⟨d, .fieldAddr t a fl, ty, pos, aft, gd⟩ :: rest) N ⟨l, ds⟩ h := s_gL hw (x_fadE hf.p hE.p (e_any ha) h0 h1) hk
theorem qfadE {α : Type} {enc : α → List AV} {dd : α} {L : List α} {s : AV} (hk : wkQ P ops restQ N (Fr.put ⟨l, ds⟩ d (elF s q x off)) (h)) (hw : wantA ops ⟨l, ds⟩ ⟨d, .fieldAddr t a fl, ty, pos, aft, gd⟩ = true := by rfl) (hf : CF P t fl off := by infer_instance) (ha : evS l a = some (elP s q x) := by rfl) (hE : EL α enc q dd h s L := by infer_instance) (h0 : 0 ≤ x := by omega) (h1 : x < L.length := by omega) : wkQ P ops ((⟨d, .fieldAddr t a fl, ty, pos, aft, gd⟩, zz) :: restQ) N ⟨l, ds⟩ h := q_gL hw (x_fadE hf.p hE.p (e_any ha) h0 h1) hk
theorem tfadE {α : Type} {enc : α → List AV} {dd : α} {L : List α} {s : AV} (hk : wkX P ops X pd N (Fr.put ⟨l, ds⟩ d (elF s q x off)) (h)) (hw : wantA ops ⟨l, ds⟩ ⟨d, .fieldAddr t a fl, ty, pos, aft, gd⟩ = true := by rfl) (hf : CF P t fl off := by infer_instance) (ha : evS l a = some (elP s q x) := by rfl) (hE : EL α enc q dd h s L := by infer_instance) (h0 : 0 ≤ x := by omega) (h1 : x < L.length := by omega) (hrd : readsOf ⟨l, ds⟩ (.fieldAddr t a fl) = [] := by rfl) : wkX P ops (.light ⟨d, .fieldAddr t a fl, ty, pos, aft, gd⟩ ii X) pd N ⟨l, ds⟩ h := t_gL hw (x_fadE hf.p hE.p (e_any ha) h0 h1) hk hrd
theorem ufadE {α : Type} {enc : α → List AV} {dd : α} {L : List α} {s : AV} (hk : wkX P ops X pd N (Fr.put ⟨l, ds⟩ d (elF s q x off)) (h)) (hw : wantA ops ⟨l, ds⟩ ⟨d, .fieldAddr t a fl, ty, pos, aft, gd⟩ = true := by rfl) (hf : CF P t fl off := by infer_instance) (ha : evS l a = some (elP s q x) := by rfl) (hE : EL α enc q dd h s L := by infer_instance) (h0 : 0 ≤ x := by omega) (h1 : x < L.length := by omega) : wkX P ops (.alt ⟨d, .fieldAddr t a fl, ty, pos, aft, gd⟩ ii gone X .no) pd N ⟨l, ds⟩ h := u_gL hw (x_fadE hf.p hE.p (e_any ha) h0 h1) hk
theorem snilE {α : Type} {enc : α → List AV} {dd : α} {L : List α} {s : AV} (hk : wkO P ops rest N (Fr.put ⟨l, ds⟩ d (elP s q x)) (h)) (hw : wantA ops ⟨l, ds⟩ ⟨d, .nilCheck a, ty, pos, aft, gd⟩ = true := by rfl) (ha : evS l a = some (elP s q x) := by rfl) (hE : EL α enc q dd h s L := by infer_instance) (h0 : 0 ≤ x := by omega) (h1 : x < L.length := by omega) : wkO P ops (⟨d, .nilCheck a, ty, pos, aft, gd⟩ :: rest) N ⟨l, ds⟩ h := s_gL hw (x_nilE hE.p (e_any ha) h0 h1) hk
theorem qnilE {α : Type} {enc : α → List AV} {dd : α} {L : List α} {s : AV} (hk : wkQ P ops restQ N (Fr.put ⟨l, ds⟩ d (elP s q x)) (h)) (hw : wantA ops ⟨l, ds⟩ ⟨d, .nilCheck a, ty, pos, aft, gd⟩ = true := by rfl) (ha : evS l a = some (elP s q x) := by rfl) (hE : EL α enc q dd h s L := by infer_instance) (h0 : 0 ≤ x := by omega) (h1 : x < L.length := by omega) : wkQ P ops ((⟨d, .nilCheck a, ty, pos, aft, gd⟩, zz) :: restQ) N ⟨l, ds⟩ h := q_gL hw (x_nilE hE.p (e_any ha) h0 h1) hk
theorem tnilE {α : Type} {enc : α → List AV} {dd : α} {L : List α} {s : AV} (hk : wkX P ops X pd N (Fr.put ⟨l, ds⟩ d (elP s q x)) (h)) (hw : wantA ops ⟨l, ds⟩ ⟨d, .nilCheck a, ty, pos, aft, gd⟩ = true := by rfl) (ha : evS l a = some (elP s q x) := by rfl) (hE : EL α enc q dd h s L := by infer_instance) (h0 : 0 ≤ x := by omega) (h1 : x < L.length := by omega) (hrd : readsOf ⟨l, ds⟩ (.nilCheck a) = [] := by rfl) : wkX P ops (.light ⟨d, .nilCheck a, ty, pos, aft, gd⟩ ii X) pd N ⟨l, ds⟩ h := t_gL hw (x_nilE hE.p (e_any ha) h0 h1) hk hrd
theorem unilE {α : Type} {enc : α → List AV} {dd : α} {L : List α} {s : AV} (hk : wkX P ops X pd N (Fr.put ⟨l, ds⟩ d (elP s q x)) (h)) (hw : wantA ops ⟨l, ds⟩ ⟨d, .nilCheck a, ty, pos, aft, gd⟩ = true := by rfl) (ha : evS l a = some (elP s q x) := by rfl) (hE : EL α enc q dd h s L := by infer_instance) (h0 : 0 ≤ x := by omega) (h1 : x < L.length := by omega) : wkX P ops (.alt ⟨d, .nilCheck a, ty, pos, aft, gd⟩ ii gone X .no) pd N ⟨l, ds⟩ h := u_gL hw (x_nilE hE.p (e_any ha) h0 h1) hk
theorem sindex1  (hk : wkO P ops rest N (Fr.put ⟨l, ds⟩ d (r)) (h)) (hw : wantA ops ⟨l, ds⟩ ⟨d, .index t a b, ty, pos, aft, gd⟩ = true := by rfl) (hs : CR P t m e 1 := by infer_instance) (h1s : C1 P e := by infer_instance) (ha : evS l a = some (.agg cs) := by rfl) (hb : evS l b = some (.v (.int k x)) := by rfl) (h0 : 0 ≤ x := by omega) (h1 : x < m := by omega) (hr : cs[x.toNat]? = some r := by rfl) : wkO P ops (⟨d, .index t a b, ty, pos, aft, gd⟩ :: rest) N ⟨l, ds⟩ h := s_gL hw (x_index1 hs.p h1s.p (e_any ha) (e_any hb) h0 h1 hr) hk
theorem qindex1  (hk : wkQ P ops restQ N (Fr.put ⟨l, ds⟩ d (r)) (h)) (hw : wantA ops ⟨l, ds⟩ ⟨d, .index t a b, ty, pos, aft, gd⟩ = true := by rfl) (hs : CR P t m e 1 := by infer_instance) (h1s : C1 P e := by infer_instance) (ha : evS l a = some (.agg cs) := by rfl) (hb : evS l b = some (.v (.int k x)) := by rfl) (h0 : 0 ≤ x := by omega) (h1 : x < m := by omega) (hr : cs[x.toNat]? = some r := by rfl) : wkQ P ops ((⟨d, .index t a b, ty, pos, aft, gd⟩, zz) :: restQ) N ⟨l, ds⟩ h := q_gL hw (x_index1 hs.p h1s.p (e_any ha) (e_any hb) h0 h1 hr) hk
theorem tindex1  (hk : wkX P ops X pd N (Fr.put ⟨l, ds⟩ d (r)) (h)) (hw : wantA ops ⟨l, ds⟩ ⟨d, .index t a b, ty, pos, aft, gd⟩ = true := by rfl) (hs : CR P t m e 1 := by infer_instance) (h1s : C1 P e := by infer_instance) (ha : evS l a = some (.agg cs) := by rfl) (hb : evS l b = some (.v (.int k x)) := by rfl) (h0 : 0 ≤ x := by omega) (h1 : x < m := by omega) (hr : cs[x.toNat]? = some r := by rfl) (hrd : readsOf ⟨l, ds⟩ (.index t a b) = [] := by rfl) : wkX P ops (.light ⟨d, .index t a b, ty, pos, aft, gd⟩ ii X) pd N ⟨l, ds⟩ h := t_gL hw (x_index1 hs.p h1s.p (e_any ha) (e_any hb) h0 h1 hr) hk hrd
theorem uindex1  (hk : wkX P ops X pd N (Fr.put ⟨l, ds⟩ d (r)) (h)) (hw : wantA ops ⟨l, ds⟩ ⟨d, .index t a b, ty, pos, aft, gd⟩ = true := by rfl) (hs : CR P t m e 1 := by infer_instance) (h1s : C1 P e := by infer_instance) (ha : evS l a = some (.agg cs) := by rfl) (hb : evS l b = some (.v (.int k x)) := by rfl) (h0 : 0 ≤ x := by omega) (h1 : x < m := by omega) (hr : cs[x.toNat]? = some r := by rfl) : wkX P ops (.alt ⟨d, .index t a b, ty, pos, aft, gd⟩ ii gone X .no) pd N ⟨l, ds⟩ h := u_gL hw (x_index1 hs.p h1s.p (e_any ha) (e_any hb) h0 h1 hr) hk
theorem sidxStr {l1 : List UInt8} (hk : wkO P ops rest N (Fr.put ⟨l, ds⟩ d (.v (.int .u8 ((l1.getD x.toNat 0).toNat : Nat)))) (h)) (hw : wantA ops ⟨l, ds⟩ ⟨d, .index t a b, ty, pos, aft, gd⟩ = true := by rfl) (hs : CT P t := by infer_instance) (ha : evS l a = some (St l1) := by rfl) (hb : evS l b = some (.v (.int k x)) := by rfl) (h0 : 0 ≤ x := by omega) (h1 : x < l1.length := by omega) : wkO P ops (⟨d, .index t a b, ty, pos, aft, gd⟩ :: rest) N ⟨l, ds⟩ h := s_gL hw (x_idxStr hs.p (e_any ha) (e_any hb) h0 h1) hk
theorem qidxStr {l1 : List UInt8} (hk : wkQ P ops restQ N (Fr.put ⟨l, ds⟩ d (.v (.int .u8 ((l1.getD x.toNat 0).toNat : Nat)))) (h)) (hw : wantA ops ⟨l, ds⟩ ⟨d, .index t a b, ty, pos, aft, gd⟩ = true := by rfl) (hs : CT P t := by infer_instance) (ha : evS l a = some (St l1) := by rfl) (hb : evS l b = some (.v (.int k x)) := by rfl) (h0 : 0 ≤ x := by omega) (h1 : x < l1.length := by omega) : wkQ P ops ((⟨d, .index t a b, ty, pos, aft, gd⟩, zz) :: restQ) N ⟨l, ds⟩ h := q_gL hw (x_idxStr hs.p (e_any ha) (e_any hb) h0 h1) hk
theorem tidxStr {l1 : List UInt8} (hk : wkX P ops X pd N (Fr.put ⟨l, ds⟩ d (.v (.int .u8 ((l1.getD x.toNat 0).toNat : Nat)))) (h)) (hw : wantA ops ⟨l, ds⟩ ⟨d, .index t a b, ty, pos, aft, gd⟩ = true := by rfl) (hs : CT P t := by infer_instance) (ha : evS l a = some (St l1) := by rfl) (hb : evS l b = some (.v (.int k x)) := by rfl) (h0 : 0 ≤ x := by omega) (h1 : x < l1.length := by omega) (hrd : readsOf ⟨l, ds⟩ (.index t a b) = [] := by rfl) : wkX P ops (.light ⟨d, .index t a b, ty, pos, aft, gd⟩ ii X) pd N ⟨l, ds⟩ h := t_gL hw (x_idxStr hs.p (e_any ha) (e_any hb) h0 h1) hk hrd
theorem uidxStr {l1 : List UInt8} (hk : wkX P ops X pd N (Fr.put ⟨l, ds⟩ d (.v (.int .u8 ((l1.getD x.toNat 0).toNat : Nat)))) (h)) (hw : wantA ops ⟨l, ds⟩ ⟨d, .index t a b, ty, pos, aft, gd⟩ = true := by rfl) (hs : CT P t := by infer_instance) (ha : evS l a = some (St l1) := by rfl) (hb : evS l b = some (.v (.int k x)) := by rfl) (h0 : 0 ≤ x := by omega) (h1 : x < l1.length := by omega) : wkX P ops (.alt ⟨d, .index t a b, ty, pos, aft, gd⟩ ii gone X .no) pd N ⟨l, ds⟩ h := u_gL hw (x_idxStr hs.p (e_any ha) (e_any hb) h0 h1) hk
theorem sslcS {l1 : List UInt8} (hk : wkO P ops rest N (Fr.put ⟨l, ds⟩ d (St ((l1.take y.toNat).drop x.toNat))) (h)) (hw : wantA ops ⟨l, ds⟩ ⟨d, .slice t a (some b) (some c) none, ty, pos, aft, gd⟩ = true := by rfl) (hs : CT P t := by infer_instance) (ha : evS l a = some (St l1) := by rfl) (hb : evS l b = some (.v (.int k x)) := by rfl) (hc : evS l c = some (.v (.int k1 y)) := by rfl) (h0 : 0 ≤ x := by omega) (h1 : x ≤ y := by omega) (h2 : y ≤ l1.length := by omega) : wkO P ops (⟨d, .slice t a (some b) (some c) none, ty, pos, aft, gd⟩ :: rest) N ⟨l, ds⟩ h := s_gL hw (x_slcS hs.p (e_any ha) (e_any hb) (e_any hc) h0 h1 h2) hk
theorem qslcS {l1 : List UInt8} (hk : wkQ P ops restQ N (Fr.put ⟨l, ds⟩ d (St ((l1.take y.toNat).drop x.toNat))) (h)) (hw : wantA ops ⟨l, ds⟩ ⟨d, .slice t a (some b) (some c) none, ty, pos, aft, gd⟩ = true := by rfl) (hs : CT P t := by infer_instance) (ha : evS l a = some (St l1) := by rfl) (hb : evS l b = some (.v (.int k x)) := by rfl) (hc : evS l c = some (.v (.int k1 y)) := by rfl) (h0 : 0 ≤ x := by omega) (h1 : x ≤ y := by omega) (h2 : y ≤ l1.length := by omega) : wkQ P ops ((⟨d, .slice t a (some b) (some c) none, ty, pos, aft, gd⟩, zz) :: restQ) N ⟨l, ds⟩ h := q_gL hw (x_slcS hs.p (e_any ha) (e_any hb) (e_any hc) h0 h1 h2) hk
theorem tslcS {l1 : List UInt8} (hk : wkX P ops X pd N (Fr.put ⟨l, ds⟩ d (St ((l1.take y.toNat).drop x.toNat))) (h)) (hw : wantA ops ⟨l, ds⟩ ⟨d, .slice t a (some b) (some c) none, ty, pos, aft, gd⟩ = true := by rfl) (hs : CT P t := by infer_instance) (ha : evS l a = some (St l1) := by rfl) (hb : evS l b = some (.v (.int k x)) := by rfl) (hc : evS l c = some (.v (.int k1 y)) := by rfl) (h0 : 0 ≤ x := by omega) (h1 : x ≤ y := by omega) (h2 : y ≤ l1.length := by omega) (hrd : readsOf ⟨l, ds⟩ (.slice t a (some b) (some c) none) = [] := by rfl) : wkX P ops (.light ⟨d, .slice t a (some b) (some c) none, ty, pos, aft, gd⟩ ii X) pd N ⟨l, ds⟩ h := t_gL hw (x_slcS hs.p (e_any ha) (e_any hb) (e_any hc) h0 h1 h2) hk hrd
theorem uslcS {l1 : List UInt8} (hk : wkX P ops X pd N (Fr.put ⟨l, ds⟩ d (St ((l1.take y.toNat).drop x.toNat))) (h)) (hw : wantA ops ⟨l, ds⟩ ⟨d, .slice t a (some b) (some c) none, ty, pos, aft, gd⟩ = true := by rfl) (hs : CT P t := by infer_instance) (ha : evS l a = some (St l1) := by rfl) (hb : evS l b = some (.v (.int k x)) := by rfl) (hc : evS l c = some (.v (.int k1 y)) := by rfl) (h0 : 0 ≤ x := by omega) (h1 : x ≤ y := by omega) (h2 : y ≤ l1.length := by omega) : wkX P ops (.alt ⟨d, .slice t a (some b) (some c) none, ty, pos, aft, gd⟩ ii gone X .no) pd N ⟨l, ds⟩ h := u_gL hw (x_slcS hs.p (e_any ha) (e_any hb) (e_any hc) h0 h1 h2) hk
theorem sslcLo {l1 : List UInt8} (hk : wkO P ops rest N (Fr.put ⟨l, ds⟩ d (St (l1.drop x.toNat))) (h)) (hw : wantA ops ⟨l, ds⟩ ⟨d, .slice t a (some b) none none, ty, pos, aft, gd⟩ = true := by rfl) (hs : CT P t := by infer_instance) (ha : evS l a = some (St l1) := by rfl) (hb : evS l b = some (.v (.int k x)) := by rfl) (h0 : 0 ≤ x := by omega) (h2 : x ≤ l1.length := by omega) : wkO P ops (⟨d, .slice t a (some b) none none, ty, pos, aft, gd⟩ :: rest) N ⟨l, ds⟩ h := s_gL hw (x_slcLo hs.p (e_any ha) (e_any hb) h0 h2) hk
theorem qslcLo {l1 : List UInt8} (hk : wkQ P ops restQ N (Fr.put ⟨l, ds⟩ d (St (l1.drop x.toNat))) (h)) (hw : wantA ops ⟨l, ds⟩ ⟨d, .slice t a (some b) none none, ty, pos, aft, gd⟩ = true := by rfl) (hs : CT P t := by infer_instance) (ha : evS l a = some (St l1) := by rfl) (hb : evS l b = some (.v (.int k x)) := by rfl) (h0 : 0 ≤ x := by omega) (h2 : x ≤ l1.length := by omega) : wkQ P ops ((⟨d, .slice t a (some b) none none, ty, pos, aft, gd⟩, zz) :: restQ) N ⟨l, ds⟩ h := q_gL hw (x_slcLo hs.p (e_any ha) (e_any hb) h0 h2) hk
theorem tslcLo {l1 : List UInt8} (hk : wkX P ops X pd N (Fr.put ⟨l, ds⟩ d (St (l1.drop x.toNat))) (h)) (hw : wantA ops ⟨l, ds⟩ ⟨d, .slice t a (some b) none none, ty, pos, aft, gd⟩ = true := by rfl) (hs : CT P t := by infer_instance) (ha : evS l a = some (St l1) := by rfl) (hb : evS l b = some (.v (.int k x)) := by rfl) (h0 : 0 ≤ x := by omega) (h2 : x ≤ l1.length := by omega) (hrd : readsOf ⟨l, ds⟩ (.slice t a (some b) none none) = [] := by rfl) : wkX P ops (.light ⟨d, .slice t a (some b) none none, ty, pos, aft, gd⟩ ii X) pd N ⟨l, ds⟩ h := t_gL hw (x_slcLo hs.p (e_any ha) (e_any hb) h0 h2) hk hrd
theorem uslcLo {l1 : List UInt8} (hk : wkX P ops X pd N (Fr.put ⟨l, ds⟩ d (St (l1.drop x.toNat))) (h)) (hw : wantA ops ⟨l, ds⟩ ⟨d, .slice t a (some b) none none, ty, pos, aft, gd⟩ = true := by rfl) (hs : CT P t := by infer_instance) (ha : evS l a = some (St l1) := by rfl) (hb : evS l b = some (.v (.int k x)) := by rfl) (h0 : 0 ≤ x := by omega) (h2 : x ≤ l1.length := by omega) : wkX P ops (.alt ⟨d, .slice t a (some b) none none, ty, pos, aft, gd⟩ ii gone X .no) pd N ⟨l, ds⟩ h := u_gL hw (x_slcLo hs.p (e_any ha) (e_any hb) h0 h2) hk
theorem sslcHi {l1 : List UInt8} (hk : wkO P ops rest N (Fr.put ⟨l, ds⟩ d (St (l1.take y.toNat))) (h)) (hw : wantA ops ⟨l, ds⟩ ⟨d, .slice t a none (some c) none, ty, pos, aft, gd⟩ = true := by rfl) (hs : CT P t := by infer_instance) (ha : evS l a = some (St l1) := by rfl) (hc : evS l c = some (.v (.int k y)) := by rfl) (h1 : 0 ≤ y := by omega) (h2 : y ≤ l1.length := by omega) : wkO P ops (⟨d, .slice t a none (some c) none, ty, pos, aft, gd⟩ :: rest) N ⟨l, ds⟩ h := s_gL hw (x_slcHi hs.p (e_any ha) (e_any hc) h1 h2) hk
theorem qslcHi {l1 : List UInt8} (hk : wkQ P ops restQ N (Fr.put ⟨l, ds⟩ d (St (l1.take y.toNat))) (h)) (hw : wantA ops ⟨l, ds⟩ ⟨d, .slice t a none (some c) none, ty, pos, aft, gd⟩ = true := by rfl) (hs : CT P t := by infer_instance) (ha : evS l a = some (St l1) := by rfl) (hc : evS l c = some (.v (.int k y)) := by rfl) (h1 : 0 ≤ y := by omega) (h2 : y ≤ l1.length := by omega) : wkQ P ops ((⟨d, .slice t a none (some c) none, ty, pos, aft, gd⟩, zz) :: restQ) N ⟨l, ds⟩ h := q_gL hw (x_slcHi hs.p (e_any ha) (e_any hc) h1 h2) hk
theorem tslcHi {l1 : List UInt8} (hk : wkX P ops X pd N (Fr.put ⟨l, ds⟩ d (St (l1.take y.toNat))) (h)) (hw : wantA ops ⟨l, ds⟩ ⟨d, .slice t a none (some c) none, ty, pos, aft, gd⟩ = true := by rfl) (hs : CT P t := by infer_instance) (ha : evS l a = some (St l1) := by rfl) (hc : evS l c = some (.v (.int k y)) := by rfl) (h1 : 0 ≤ y := by omega) (h2 : y ≤ l1.length := by omega) (hrd : readsOf ⟨l, ds⟩ (.slice t a none (some c) none) = [] := by rfl) : wkX P ops (.light ⟨d, .slice t a none (some c) none, ty, pos, aft, gd⟩ ii X) pd N ⟨l, ds⟩ h := t_gL hw (x_slcHi hs.p (e_any ha) (e_any hc) h1 h2) hk hrd
theorem uslcHi {l1 : List UInt8} (hk : wkX P ops X pd N (Fr.put ⟨l, ds⟩ d (St (l1.take y.toNat))) (h)) (hw : wantA ops ⟨l, ds⟩ ⟨d, .slice t a none (some c) none, ty, pos, aft, gd⟩ = true := by rfl) (hs : CT P t := by infer_instance) (ha : evS l a = some (St l1) := by rfl) (hc : evS l c = some (.v (.int k y)) := by rfl) (h1 : 0 ≤ y := by omega) (h2 : y ≤ l1.length := by omega) : wkX P ops (.alt ⟨d, .slice t a none (some c) none, ty, pos, aft, gd⟩ ii gone X .no) pd N ⟨l, ds⟩ h := u_gL hw (x_slcHi hs.p (e_any ha) (e_any hc) h1 h2) hk
theorem sconvS {nn cc : Nat} {u : Bool} {l1 : List UInt8} (hk : wkO P ops rest N (Fr.put ⟨l, ds⟩ d (St l1)) (h)) (hw : wantA ops ⟨l, ds⟩ ⟨d, .convert t t' a, ty, pos, aft, gd⟩ = true := by rfl) (hu : CS P t e 1 := by infer_instance) (he : CU P e .u8 := by infer_instance) (hd : CT P t' := by infer_instance) (ha : evS l a = some (.sl i 0 nn cc u) := by rfl) (hi : HA h i (.cells cs tt ow) := by infer_instance) (hn : nn = cs.length := by rfl) (hb : UB cs l1 := by infer_instance) : wkO P ops (⟨d, .convert t t' a, ty, pos, aft, gd⟩ :: rest) N ⟨l, ds⟩ h := s_gL hw (x_convS hu.p he.p hd.p (e_any ha) hi.p hn hb.p) hk
theorem qconvS {nn cc : Nat} {u : Bool} {l1 : List UInt8} (hk : wkQ P ops restQ N (Fr.put ⟨l, ds⟩ d (St l1)) (h)) (hw : wantA ops ⟨l, ds⟩ ⟨d, .convert t t' a, ty, pos, aft, gd⟩ = true := by rfl) (hu : CS P t e 1 := by infer_instance) (he : CU P e .u8 := by infer_instance) (hd : CT P t' := by infer_instance) (ha : evS l a = some (.sl i 0 nn cc u) := by rfl) (hi : HA h i (.cells cs tt ow) := by infer_instance) (hn : nn = cs.length := by rfl) (hb : UB cs l1 := by infer_instance) : wkQ P ops ((⟨d, .convert t t' a, ty, pos, aft, gd⟩, zz) :: restQ) N ⟨l, ds⟩ h := q_gL hw (x_convS hu.p he.p hd.p (e_any ha) hi.p hn hb.p) hk
theorem tconvS {nn cc : Nat} {u : Bool} {l1 : List UInt8} (hk : wkX P ops X ((ii, i) :: pd) N (Fr.put ⟨l, ds⟩ d (St l1)) (h)) (hw : wantA ops ⟨l, ds⟩ ⟨d, .convert t t' a, ty, pos, aft, gd⟩ = true := by rfl) (hu : CS P t e 1 := by infer_instance) (he : CU P e .u8 := by infer_instance) (hd : CT P t' := by infer_instance) (ha : evS l a = some (.sl i 0 nn cc u) := by rfl) (hi : HA h i (.cells cs tt ow) := by infer_instance) (hn : nn = cs.length := by rfl) (hb : UB cs l1 := by infer_instance) : wkX P ops (.light ⟨d, .convert t t' a, ty, pos, aft, gd⟩ ii X) pd N ⟨l, ds⟩ h := t_gR hw (by simp only [readsOf, e_any (ds := ds) ha]) (x_convS hu.p he.p hd.p (e_any ha) hi.p hn hb.p) hk
theorem uconvS {nn cc : Nat} {u : Bool} {l1 : List UInt8} (hk : wkX P ops X pd N (Fr.put ⟨l, ds⟩ d (St l1)) (h)) (hw : wantA ops ⟨l, ds⟩ ⟨d, .convert t t' a, ty, pos, aft, gd⟩ = true := by rfl) (hu : CS P t e 1 := by infer_instance) (he : CU P e .u8 := by infer_instance) (hd : CT P t' := by infer_instance) (ha : evS l a = some (.sl i 0 nn cc u) := by rfl) (hi : HA h i (.cells cs tt ow) := by infer_instance) (hn : nn = cs.length := by rfl) (hb : UB cs l1 := by infer_instance) : wkX P ops (.alt ⟨d, .convert t t' a, ty, pos, aft, gd⟩ ii gone X .no) pd N ⟨l, ds⟩ h := u_gL hw (x_convS hu.p he.p hd.p (e_any ha) hi.p hn hb.p) hk
theorem sload1  (hk : wkO P ops rest N (Fr.put ⟨l, ds⟩ d (r)) (h)) (hw : wantA ops ⟨l, ds⟩ ⟨d, .load t a, ty, pos, aft, gd⟩ = true := by rfl) (hs : C1 P t := by infer_instance) (ha : evS l a = some (.ptr i o) := by rfl) (hi : HA h i (.cells cs tt ow) := by infer_instance) (hr : cs[o]? = some r := by rfl) : wkO P ops (⟨d, .load t a, ty, pos, aft, gd⟩ :: rest) N ⟨l, ds⟩ h := s_gL hw (x_load1 hs.p (e_any ha) hi.p hr) hk
theorem qload1  (hk : wkQ P ops restQ N (Fr.put ⟨l, ds⟩ d (r)) (h)) (hw : wantA ops ⟨l, ds⟩ ⟨d, .load t a, ty, pos, aft, gd⟩ = true := by rfl) (hs : C1 P t := by infer_instance) (ha : evS l a = some (.ptr i o) := by rfl) (hi : HA h i (.cells cs tt ow) := by infer_instance) (hr : cs[o]? = some r := by rfl) : wkQ P ops ((⟨d, .load t a, ty, pos, aft, gd⟩, zz) :: restQ) N ⟨l, ds⟩ h := q_gL hw (x_load1 hs.p (e_any ha) hi.p hr) hk
theorem tload1  (hk : wkX P ops X ((ii, i) :: pd) N (Fr.put ⟨l, ds⟩ d (r)) (h)) (hw : wantA ops ⟨l, ds⟩ ⟨d, .load t a, ty, pos, aft, gd⟩ = true := by rfl) (hs : C1 P t := by infer_instance) (ha : evS l a = some (.ptr i o) := by rfl) (hi : HA h i (.cells cs tt ow) := by infer_instance) (hr : cs[o]? = some r := by rfl) : wkX P ops (.light ⟨d, .load t a, ty, pos, aft, gd⟩ ii X) pd N ⟨l, ds⟩ h := t_gR hw (by simp only [readsOf, e_any (ds := ds) ha]) (x_load1 hs.p (e_any ha) hi.p hr) hk
theorem uload1  (hk : wkX P ops X pd N (Fr.put ⟨l, ds⟩ d (r)) (h)) (hw : wantA ops ⟨l, ds⟩ ⟨d, .load t a, ty, pos, aft, gd⟩ = true := by rfl) (hs : C1 P t := by infer_instance) (ha : evS l a = some (.ptr i o) := by rfl) (hi : HA h i (.cells cs tt ow) := by infer_instance) (hr : cs[o]? = some r := by rfl) : wkX P ops (.alt ⟨d, .load t a, ty, pos, aft, gd⟩ ii gone X .no) pd N ⟨l, ds⟩ h := u_gL hw (x_load1 hs.p (e_any ha) hi.p hr) hk
theorem sloadW  (hk : wkO P ops rest N (Fr.put ⟨l, ds⟩ d (.agg cs)) (h)) (hw : wantA ops ⟨l, ds⟩ ⟨d, .load t a, ty, pos, aft, gd⟩ = true := by rfl) (hs : CA P t m := by infer_instance) (ha : evS l a = some (.ptr i 0) := by rfl) (hi : HA h i (.cells cs tt ow) := by infer_instance) (hl : cs.length = m := by rfl) : wkO P ops (⟨d, .load t a, ty, pos, aft, gd⟩ :: rest) N ⟨l, ds⟩ h := s_gL hw (x_loadW hs.p (e_any ha) hi.p hl) hk
theorem qloadW  (hk : wkQ P ops restQ N (Fr.put ⟨l, ds⟩ d (.agg cs)) (h)) (hw : wantA ops ⟨l, ds⟩ ⟨d, .load t a, ty, pos, aft, gd⟩ = true := by rfl) (hs : CA P t m := by infer_instance) (ha : evS l a = some (.ptr i 0) := by rfl) (hi : HA h i (.cells cs tt ow) := by infer_instance) (hl : cs.length = m := by rfl) : wkQ P ops ((⟨d, .load t a, ty, pos, aft, gd⟩, zz) :: restQ) N ⟨l, ds⟩ h := q_gL hw (x_loadW hs.p (e_any ha) hi.p hl) hk
theorem tloadW  (hk : wkX P ops X ((ii, i) :: pd) N (Fr.put ⟨l, ds⟩ d (.agg cs)) (h)) (hw : wantA ops ⟨l, ds⟩ ⟨d, .load t a, ty, pos, aft, gd⟩ = true := by rfl) (hs : CA P t m := by infer_instance) (ha : evS l a = some (.ptr i 0) := by rfl) (hi : HA h i (.cells cs tt ow) := by infer_instance) (hl : cs.length = m := by rfl) : wkX P ops (.light ⟨d, .load t a, ty, pos, aft, gd⟩ ii X) pd N ⟨l, ds⟩ h := t_gR hw (by simp only [readsOf, e_any (ds := ds) ha]) (x_loadW hs.p (e_any ha) hi.p hl) hk
theorem uloadW  (hk : wkX P ops X pd N (Fr.put ⟨l, ds⟩ d (.agg cs)) (h)) (hw : wantA ops ⟨l, ds⟩ ⟨d, .load t a, ty, pos, aft, gd⟩ = true := by rfl) (hs : CA P t m := by infer_instance) (ha : evS l a = some (.ptr i 0) := by rfl) (hi : HA h i (.cells cs tt ow) := by infer_instance) (hl : cs.length = m := by rfl) : wkX P ops (.alt ⟨d, .load t a, ty, pos, aft, gd⟩ ii gone X .no) pd N ⟨l, ds⟩ h := u_gL hw (x_loadW hs.p (e_any ha) hi.p hl) hk
theorem sloadA  (hk : wkO P ops rest N (Fr.put ⟨l, ds⟩ d (.agg ((cs.drop o).take m))) (h)) (hw : wantA ops ⟨l, ds⟩ ⟨d, .load t a, ty, pos, aft, gd⟩ = true := by rfl) (hs : CA P t m := by infer_instance) (ha : evS l a = some (.ptr i o) := by rfl) (hi : HA h i (.cells cs tt ow) := by infer_instance) (hl : o + m ≤ cs.length := by first | exact Nat.le_refl _ | decide | (simp; done) | (simp only [List.length_cons, List.length_nil, List.length_set]; omega)) : wkO P ops (⟨d, .load t a, ty, pos, aft, gd⟩ :: rest) N ⟨l, ds⟩ h := s_gL hw (x_loadA hs.p (e_any ha) hi.p hl) hk
theorem qloadA  (hk : wkQ P ops restQ N (Fr.put ⟨l, ds⟩ d (.agg ((cs.drop o).take m))) (h)) (hw : wantA ops ⟨l, ds⟩ ⟨d, .load t a, ty, pos, aft, gd⟩ = true := by rfl) (hs : CA P t m := by infer_instance) (ha : evS l a = some (.ptr i o) := by rfl) (hi : HA h i (.cells cs tt ow) := by infer_instance) (hl : o + m ≤ cs.length := by first | exact Nat.le_refl _ | decide | (simp; done) | (simp only [List.length_cons, List.length_nil, List.length_set]; omega)) : wkQ P ops ((⟨d, .load t a, ty, pos, aft, gd⟩, zz) :: restQ) N ⟨l, ds⟩ h := q_gL hw (x_loadA hs.p (e_any ha) hi.p hl) hk
theorem tloadA  (hk : wkX P ops X ((ii, i) :: pd) N (Fr.put ⟨l, ds⟩ d (.agg ((cs.drop o).take m))) (h)) (hw : wantA ops ⟨l, ds⟩ ⟨d, .load t a, ty, pos, aft, gd⟩ = true := by rfl) (hs : CA P t m := by infer_instance) (ha : evS l a = some (.ptr i o) := by rfl) (hi : HA h i (.cells cs tt ow) := by infer_instance) (hl : o + m ≤ cs.length := by first | exact Nat.le_refl _ | decide | (simp; done) | (simp only [List.length_cons, List.length_nil, List.length_set]; omega)) : wkX P ops (.light ⟨d, .load t a, ty, pos, aft, gd⟩ ii X) pd N ⟨l, ds⟩ h := t_gR hw (by simp only [readsOf, e_any (ds := ds) ha]) (x_loadA hs.p (e_any ha) hi.p hl) hk
theorem uloadA  (hk : wkX P ops X pd N (Fr.put ⟨l, ds⟩ d (.agg ((cs.drop o).take m))) (h)) (hw : wantA ops ⟨l, ds⟩ ⟨d, .load t a, ty, pos, aft, gd⟩ = true := by rfl) (hs : CA P t m := by infer_instance) (ha : evS l a = some (.ptr i o) := by rfl) (hi : HA h i (.cells cs tt ow) := by infer_instance) (hl : o + m ≤ cs.length := by first | exact Nat.le_refl _ | decide | (simp; done) | (simp only [List.length_cons, List.length_nil, List.length_set]; omega)) : wkX P ops (.alt ⟨d, .load t a, ty, pos, aft, gd⟩ ii gone X .no) pd N ⟨l, ds⟩ h := u_gL hw (x_loadA hs.p (e_any ha) hi.p hl) hk
theorem sloadE1 {α : Type} {enc : α → List AV} {dd : α} {L : List α} {s : AV} (hk : wkO P ops rest N (Fr.put ⟨l, ds⟩ d (r)) (h)) (hw : wantA ops ⟨l, ds⟩ ⟨d, .load t a, ty, pos, aft, gd⟩ = true := by rfl) (hs : C1 P t := by infer_instance) (ha : evS l a = some (elP s 1 x) := by rfl) (hE : EL α enc 1 dd h s L := by infer_instance) (h0 : 0 ≤ x := by omega) (h1 : x < L.length := by omega) (hr : (enc (L.getD x.toNat dd))[0]? = some r := by rfl) : wkO P ops (⟨d, .load t a, ty, pos, aft, gd⟩ :: rest) N ⟨l, ds⟩ h := s_gL hw (x_loadE1 hE.ok dd hE.p hs.p (e_any ha) h0 h1 hr) hk
theorem qloadE1 {α : Type} {enc : α → List AV} {dd : α} {L : List α} {s : AV} (hk : wkQ P ops restQ N (Fr.put ⟨l, ds⟩ d (r)) (h)) (hw : wantA ops ⟨l, ds⟩ ⟨d, .load t a, ty, pos, aft, gd⟩ = true := by rfl) (hs : C1 P t := by infer_instance) (ha : evS l a = some (elP s 1 x) := by rfl) (hE : EL α enc 1 dd h s L := by infer_instance) (h0 : 0 ≤ x := by omega) (h1 : x < L.length := by omega) (hr : (enc (L.getD x.toNat dd))[0]? = some r := by rfl) : wkQ P ops ((⟨d, .load t a, ty, pos, aft, gd⟩, zz) :: restQ) N ⟨l, ds⟩ h := q_gL hw (x_loadE1 hE.ok dd hE.p hs.p (e_any ha) h0 h1 hr) hk
theorem uloadE1 {α : Type} {enc : α → List AV} {dd : α} {L : List α} {s : AV} (hk : wkX P ops X pd N (Fr.put ⟨l, ds⟩ d (r)) (h)) (hw : wantA ops ⟨l, ds⟩ ⟨d, .load t a, ty, pos, aft, gd⟩ = true := by rfl) (hs : C1 P t := by infer_instance) (ha : evS l a = some (elP s 1 x) := by rfl) (hE : EL α enc 1 dd h s L := by infer_instance) (h0 : 0 ≤ x := by omega) (h1 : x < L.length := by omega) (hr : (enc (L.getD x.toNat dd))[0]? = some r := by rfl) : wkX P ops (.alt ⟨d, .load t a, ty, pos, aft, gd⟩ ii gone X .no) pd N ⟨l, ds⟩ h := u_gL hw (x_loadE1 hE.ok dd hE.p hs.p (e_any ha) h0 h1 hr) hk
theorem sloadF {α : Type} {enc : α → List AV} {dd : α} {L : List α} {s : AV} (hk : wkO P ops rest N (Fr.put ⟨l, ds⟩ d (r)) (h)) (hw : wantA ops ⟨l, ds⟩ ⟨d, .load t a, ty, pos, aft, gd⟩ = true := by rfl) (hs : C1 P t := by infer_instance) (ha : evS l a = some (elF s q x off) := by rfl) (hE : EL α enc q dd h s L := by infer_instance) (h0 : 0 ≤ x := by omega) (h1 : x < L.length := by omega) (hr : (enc (L.getD x.toNat dd))[off]? = some r := by rfl) : wkO P ops (⟨d, .load t a, ty, pos, aft, gd⟩ :: rest) N ⟨l, ds⟩ h := s_gL hw (x_loadF hE.ok dd hE.p hs.p (e_any ha) h0 h1 hr) hk
theorem qloadF {α : Type} {enc : α → List AV} {dd : α} {L : List α} {s : AV} (hk : wkQ P ops restQ N (Fr.put ⟨l, ds⟩ d (r)) (h)) (hw : wantA ops ⟨l, ds⟩ ⟨d, .load t a, ty, pos, aft, gd⟩ = true := by rfl) (hs : C1 P t := by infer_instance) (ha : evS l a = some (elF s q x off) := by rfl) (hE : EL α enc q dd h s L := by infer_instance) (h0 : 0 ≤ x := by omega) (h1 : x < L.length := by omega) (hr : (enc (L.getD x.toNat dd))[off]? = some r := by rfl) : wkQ P ops ((⟨d, .load t a, ty, pos, aft, gd⟩, zz) :: restQ) N ⟨l, ds⟩ h := q_gL hw (x_loadF hE.ok dd hE.p hs.p (e_any ha) h0 h1 hr) hk
theorem uloadF {α : Type} {enc : α → List AV} {dd : α} {L : List α} {s : AV} (hk : wkX P ops X pd N (Fr.put ⟨l, ds⟩ d (r)) (h)) (hw : wantA ops ⟨l, ds⟩ ⟨d, .load t a, ty, pos, aft, gd⟩ = true := by rfl) (hs : C1 P t := by infer_instance) (ha : evS l a = some (elF s q x off) := by rfl) (hE : EL α enc q dd h s L := by infer_instance) (h0 : 0 ≤ x := by omega) (h1 : x < L.length := by omega) (hr : (enc (L.getD x.toNat dd))[off]? = some r := by rfl) : wkX P ops (.alt ⟨d, .load t a, ty, pos, aft, gd⟩ ii gone X .no) pd N ⟨l, ds⟩ h := u_gL hw (x_loadF hE.ok dd hE.p hs.p (e_any ha) h0 h1 hr) hk
theorem sloadE {α : Type} {enc : α → List AV} {dd : α} {L : List α} {s : AV} (hk : wkO P ops rest N (Fr.put ⟨l, ds⟩ d (.agg (enc (L.getD x.toNat dd)))) (h)) (hw : wantA ops ⟨l, ds⟩ ⟨d, .load t a, ty, pos, aft, gd⟩ = true := by rfl) (hs : CA P t q := by infer_instance) (ha : evS l a = some (elP s q x) := by rfl) (hE : EL α enc q dd h s L := by infer_instance) (h0 : 0 ≤ x := by omega) (h1 : x < L.length := by omega) : wkO P ops (⟨d, .load t a, ty, pos, aft, gd⟩ :: rest) N ⟨l, ds⟩ h := s_gL hw (x_loadE hE.ok dd hE.p hs.p (e_any ha) h0 h1) hk
theorem qloadE {α : Type} {enc : α → List AV} {dd : α} {L : List α} {s : AV} (hk : wkQ P ops restQ N (Fr.put ⟨l, ds⟩ d (.agg (enc (L.getD x.toNat dd)))) (h)) (hw : wantA ops ⟨l, ds⟩ ⟨d, .load t a, ty, pos, aft, gd⟩ = true := by rfl) (hs : CA P t q := by infer_instance) (ha : evS l a = some (elP s q x) := by rfl) (hE : EL α enc q dd h s L := by infer_instance) (h0 : 0 ≤ x := by omega) (h1 : x < L.length := by omega) : wkQ P ops ((⟨d, .load t a, ty, pos, aft, gd⟩, zz) :: restQ) N ⟨l, ds⟩ h := q_gL hw (x_loadE hE.ok dd hE.p hs.p (e_any ha) h0 h1) hk
theorem uloadE {α : Type} {enc : α → List AV} {dd : α} {L : List α} {s : AV} (hk : wkX P ops X pd N (Fr.put ⟨l, ds⟩ d (.agg (enc (L.getD x.toNat dd)))) (h)) (hw : wantA ops ⟨l, ds⟩ ⟨d, .load t a, ty, pos, aft, gd⟩ = true := by rfl) (hs : CA P t q := by infer_instance) (ha : evS l a = some (elP s q x) := by rfl) (hE : EL α enc q dd h s L := by infer_instance) (h0 : 0 ≤ x := by omega) (h1 : x < L.length := by omega) : wkX P ops (.alt ⟨d, .load t a, ty, pos, aft, gd⟩ ii gone X .no) pd N ⟨l, ds⟩ h := u_gL hw (x_loadE hE.ok dd hE.p hs.p (e_any ha) h0 h1) hk
theorem sbuild {ps : List (Nat × AV)} {parts : Array (Nat × Operand)} (hk : wkO P ops rest N (Fr.put ⟨l, ds⟩ d (r)) (h)) (hw : wantA ops ⟨l, ds⟩ ⟨d, .build t parts, ty, pos, aft, gd⟩ = true := by rfl) (hl : evP l parts.toList = some ps := by rfl) (hb : BD P t ps r := by infer_instance) : wkO P ops (⟨d, .build t parts, ty, pos, aft, gd⟩ :: rest) N ⟨l, ds⟩ h := s_gL hw (x_build (evP_eq hl) hb.p) hk
theorem qbuild {ps : List (Nat × AV)} {parts : Array (Nat × Operand)} (hk : wkQ P ops restQ N (Fr.put ⟨l, ds⟩ d (r)) (h)) (hw : wantA ops ⟨l, ds⟩ ⟨d, .build t parts, ty, pos, aft, gd⟩ = true := by rfl) (hl : evP l parts.toList = some ps := by rfl) (hb : BD P t ps r := by infer_instance) : wkQ P ops ((⟨d, .build t parts, ty, pos, aft, gd⟩, zz) :: restQ) N ⟨l, ds⟩ h := q_gL hw (x_build (evP_eq hl) hb.p) hk
theorem tbuild {ps : List (Nat × AV)} {parts : Array (Nat × Operand)} (hk : wkX P ops X pd N (Fr.put ⟨l, ds⟩ d (r)) (h)) (hw : wantA ops ⟨l, ds⟩ ⟨d, .build t parts, ty, pos, aft, gd⟩ = true := by rfl) (hl : evP l parts.toList = some ps := by rfl) (hb : BD P t ps r := by infer_instance) (hrd : readsOf ⟨l, ds⟩ (.build t parts) = [] := by rfl) : wkX P ops (.light ⟨d, .build t parts, ty, pos, aft, gd⟩ ii X) pd N ⟨l, ds⟩ h := t_gL hw (x_build (evP_eq hl) hb.p) hk hrd
theorem ubuild {ps : List (Nat × AV)} {parts : Array (Nat × Operand)} (hk : wkX P ops X pd N (Fr.put ⟨l, ds⟩ d (r)) (h)) (hw : wantA ops ⟨l, ds⟩ ⟨d, .build t parts, ty, pos, aft, gd⟩ = true := by rfl) (hl : evP l parts.toList = some ps := by rfl) (hb : BD P t ps r := by infer_instance) : wkX P ops (.alt ⟨d, .build t parts, ty, pos, aft, gd⟩ ii gone X .no) pd N ⟨l, ds⟩ h := u_gL hw (x_build (evP_eq hl) hb.p) hk
theorem smif  (hk : wkO P ops rest N (Fr.put ⟨l, ds⟩ d (r)) (h)) (hw : wantA ops ⟨l, ds⟩ ⟨d, .makeInterface t a, ty, pos, aft, gd⟩ = true := by rfl) (ha : evS l a = some (v) := by rfl) (hb : MI P t v r := by infer_instance) : wkO P ops (⟨d, .makeInterface t a, ty, pos, aft, gd⟩ :: rest) N ⟨l, ds⟩ h := s_gL hw (x_mif (e_any ha) hb.p) hk
theorem qmif  (hk : wkQ P ops restQ N (Fr.put ⟨l, ds⟩ d (r)) (h)) (hw : wantA ops ⟨l, ds⟩ ⟨d, .makeInterface t a, ty, pos, aft, gd⟩ = true := by rfl) (ha : evS l a = some (v) := by rfl) (hb : MI P t v r := by infer_instance) : wkQ P ops ((⟨d, .makeInterface t a, ty, pos, aft, gd⟩, zz) :: restQ) N ⟨l, ds⟩ h := q_gL hw (x_mif (e_any ha) hb.p) hk
theorem tmif  (hk : wkX P ops X pd N (Fr.put ⟨l, ds⟩ d (r)) (h)) (hw : wantA ops ⟨l, ds⟩ ⟨d, .makeInterface t a, ty, pos, aft, gd⟩ = true := by rfl) (ha : evS l a = some (v) := by rfl) (hb : MI P t v r := by infer_instance) (hrd : readsOf ⟨l, ds⟩ (.makeInterface t a) = [] := by rfl) : wkX P ops (.light ⟨d, .makeInterface t a, ty, pos, aft, gd⟩ ii X) pd N ⟨l, ds⟩ h := t_gL hw (x_mif (e_any ha) hb.p) hk hrd
theorem umif  (hk : wkX P ops X pd N (Fr.put ⟨l, ds⟩ d (r)) (h)) (hw : wantA ops ⟨l, ds⟩ ⟨d, .makeInterface t a, ty, pos, aft, gd⟩ = true := by rfl) (ha : evS l a = some (v) := by rfl) (hb : MI P t v r := by infer_instance) : wkX P ops (.alt ⟨d, .makeInterface t a, ty, pos, aft, gd⟩ ii gone X .no) pd N ⟨l, ds⟩ h := u_gL hw (x_mif (e_any ha) hb.p) hk
theorem sEq  (h1' : (decide (x = y)) = true → wkO P ops rest N (Fr.put ⟨l, ds⟩ d (.v (.bool true))) (h)) (h2' : (decide (x = y)) = false → wkO P ops rest N (Fr.put ⟨l, ds⟩ d (.v (.bool false))) (h)) (hw : wantA ops ⟨l, ds⟩ ⟨d, .binOp .eql t a b t', ty, pos, aft, gd⟩ = true := by rfl) (ha : evS l a = some (.v (.int k x)) := by rfl) (hb : evS l b = some (.v (.int k y)) := by rfl) : wkO P ops (⟨d, .binOp .eql t a b t', ty, pos, aft, gd⟩ :: rest) N ⟨l, ds⟩ h := s_gB hw (x_eq (e_any ha) (e_any hb)) h1' h2'
theorem qEq  (h1' : (decide (x = y)) = true → wkQ P ops restQ N (Fr.put ⟨l, ds⟩ d (.v (.bool true))) (h)) (h2' : (decide (x = y)) = false → wkQ P ops restQ N (Fr.put ⟨l, ds⟩ d (.v (.bool false))) (h)) (hw : wantA ops ⟨l, ds⟩ ⟨d, .binOp .eql t a b t', ty, pos, aft, gd⟩ = true := by rfl) (ha : evS l a = some (.v (.int k x)) := by rfl) (hb : evS l b = some (.v (.int k y)) := by rfl) : wkQ P ops ((⟨d, .binOp .eql t a b t', ty, pos, aft, gd⟩, zz) :: restQ) N ⟨l, ds⟩ h := q_gB hw (x_eq (e_any ha) (e_any hb)) h1' h2'
theorem tEq  (h1' : (decide (x = y)) = true → wkX P ops X pd N (Fr.put ⟨l, ds⟩ d (.v (.bool true))) (h)) (h2' : (decide (x = y)) = false → wkX P ops X pd N (Fr.put ⟨l, ds⟩ d (.v (.bool false))) (h)) (hw : wantA ops ⟨l, ds⟩ ⟨d, .binOp .eql t a b t', ty, pos, aft, gd⟩ = true := by rfl) (ha : evS l a = some (.v (.int k x)) := by rfl) (hb : evS l b = some (.v (.int k y)) := by rfl) : wkX P ops (.light ⟨d, .binOp .eql t a b t', ty, pos, aft, gd⟩ ii X) pd N ⟨l, ds⟩ h := t_gB hw (x_eq (e_any ha) (e_any hb)) h1' h2' (by rfl)
theorem uEq  (h1' : (decide (x = y)) = true → wkX P ops X pd N (Fr.put ⟨l, ds⟩ d (.v (.bool true))) (h)) (h2' : (decide (x = y)) = false → wkX P ops X pd N (Fr.put ⟨l, ds⟩ d (.v (.bool false))) (h)) (hw : wantA ops ⟨l, ds⟩ ⟨d, .binOp .eql t a b t', ty, pos, aft, gd⟩ = true := by rfl) (ha : evS l a = some (.v (.int k x)) := by rfl) (hb : evS l b = some (.v (.int k y)) := by rfl) : wkX P ops (.alt ⟨d, .binOp .eql t a b t', ty, pos, aft, gd⟩ ii gone X .no) pd N ⟨l, ds⟩ h := u_gB hw (x_eq (e_any ha) (e_any hb)) h1' h2'
theorem sNe  (h1' : (decide (x ≠ y)) = true → wkO P ops rest N (Fr.put ⟨l, ds⟩ d (.v (.bool true))) (h)) (h2' : (decide (x ≠ y)) = false → wkO P ops rest N (Fr.put ⟨l, ds⟩ d (.v (.bool false))) (h)) (hw : wantA ops ⟨l, ds⟩ ⟨d, .binOp .neq t a b t', ty, pos, aft, gd⟩ = true := by rfl) (ha : evS l a = some (.v (.int k x)) := by rfl) (hb : evS l b = some (.v (.int k y)) := by rfl) : wkO P ops (⟨d, .binOp .neq t a b t', ty, pos, aft, gd⟩ :: rest) N ⟨l, ds⟩ h := s_gB hw (x_ne (e_any ha) (e_any hb)) h1' h2'
theorem qNe  (h1' : (decide (x ≠ y)) = true → wkQ P ops restQ N (Fr.put ⟨l, ds⟩ d (.v (.bool true))) (h)) (h2' : (decide (x ≠ y)) = false → wkQ P ops restQ N (Fr.put ⟨l, ds⟩ d (.v (.bool false))) (h)) (hw : wantA ops ⟨l, ds⟩ ⟨d, .binOp .neq t a b t', ty, pos, aft, gd⟩ = true := by rfl) (ha : evS l a = some (.v (.int k x)) := by rfl) (hb : evS l b = some (.v (.int k y)) := by rfl) : wkQ P ops ((⟨d, .binOp .neq t a b t', ty, pos, aft, gd⟩, zz) :: restQ) N ⟨l, ds⟩ h := q_gB hw (x_ne (e_any ha) (e_any hb)) h1' h2'
theorem tNe  (h1' : (decide (x ≠ y)) = true → wkX P ops X pd N (Fr.put ⟨l, ds⟩ d (.v (.bool true))) (h)) (h2' : (decide (x ≠ y)) = false → wkX P ops X pd N (Fr.put ⟨l, ds⟩ d (.v (.bool false))) (h)) (hw : wantA ops ⟨l, ds⟩ ⟨d, .binOp .neq t a b t', ty, pos, aft, gd⟩ = true := by rfl) (ha : evS l a = some (.v (.int k x)) := by rfl) (hb : evS l b = some (.v (.int k y)) := by rfl) : wkX P ops (.light ⟨d, .binOp .neq t a b t', ty, pos, aft, gd⟩ ii X) pd N ⟨l, ds⟩ h := t_gB hw (x_ne (e_any ha) (e_any hb)) h1' h2' (by rfl)
theorem uNe  (h1' : (decide (x ≠ y)) = true → wkX P ops X pd N (Fr.put ⟨l, ds⟩ d (.v (.bool true))) (h)) (h2' : (decide (x ≠ y)) = false → wkX P ops X pd N (Fr.put ⟨l, ds⟩ d (.v (.bool false))) (h)) (hw : wantA ops ⟨l, ds⟩ ⟨d, .binOp .neq t a b t', ty, pos, aft, gd⟩ = true := by rfl) (ha : evS l a = some (.v (.int k x)) := by rfl) (hb : evS l b = some (.v (.int k y)) := by rfl) : wkX P ops (.alt ⟨d, .binOp .neq t a b t', ty, pos, aft, gd⟩ ii gone X .no) pd N ⟨l, ds⟩ h := u_gB hw (x_ne (e_any ha) (e_any hb)) h1' h2'
theorem sLt  (h1' : (decide (x < y)) = true → wkO P ops rest N (Fr.put ⟨l, ds⟩ d (.v (.bool true))) (h)) (h2' : (decide (x < y)) = false → wkO P ops rest N (Fr.put ⟨l, ds⟩ d (.v (.bool false))) (h)) (hw : wantA ops ⟨l, ds⟩ ⟨d, .binOp .lss t a b t', ty, pos, aft, gd⟩ = true := by rfl) (ha : evS l a = some (.v (.int k x)) := by rfl) (hb : evS l b = some (.v (.int k y)) := by rfl) : wkO P ops (⟨d, .binOp .lss t a b t', ty, pos, aft, gd⟩ :: rest) N ⟨l, ds⟩ h := s_gB hw (x_lt (e_any ha) (e_any hb)) h1' h2'
theorem qLt  (h1' : (decide (x < y)) = true → wkQ P ops restQ N (Fr.put ⟨l, ds⟩ d (.v (.bool true))) (h)) (h2' : (decide (x < y)) = false → wkQ P ops restQ N (Fr.put ⟨l, ds⟩ d (.v (.bool false))) (h)) (hw : wantA ops ⟨l, ds⟩ ⟨d, .binOp .lss t a b t', ty, pos, aft, gd⟩ = true := by rfl) (ha : evS l a = some (.v (.int k x)) := by rfl) (hb : evS l b = some (.v (.int k y)) := by rfl) : wkQ P ops ((⟨d, .binOp .lss t a b t', ty, pos, aft, gd⟩, zz) :: restQ) N ⟨l, ds⟩ h := q_gB hw (x_lt (e_any ha) (e_any hb)) h1' h2'
theorem tLt  (h1' : (decide (x < y)) = true → wkX P ops X pd N (Fr.put ⟨l, ds⟩ d (.v (.bool true))) (h)) (h2' : (decide (x < y)) = false → wkX P ops X pd N (Fr.put ⟨l, ds⟩ d (.v (.bool false))) (h)) (hw : wantA ops ⟨l, ds⟩ ⟨d, .binOp .lss t a b t', ty, pos, aft, gd⟩ = true := by rfl) (ha : evS l a = some (.v (.int k x)) := by rfl) (hb : evS l b = some (.v (.int k y)) := by rfl) : wkX P ops (.light ⟨d, .binOp .lss t a b t', ty, pos, aft, gd⟩ ii X) pd N ⟨l, ds⟩ h := t_gB hw (x_lt (e_any ha) (e_any hb)) h1' h2' (by rfl)
theorem uLt  (h1' : (decide (x < y)) = true → wkX P ops X pd N (Fr.put ⟨l, ds⟩ d (.v (.bool true))) (h)) (h2' : (decide (x < y)) = false → wkX P ops X pd N (Fr.put ⟨l, ds⟩ d (.v (.bool false))) (h)) (hw : wantA ops ⟨l, ds⟩ ⟨d, .binOp .lss t a b t', ty, pos, aft, gd⟩ = true := by rfl) (ha : evS l a = some (.v (.int k x)) := by rfl) (hb : evS l b = some (.v (.int k y)) := by rfl) : wkX P ops (.alt ⟨d, .binOp .lss t a b t', ty, pos, aft, gd⟩ ii gone X .no) pd N ⟨l, ds⟩ h := u_gB hw (x_lt (e_any ha) (e_any hb)) h1' h2'
theorem sLe  (h1' : (decide (x ≤ y)) = true → wkO P ops rest N (Fr.put ⟨l, ds⟩ d (.v (.bool true))) (h)) (h2' : (decide (x ≤ y)) = false → wkO P ops rest N (Fr.put ⟨l, ds⟩ d (.v (.bool false))) (h)) (hw : wantA ops ⟨l, ds⟩ ⟨d, .binOp .leq t a b t', ty, pos, aft, gd⟩ = true := by rfl) (ha : evS l a = some (.v (.int k x)) := by rfl) (hb : evS l b = some (.v (.int k y)) := by rfl) : wkO P ops (⟨d, .binOp .leq t a b t', ty, pos, aft, gd⟩ :: rest) N ⟨l, ds⟩ h := s_gB hw (x_le (e_any ha) (e_any hb)) h1' h2'
theorem qLe  (h1' : (decide (x ≤ y)) = true → wkQ P ops restQ N (Fr.put ⟨l, ds⟩ d (.v (.bool true))) (h)) (h2' : (decide (x ≤ y)) = false → wkQ P ops restQ N (Fr.put ⟨l, ds⟩ d (.v (.bool false))) (h)) (hw : wantA ops ⟨l, ds⟩ ⟨d, .binOp .leq t a b t', ty, pos, aft, gd⟩ = true := by rfl) (ha : evS l a = some (.v (.int k x)) := by rfl) (hb : evS l b = some (.v (.int k y)) := by rfl) : wkQ P ops ((⟨d, .binOp .leq t a b t', ty, pos, aft, gd⟩, zz) :: restQ) N ⟨l, ds⟩ h := q_gB hw (x_le (e_any ha) (e_any hb)) h1' h2'
theorem tLe  (h1' : (decide (x ≤ y)) = true → wkX P ops X pd N (Fr.put ⟨l, ds⟩ d (.v (.bool true))) (h)) (h2' : (decide (x ≤ y)) = false → wkX P ops X pd N (Fr.put ⟨l, ds⟩ d (.v (.bool false))) (h)) (hw : wantA ops ⟨l, ds⟩ ⟨d, .binOp .leq t a b t', ty, pos, aft, gd⟩ = true := by rfl) (ha : evS l a = some (.v (.int k x)) := by rfl) (hb : evS l b = some (.v (.int k y)) := by rfl) : wkX P ops (.light ⟨d, .binOp .leq t a b t', ty, pos, aft, gd⟩ ii X) pd N ⟨l, ds⟩ h := t_gB hw (x_le (e_any ha) (e_any hb)) h1' h2' (by rfl)
theorem uLe  (h1' : (decide (x ≤ y)) = true → wkX P ops X pd N (Fr.put ⟨l, ds⟩ d (.v (.bool true))) (h)) (h2' : (decide (x ≤ y)) = false → wkX P ops X pd N (Fr.put ⟨l, ds⟩ d (.v (.bool false))) (h)) (hw : wantA ops ⟨l, ds⟩ ⟨d, .binOp .leq t a b t', ty, pos, aft, gd⟩ = true := by rfl) (ha : evS l a = some (.v (.int k x)) := by rfl) (hb : evS l b = some (.v (.int k y)) := by rfl) : wkX P ops (.alt ⟨d, .binOp .leq t a b t', ty, pos, aft, gd⟩ ii gone X .no) pd N ⟨l, ds⟩ h := u_gB hw (x_le (e_any ha) (e_any hb)) h1' h2'
theorem sGt  (h1' : (decide (y < x)) = true → wkO P ops rest N (Fr.put ⟨l, ds⟩ d (.v (.bool true))) (h)) (h2' : (decide (y < x)) = false → wkO P ops rest N (Fr.put ⟨l, ds⟩ d (.v (.bool false))) (h)) (hw : wantA ops ⟨l, ds⟩ ⟨d, .binOp .gtr t a b t', ty, pos, aft, gd⟩ = true := by rfl) (ha : evS l a = some (.v (.int k x)) := by rfl) (hb : evS l b = some (.v (.int k y)) := by rfl) : wkO P ops (⟨d, .binOp .gtr t a b t', ty, pos, aft, gd⟩ :: rest) N ⟨l, ds⟩ h := s_gB hw (x_gt (e_any ha) (e_any hb)) h1' h2'
theorem qGt  (h1' : (decide (y < x)) = true → wkQ P ops restQ N (Fr.put ⟨l, ds⟩ d (.v (.bool true))) (h)) (h2' : (decide (y < x)) = false → wkQ P ops restQ N (Fr.put ⟨l, ds⟩ d (.v (.bool false))) (h)) (hw : wantA ops ⟨l, ds⟩ ⟨d, .binOp .gtr t a b t', ty, pos, aft, gd⟩ = true := by rfl) (ha : evS l a = some (.v (.int k x)) := by rfl) (hb : evS l b = some (.v (.int k y)) := by rfl) : wkQ P ops ((⟨d, .binOp .gtr t a b t', ty, pos, aft, gd⟩, zz) :: restQ) N ⟨l, ds⟩ h := q_gB hw (x_gt (e_any ha) (e_any hb)) h1' h2'
theorem tGt  (h1' : (decide (y < x)) = true → wkX P ops X pd N (Fr.put ⟨l, ds⟩ d (.v (.bool true))) (h)) (h2' : (decide (y < x)) = false → wkX P ops X pd N (Fr.put ⟨l, ds⟩ d (.v (.bool false))) (h)) (hw : wantA ops ⟨l, ds⟩ ⟨d, .binOp .gtr t a b t', ty, pos, aft, gd⟩ = true := by rfl) (ha : evS l a = some (.v (.int k x)) := by rfl) (hb : evS l b = some (.v (.int k y)) := by rfl) : wkX P ops (.light ⟨d, .binOp .gtr t a b t', ty, pos, aft, gd⟩ ii X) pd N ⟨l, ds⟩ h := t_gB hw (x_gt (e_any ha) (e_any hb)) h1' h2' (by rfl)
theorem uGt  (h1' : (decide (y < x)) = true → wkX P ops X pd N (Fr.put ⟨l, ds⟩ d (.v (.bool true))) (h)) (h2' : (decide (y < x)) = false → wkX P ops X pd N (Fr.put ⟨l, ds⟩ d (.v (.bool false))) (h)) (hw : wantA ops ⟨l, ds⟩ ⟨d, .binOp .gtr t a b t', ty, pos, aft, gd⟩ = true := by rfl) (ha : evS l a = some (.v (.int k x)) := by rfl) (hb : evS l b = some (.v (.int k y)) := by rfl) : wkX P ops (.alt ⟨d, .binOp .gtr t a b t', ty, pos, aft, gd⟩ ii gone X .no) pd N ⟨l, ds⟩ h := u_gB hw (x_gt (e_any ha) (e_any hb)) h1' h2'
theorem sGe  (h1' : (decide (y ≤ x)) = true → wkO P ops rest N (Fr.put ⟨l, ds⟩ d (.v (.bool true))) (h)) (h2' : (decide (y ≤ x)) = false → wkO P ops rest N (Fr.put ⟨l, ds⟩ d (.v (.bool false))) (h)) (hw : wantA ops ⟨l, ds⟩ ⟨d, .binOp .geq t a b t', ty, pos, aft, gd⟩ = true := by rfl) (ha : evS l a = some (.v (.int k x)) := by rfl) (hb : evS l b = some (.v (.int k y)) := by rfl) : wkO P ops (⟨d, .binOp .geq t a b t', ty, pos, aft, gd⟩ :: rest) N ⟨l, ds⟩ h := s_gB hw (x_ge (e_any ha) (e_any hb)) h1' h2'
theorem qGe  (h1' : (decide (y ≤ x)) = true → wkQ P ops restQ N (Fr.put ⟨l, ds⟩ d (.v (.bool true))) (h)) (h2' : (decide (y ≤ x)) = false → wkQ P ops restQ N (Fr.put ⟨l, ds⟩ d (.v (.bool false))) (h)) (hw : wantA ops ⟨l, ds⟩ ⟨d, .binOp .geq t a b t', ty, pos, aft, gd⟩ = true := by rfl) (ha : evS l a = some (.v (.int k x)) := by rfl) (hb : evS l b = some (.v (.int k y)) := by rfl) : wkQ P ops ((⟨d, .binOp .geq t a b t', ty, pos, aft, gd⟩, zz) :: restQ) N ⟨l, ds⟩ h := q_gB hw (x_ge (e_any ha) (e_any hb)) h1' h2'
theorem tGe  (h1' : (decide (y ≤ x)) = true → wkX P ops X pd N (Fr.put ⟨l, ds⟩ d (.v (.bool true))) (h)) (h2' : (decide (y ≤ x)) = false → wkX P ops X pd N (Fr.put ⟨l, ds⟩ d (.v (.bool false))) (h)) (hw : wantA ops ⟨l, ds⟩ ⟨d, .binOp .geq t a b t', ty, pos, aft, gd⟩ = true := by rfl) (ha : evS l a = some (.v (.int k x)) := by rfl) (hb : evS l b = some (.v (.int k y)) := by rfl) : wkX P ops (.light ⟨d, .binOp .geq t a b t', ty, pos, aft, gd⟩ ii X) pd N ⟨l, ds⟩ h := t_gB hw (x_ge (e_any ha) (e_any hb)) h1' h2' (by rfl)
theorem uGe  (h1' : (decide (y ≤ x)) = true → wkX P ops X pd N (Fr.put ⟨l, ds⟩ d (.v (.bool true))) (h)) (h2' : (decide (y ≤ x)) = false → wkX P ops X pd N (Fr.put ⟨l, ds⟩ d (.v (.bool false))) (h)) (hw : wantA ops ⟨l, ds⟩ ⟨d, .binOp .geq t a b t', ty, pos, aft, gd⟩ = true := by rfl) (ha : evS l a = some (.v (.int k x)) := by rfl) (hb : evS l b = some (.v (.int k y)) := by rfl) : wkX P ops (.alt ⟨d, .binOp .geq t a b t', ty, pos, aft, gd⟩ ii gone X .no) pd N ⟨l, ds⟩ h := u_gB hw (x_ge (e_any ha) (e_any hb)) h1' h2'
theorem seqB {x1 x2 : Bool} (h1' : (x1 == x2) = true → wkO P ops rest N (Fr.put ⟨l, ds⟩ d (.v (.bool true))) (h)) (h2' : (x1 == x2) = false → wkO P ops rest N (Fr.put ⟨l, ds⟩ d (.v (.bool false))) (h)) (hw : wantA ops ⟨l, ds⟩ ⟨d, .binOp .eql t a b t', ty, pos, aft, gd⟩ = true := by rfl) (hs : CB P t := by infer_instance) (ha : evS l a = some (.v (.bool x1)) := by rfl) (hb : evS l b = some (.v (.bool x2)) := by rfl) : wkO P ops (⟨d, .binOp .eql t a b t', ty, pos, aft, gd⟩ :: rest) N ⟨l, ds⟩ h := s_gB hw (x_eqB hs.p (e_any ha) (e_any hb)) h1' h2'
theorem qeqB {x1 x2 : Bool} (h1' : (x1 == x2) = true → wkQ P ops restQ N (Fr.put ⟨l, ds⟩ d (.v (.bool true))) (h)) (h2' : (x1 == x2) = false → wkQ P ops restQ N (Fr.put ⟨l, ds⟩ d (.v (.bool false))) (h)) (hw : wantA ops ⟨l, ds⟩ ⟨d, .binOp .eql t a b t', ty, pos, aft, gd⟩ = true := by rfl) (hs : CB P t := by infer_instance) (ha : evS l a = some (.v (.bool x1)) := by rfl) (hb : evS l b = some (.v (.bool x2)) := by rfl) : wkQ P ops ((⟨d, .binOp .eql t a b t', ty, pos, aft, gd⟩, zz) :: restQ) N ⟨l, ds⟩ h := q_gB hw (x_eqB hs.p (e_any ha) (e_any hb)) h1' h2'
theorem teqB {x1 x2 : Bool} (h1' : (x1 == x2) = true → wkX P ops X pd N (Fr.put ⟨l, ds⟩ d (.v (.bool true))) (h)) (h2' : (x1 == x2) = false → wkX P ops X pd N (Fr.put ⟨l, ds⟩ d (.v (.bool false))) (h)) (hw : wantA ops ⟨l, ds⟩ ⟨d, .binOp .eql t a b t', ty, pos, aft, gd⟩ = true := by rfl) (hs : CB P t := by infer_instance) (ha : evS l a = some (.v (.bool x1)) := by rfl) (hb : evS l b = some (.v (.bool x2)) := by rfl) : wkX P ops (.light ⟨d, .binOp .eql t a b t', ty, pos, aft, gd⟩ ii X) pd N ⟨l, ds⟩ h := t_gB hw (x_eqB hs.p (e_any ha) (e_any hb)) h1' h2' (by rfl)
theorem ueqB {x1 x2 : Bool} (h1' : (x1 == x2) = true → wkX P ops X pd N (Fr.put ⟨l, ds⟩ d (.v (.bool true))) (h)) (h2' : (x1 == x2) = false → wkX P ops X pd N (Fr.put ⟨l, ds⟩ d (.v (.bool false))) (h)) (hw : wantA ops ⟨l, ds⟩ ⟨d, .binOp .eql t a b t', ty, pos, aft, gd⟩ = true := by rfl) (hs : CB P t := by infer_instance) (ha : evS l a = some (.v (.bool x1)) := by rfl) (hb : evS l b = some (.v (.bool x2)) := by rfl) : wkX P ops (.alt ⟨d, .binOp .eql t a b t', ty, pos, aft, gd⟩ ii gone X .no) pd N ⟨l, ds⟩ h := u_gB hw (x_eqB hs.p (e_any ha) (e_any hb)) h1' h2'
theorem sneB {x1 x2 : Bool} (h1' : (!(x1 == x2)) = true → wkO P ops rest N (Fr.put ⟨l, ds⟩ d (.v (.bool true))) (h)) (h2' : (!(x1 == x2)) = false → wkO P ops rest N (Fr.put ⟨l, ds⟩ d (.v (.bool false))) (h)) (hw : wantA ops ⟨l, ds⟩ ⟨d, .binOp .neq t a b t', ty, pos, aft, gd⟩ = true := by rfl) (hs : CB P t := by infer_instance) (ha : evS l a = some (.v (.bool x1)) := by rfl) (hb : evS l b = some (.v (.bool x2)) := by rfl) : wkO P ops (⟨d, .binOp .neq t a b t', ty, pos, aft, gd⟩ :: rest) N ⟨l, ds⟩ h := s_gB hw (x_neB hs.p (e_any ha) (e_any hb)) h1' h2'
theorem qneB {x1 x2 : Bool} (h1' : (!(x1 == x2)) = true → wkQ P ops restQ N (Fr.put ⟨l, ds⟩ d (.v (.bool true))) (h)) (h2' : (!(x1 == x2)) = false → wkQ P ops restQ N (Fr.put ⟨l, ds⟩ d (.v (.bool false))) (h)) (hw : wantA ops ⟨l, ds⟩ ⟨d, .binOp .neq t a b t', ty, pos, aft, gd⟩ = true := by rfl) (hs : CB P t := by infer_instance) (ha : evS l a = some (.v (.bool x1)) := by rfl) (hb : evS l b = some (.v (.bool x2)) := by rfl) : wkQ P ops ((⟨d, .binOp .neq t a b t', ty, pos, aft, gd⟩, zz) :: restQ) N ⟨l, ds⟩ h := q_gB hw (x_neB hs.p (e_any ha) (e_any hb)) h1' h2'
theorem tneB {x1 x2 : Bool} (h1' : (!(x1 == x2)) = true → wkX P ops X pd N (Fr.put ⟨l, ds⟩ d (.v (.bool true))) (h)) (h2' : (!(x1 == x2)) = false → wkX P ops X pd N (Fr.put ⟨l, ds⟩ d (.v (.bool false))) (h)) (hw : wantA ops ⟨l, ds⟩ ⟨d, .binOp .neq t a b t', ty, pos, aft, gd⟩ = true := by rfl) (hs : CB P t := by infer_instance) (ha : evS l a = some (.v (.bool x1)) := by rfl) (hb : evS l b = some (.v (.bool x2)) := by rfl) : wkX P ops (.light ⟨d, .binOp .neq t a b t', ty, pos, aft, gd⟩ ii X) pd N ⟨l, ds⟩ h := t_gB hw (x_neB hs.p (e_any ha) (e_any hb)) h1' h2' (by rfl)
theorem uneB {x1 x2 : Bool} (h1' : (!(x1 == x2)) = true → wkX P ops X pd N (Fr.put ⟨l, ds⟩ d (.v (.bool true))) (h)) (h2' : (!(x1 == x2)) = false → wkX P ops X pd N (Fr.put ⟨l, ds⟩ d (.v (.bool false))) (h)) (hw : wantA ops ⟨l, ds⟩ ⟨d, .binOp .neq t a b t', ty, pos, aft, gd⟩ = true := by rfl) (hs : CB P t := by infer_instance) (ha : evS l a = some (.v (.bool x1)) := by rfl) (hb : evS l b = some (.v (.bool x2)) := by rfl) : wkX P ops (.alt ⟨d, .binOp .neq t a b t', ty, pos, aft, gd⟩ ii gone X .no) pd N ⟨l, ds⟩ h := u_gB hw (x_neB hs.p (e_any ha) (e_any hb)) h1' h2'
theorem seqS {l1 l2 : List UInt8} (h1' : (decide (l1 = l2)) = true → wkO P ops rest N (Fr.put ⟨l, ds⟩ d (.v (.bool true))) (h)) (h2' : (decide (l1 = l2)) = false → wkO P ops rest N (Fr.put ⟨l, ds⟩ d (.v (.bool false))) (h)) (hw : wantA ops ⟨l, ds⟩ ⟨d, .binOp .eql t a b t', ty, pos, aft, gd⟩ = true := by rfl) (ha : evS l a = some (St l1) := by rfl) (hb : evS l b = some (St l2) := by rfl) : wkO P ops (⟨d, .binOp .eql t a b t', ty, pos, aft, gd⟩ :: rest) N ⟨l, ds⟩ h := s_gB hw (x_eqS (e_any ha) (e_any hb)) h1' h2'
theorem qeqS {l1 l2 : List UInt8} (h1' : (decide (l1 = l2)) = true → wkQ P ops restQ N (Fr.put ⟨l, ds⟩ d (.v (.bool true))) (h)) (h2' : (decide (l1 = l2)) = false → wkQ P ops restQ N (Fr.put ⟨l, ds⟩ d (.v (.bool false))) (h)) (hw : wantA ops ⟨l, ds⟩ ⟨d, .binOp .eql t a b t', ty, pos, aft, gd⟩ = true := by rfl) (ha : evS l a = some (St l1) := by rfl) (hb : evS l b = some (St l2) := by rfl) : wkQ P ops ((⟨d, .binOp .eql t a b t', ty, pos, aft, gd⟩, zz) :: restQ) N ⟨l, ds⟩ h := q_gB hw (x_eqS (e_any ha) (e_any hb)) h1' h2'
theorem teqS {l1 l2 : List UInt8} (h1' : (decide (l1 = l2)) = true → wkX P ops X pd N (Fr.put ⟨l, ds⟩ d (.v (.bool true))) (h)) (h2' : (decide (l1 = l2)) = false → wkX P ops X pd N (Fr.put ⟨l, ds⟩ d (.v (.bool false))) (h)) (hw : wantA ops ⟨l, ds⟩ ⟨d, .binOp .eql t a b t', ty, pos, aft, gd⟩ = true := by rfl) (ha : evS l a = some (St l1) := by rfl) (hb : evS l b = some (St l2) := by rfl) : wkX P ops (.light ⟨d, .binOp .eql t a b t', ty, pos, aft, gd⟩ ii X) pd N ⟨l, ds⟩ h := t_gB hw (x_eqS (e_any ha) (e_any hb)) h1' h2' (by rfl)
theorem ueqS {l1 l2 : List UInt8} (h1' : (decide (l1 = l2)) = true → wkX P ops X pd N (Fr.put ⟨l, ds⟩ d (.v (.bool true))) (h)) (h2' : (decide (l1 = l2)) = false → wkX P ops X pd N (Fr.put ⟨l, ds⟩ d (.v (.bool false))) (h)) (hw : wantA ops ⟨l, ds⟩ ⟨d, .binOp .eql t a b t', ty, pos, aft, gd⟩ = true := by rfl) (ha : evS l a = some (St l1) := by rfl) (hb : evS l b = some (St l2) := by rfl) : wkX P ops (.alt ⟨d, .binOp .eql t a b t', ty, pos, aft, gd⟩ ii gone X .no) pd N ⟨l, ds⟩ h := u_gB hw (x_eqS (e_any ha) (e_any hb)) h1' h2'
theorem sneS {l1 l2 : List UInt8} (h1' : (!decide (l1 = l2)) = true → wkO P ops rest N (Fr.put ⟨l, ds⟩ d (.v (.bool true))) (h)) (h2' : (!decide (l1 = l2)) = false → wkO P ops rest N (Fr.put ⟨l, ds⟩ d (.v (.bool false))) (h)) (hw : wantA ops ⟨l, ds⟩ ⟨d, .binOp .neq t a b t', ty, pos, aft, gd⟩ = true := by rfl) (ha : evS l a = some (St l1) := by rfl) (hb : evS l b = some (St l2) := by rfl) : wkO P ops (⟨d, .binOp .neq t a b t', ty, pos, aft, gd⟩ :: rest) N ⟨l, ds⟩ h := s_gB hw (x_neS (e_any ha) (e_any hb)) h1' h2'
theorem qneS {l1 l2 : List UInt8} (h1' : (!decide (l1 = l2)) = true → wkQ P ops restQ N (Fr.put ⟨l, ds⟩ d (.v (.bool true))) (h)) (h2' : (!decide (l1 = l2)) = false → wkQ P ops restQ N (Fr.put ⟨l, ds⟩ d (.v (.bool false))) (h)) (hw : wantA ops ⟨l, ds⟩ ⟨d, .binOp .neq t a b t', ty, pos, aft, gd⟩ = true := by rfl) (ha : evS l a = some (St l1) := by rfl) (hb : evS l b = some (St l2) := by rfl) : wkQ P ops ((⟨d, .binOp .neq t a b t', ty, pos, aft, gd⟩, zz) :: restQ) N ⟨l, ds⟩ h := q_gB hw (x_neS (e_any ha) (e_any hb)) h1' h2'
theorem tneS {l1 l2 : List UInt8} (h1' : (!decide (l1 = l2)) = true → wkX P ops X pd N (Fr.put ⟨l, ds⟩ d (.v (.bool true))) (h)) (h2' : (!decide (l1 = l2)) = false → wkX P ops X pd N (Fr.put ⟨l, ds⟩ d (.v (.bool false))) (h)) (hw : wantA ops ⟨l, ds⟩ ⟨d, .binOp .neq t a b t', ty, pos, aft, gd⟩ = true := by rfl) (ha : evS l a = some (St l1) := by rfl) (hb : evS l b = some (St l2) := by rfl) : wkX P ops (.light ⟨d, .binOp .neq t a b t', ty, pos, aft, gd⟩ ii X) pd N ⟨l, ds⟩ h := t_gB hw (x_neS (e_any ha) (e_any hb)) h1' h2' (by rfl)
theorem uneS {l1 l2 : List UInt8} (h1' : (!decide (l1 = l2)) = true → wkX P ops X pd N (Fr.put ⟨l, ds⟩ d (.v (.bool true))) (h)) (h2' : (!decide (l1 = l2)) = false → wkX P ops X pd N (Fr.put ⟨l, ds⟩ d (.v (.bool false))) (h)) (hw : wantA ops ⟨l, ds⟩ ⟨d, .binOp .neq t a b t', ty, pos, aft, gd⟩ = true := by rfl) (ha : evS l a = some (St l1) := by rfl) (hb : evS l b = some (St l2) := by rfl) : wkX P ops (.alt ⟨d, .binOp .neq t a b t', ty, pos, aft, gd⟩ ii gone X .no) pd N ⟨l, ds⟩ h := u_gB hw (x_neS (e_any ha) (e_any hb)) h1' h2'
theorem sbn {bo : BinOp} {u1 u2 : AV} {bb : Bool} (h1' : (bb) = true → wkO P ops rest N (Fr.put ⟨l, ds⟩ d (.v (.bool true))) (h)) (h2' : (bb) = false → wkO P ops rest N (Fr.put ⟨l, ds⟩ d (.v (.bool false))) (h)) (hw : wantA ops ⟨l, ds⟩ ⟨d, .binOp bo t a b t', ty, pos, aft, gd⟩ = true := by rfl) (ha : evS l a = some (u1) := by rfl) (hb : evS l b = some (u2) := by rfl) (hr : BN P bo t u1 u2 bb := by infer_instance) : wkO P ops (⟨d, .binOp bo t a b t', ty, pos, aft, gd⟩ :: rest) N ⟨l, ds⟩ h := s_gB hw (x_bin (e_any ha) (e_any hb) hr.p) h1' h2'
theorem qbn {bo : BinOp} {u1 u2 : AV} {bb : Bool} (h1' : (bb) = true → wkQ P ops restQ N (Fr.put ⟨l, ds⟩ d (.v (.bool true))) (h)) (h2' : (bb) = false → wkQ P ops restQ N (Fr.put ⟨l, ds⟩ d (.v (.bool false))) (h)) (hw : wantA ops ⟨l, ds⟩ ⟨d, .binOp bo t a b t', ty, pos, aft, gd⟩ = true := by rfl) (ha : evS l a = some (u1) := by rfl) (hb : evS l b = some (u2) := by rfl) (hr : BN P bo t u1 u2 bb := by infer_instance) : wkQ P ops ((⟨d, .binOp bo t a b t', ty, pos, aft, gd⟩, zz) :: restQ) N ⟨l, ds⟩ h := q_gB hw (x_bin (e_any ha) (e_any hb) hr.p) h1' h2'
theorem tbn {bo : BinOp} {u1 u2 : AV} {bb : Bool} (h1' : (bb) = true → wkX P ops X pd N (Fr.put ⟨l, ds⟩ d (.v (.bool true))) (h)) (h2' : (bb) = false → wkX P ops X pd N (Fr.put ⟨l, ds⟩ d (.v (.bool false))) (h)) (hw : wantA ops ⟨l, ds⟩ ⟨d, .binOp bo t a b t', ty, pos, aft, gd⟩ = true := by rfl) (ha : evS l a = some (u1) := by rfl) (hb : evS l b = some (u2) := by rfl) (hr : BN P bo t u1 u2 bb := by infer_instance) : wkX P ops (.light ⟨d, .binOp bo t a b t', ty, pos, aft, gd⟩ ii X) pd N ⟨l, ds⟩ h := t_gB hw (x_bin (e_any ha) (e_any hb) hr.p) h1' h2' (by rfl)
theorem ubn {bo : BinOp} {u1 u2 : AV} {bb : Bool} (h1' : (bb) = true → wkX P ops X pd N (Fr.put ⟨l, ds⟩ d (.v (.bool true))) (h)) (h2' : (bb) = false → wkX P ops X pd N (Fr.put ⟨l, ds⟩ d (.v (.bool false))) (h)) (hw : wantA ops ⟨l, ds⟩ ⟨d, .binOp bo t a b t', ty, pos, aft, gd⟩ = true := by rfl) (ha : evS l a = some (u1) := by rfl) (hb : evS l b = some (u2) := by rfl) (hr : BN P bo t u1 u2 bb := by infer_instance) : wkX P ops (.alt ⟨d, .binOp bo t a b t', ty, pos, aft, gd⟩ ii gone X .no) pd N ⟨l, ds⟩ h := u_gB hw (x_bin (e_any ha) (e_any hb) hr.p) h1' h2'
theorem sloadB1 {bb : Bool} (h1' : (bb) = true → wkO P ops rest N (Fr.put ⟨l, ds⟩ d (.v (.bool true))) (h)) (h2' : (bb) = false → wkO P ops rest N (Fr.put ⟨l, ds⟩ d (.v (.bool false))) (h)) (hw : wantA ops ⟨l, ds⟩ ⟨d, .load t a, ty, pos, aft, gd⟩ = true := by rfl) (hB : CB P t := by infer_instance) (hs : C1 P t := by infer_instance) (ha : evS l a = some (.ptr i o) := by rfl) (hi : HA h i (.cells cs tt ow) := by infer_instance) (hr : cs[o]? = some (.v (.bool bb)) := by rfl) : wkO P ops (⟨d, .load t a, ty, pos, aft, gd⟩ :: rest) N ⟨l, ds⟩ h := s_gB hw (x_load1 hs.p (e_any ha) hi.p hr) h1' h2'
theorem qloadB1 {bb : Bool} (h1' : (bb) = true → wkQ P ops restQ N (Fr.put ⟨l, ds⟩ d (.v (.bool true))) (h)) (h2' : (bb) = false → wkQ P ops restQ N (Fr.put ⟨l, ds⟩ d (.v (.bool false))) (h)) (hw : wantA ops ⟨l, ds⟩ ⟨d, .load t a, ty, pos, aft, gd⟩ = true := by rfl) (hB : CB P t := by infer_instance) (hs : C1 P t := by infer_instance) (ha : evS l a = some (.ptr i o) := by rfl) (hi : HA h i (.cells cs tt ow) := by infer_instance) (hr : cs[o]? = some (.v (.bool bb)) := by rfl) : wkQ P ops ((⟨d, .load t a, ty, pos, aft, gd⟩, zz) :: restQ) N ⟨l, ds⟩ h := q_gB hw (x_load1 hs.p (e_any ha) hi.p hr) h1' h2'
theorem tloadB1 {bb : Bool} (h1' : (bb) = true → wkX P ops X ((ii, i) :: pd) N (Fr.put ⟨l, ds⟩ d (.v (.bool true))) (h)) (h2' : (bb) = false → wkX P ops X ((ii, i) :: pd) N (Fr.put ⟨l, ds⟩ d (.v (.bool false))) (h)) (hw : wantA ops ⟨l, ds⟩ ⟨d, .load t a, ty, pos, aft, gd⟩ = true := by rfl) (hB : CB P t := by infer_instance) (hs : C1 P t := by infer_instance) (ha : evS l a = some (.ptr i o) := by rfl) (hi : HA h i (.cells cs tt ow) := by infer_instance) (hr : cs[o]? = some (.v (.bool bb)) := by rfl) : wkX P ops (.light ⟨d, .load t a, ty, pos, aft, gd⟩ ii X) pd N ⟨l, ds⟩ h := t_gRB hw (by simp only [readsOf, e_any (ds := ds) ha]) (x_load1 hs.p (e_any ha) hi.p hr) h1' h2'
theorem uloadB1 {bb : Bool} (h1' : (bb) = true → wkX P ops X pd N (Fr.put ⟨l, ds⟩ d (.v (.bool true))) (h)) (h2' : (bb) = false → wkX P ops X pd N (Fr.put ⟨l, ds⟩ d (.v (.bool false))) (h)) (hw : wantA ops ⟨l, ds⟩ ⟨d, .load t a, ty, pos, aft, gd⟩ = true := by rfl) (hB : CB P t := by infer_instance) (hs : C1 P t := by infer_instance) (ha : evS l a = some (.ptr i o) := by rfl) (hi : HA h i (.cells cs tt ow) := by infer_instance) (hr : cs[o]? = some (.v (.bool bb)) := by rfl) : wkX P ops (.alt ⟨d, .load t a, ty, pos, aft, gd⟩ ii gone X .no) pd N ⟨l, ds⟩ h := u_gB hw (x_load1 hs.p (e_any ha) hi.p hr) h1' h2'
theorem sloadBF {α : Type} {enc : α → List AV} {dd : α} {L : List α} {s : AV} {bb : Bool} (h1' : (bb) = true → wkO P ops rest N (Fr.put ⟨l, ds⟩ d (.v (.bool true))) (h)) (h2' : (bb) = false → wkO P ops rest N (Fr.put ⟨l, ds⟩ d (.v (.bool false))) (h)) (hw : wantA ops ⟨l, ds⟩ ⟨d, .load t a, ty, pos, aft, gd⟩ = true := by rfl) (hB : CB P t := by infer_instance) (hs : C1 P t := by infer_instance) (ha : evS l a = some (elF s q x off) := by rfl) (hE : EL α enc q dd h s L := by infer_instance) (h0 : 0 ≤ x := by omega) (h1 : x < L.length := by omega) (hr : (enc (L.getD x.toNat dd))[off]? = some (.v (.bool bb)) := by rfl) : wkO P ops (⟨d, .load t a, ty, pos, aft, gd⟩ :: rest) N ⟨l, ds⟩ h := s_gB hw (x_loadF hE.ok dd hE.p hs.p (e_any ha) h0 h1 hr) h1' h2'
theorem qloadBF {α : Type} {enc : α → List AV} {dd : α} {L : List α} {s : AV} {bb : Bool} (h1' : (bb) = true → wkQ P ops restQ N (Fr.put ⟨l, ds⟩ d (.v (.bool true))) (h)) (h2' : (bb) = false → wkQ P ops restQ N (Fr.put ⟨l, ds⟩ d (.v (.bool false))) (h)) (hw : wantA ops ⟨l, ds⟩ ⟨d, .load t a, ty, pos, aft, gd⟩ = true := by rfl) (hB : CB P t := by infer_instance) (hs : C1 P t := by infer_instance) (ha : evS l a = some (elF s q x off) := by rfl) (hE : EL α enc q dd h s L := by infer_instance) (h0 : 0 ≤ x := by omega) (h1 : x < L.length := by omega) (hr : (enc (L.getD x.toNat dd))[off]? = some (.v (.bool bb)) := by rfl) : wkQ P ops ((⟨d, .load t a, ty, pos, aft, gd⟩, zz) :: restQ) N ⟨l, ds⟩ h := q_gB hw (x_loadF hE.ok dd hE.p hs.p (e_any ha) h0 h1 hr) h1' h2'
theorem uloadBF {α : Type} {enc : α → List AV} {dd : α} {L : List α} {s : AV} {bb : Bool} (h1' : (bb) = true → wkX P ops X pd N (Fr.put ⟨l, ds⟩ d (.v (.bool true))) (h)) (h2' : (bb) = false → wkX P ops X pd N (Fr.put ⟨l, ds⟩ d (.v (.bool false))) (h)) (hw : wantA ops ⟨l, ds⟩ ⟨d, .load t a, ty, pos, aft, gd⟩ = true := by rfl) (hB : CB P t := by infer_instance) (hs : C1 P t := by infer_instance) (ha : evS l a = some (elF s q x off) := by rfl) (hE : EL α enc q dd h s L := by infer_instance) (h0 : 0 ≤ x := by omega) (h1 : x < L.length := by omega) (hr : (enc (L.getD x.toNat dd))[off]? = some (.v (.bool bb)) := by rfl) : wkX P ops (.alt ⟨d, .load t a, ty, pos, aft, gd⟩ ii gone X .no) pd N ⟨l, ds⟩ h := u_gB hw (x_loadF hE.ok dd hE.p hs.p (e_any ha) h0 h1 hr) h1' h2'
theorem salloc  (hk : wkO P ops rest N (Fr.put ⟨l, ds⟩ d (.ptr h.length 0)) (h ++ [.cells vs t true])) (hw : wantA ops ⟨l, ds⟩ ⟨d, .alloc t, ty, pos, aft, gd⟩ = true := by rfl) (hz : CZ P t vs := by infer_instance) : wkO P ops (⟨d, .alloc t, ty, pos, aft, gd⟩ :: rest) N ⟨l, ds⟩ h := s_gH hw (x_alloc hz.p) hk
theorem ualloc  (hk : wkX P ops X pd N (Fr.put ⟨l, ds⟩ d (.ptr h.length 0)) (h ++ [.cells vs t true])) (hw : wantA ops ⟨l, ds⟩ ⟨d, .alloc t, ty, pos, aft, gd⟩ = true := by rfl) (hz : CZ P t vs := by infer_instance) (hst : stayG gone pd h (h ++ [.cells vs t true]) := by repeat' first | exact trivial | refine ⟨.inl rfl, ?_⟩ | refine ⟨.inr (by first | rfl | exact List.getElem?_set_ne (by omega) | exact ha_same inferInstance inferInstance | (simp; done)), ?_⟩) : wkX P ops (.alt ⟨d, .alloc t, ty, pos, aft, gd⟩ ii gone X .no) pd N ⟨l, ds⟩ h := u_gH hw (x_alloc hz.p) hst hk
theorem sbox1  (hk : wkO P ops rest N (Fr.put ⟨l, ds⟩ d (.ptr h.length 0)) (h ++ [.cells [v] t true])) (hw : wantA ops ⟨l, ds⟩ ⟨d, .box t a, ty, pos, aft, gd⟩ = true := by rfl) (hs : C1 P t := by infer_instance) (ha : evS l a = some (v) := by rfl) (hp : v.plain = true := by first | rfl | exact PlC.p) : wkO P ops (⟨d, .box t a, ty, pos, aft, gd⟩ :: rest) N ⟨l, ds⟩ h := s_gH hw (x_box1 hs.p (e_any ha) hp) hk
theorem ubox1  (hk : wkX P ops X pd N (Fr.put ⟨l, ds⟩ d (.ptr h.length 0)) (h ++ [.cells [v] t true])) (hw : wantA ops ⟨l, ds⟩ ⟨d, .box t a, ty, pos, aft, gd⟩ = true := by rfl) (hs : C1 P t := by infer_instance) (ha : evS l a = some (v) := by rfl) (hp : v.plain = true := by first | rfl | exact PlC.p) (hst : stayG gone pd h (h ++ [.cells [v] t true]) := by repeat' first | exact trivial | refine ⟨.inl rfl, ?_⟩ | refine ⟨.inr (by first | rfl | exact List.getElem?_set_ne (by omega) | exact ha_same inferInstance inferInstance | (simp; done)), ?_⟩) : wkX P ops (.alt ⟨d, .box t a, ty, pos, aft, gd⟩ ii gone X .no) pd N ⟨l, ds⟩ h := u_gH hw (x_box1 hs.p (e_any ha) hp) hst hk
theorem sboxA  (hk : wkO P ops rest N (Fr.put ⟨l, ds⟩ d (.ptr h.length 0)) (h ++ [.cells vs t true])) (hw : wantA ops ⟨l, ds⟩ ⟨d, .box t a, ty, pos, aft, gd⟩ = true := by rfl) (hs : CA P t m := by infer_instance) (ha : evS l a = some (.agg vs) := by rfl) (hp : allOne vs = true := by first | rfl | exact AllP.p) (hv : vs.length = m := by rfl) : wkO P ops (⟨d, .box t a, ty, pos, aft, gd⟩ :: rest) N ⟨l, ds⟩ h := s_gH hw (x_boxA hs.p (e_any ha) hp hv) hk
theorem uboxA  (hk : wkX P ops X pd N (Fr.put ⟨l, ds⟩ d (.ptr h.length 0)) (h ++ [.cells vs t true])) (hw : wantA ops ⟨l, ds⟩ ⟨d, .box t a, ty, pos, aft, gd⟩ = true := by rfl) (hs : CA P t m := by infer_instance) (ha : evS l a = some (.agg vs) := by rfl) (hp : allOne vs = true := by first | rfl | exact AllP.p) (hv : vs.length = m := by rfl) (hst : stayG gone pd h (h ++ [.cells vs t true]) := by repeat' first | exact trivial | refine ⟨.inl rfl, ?_⟩ | refine ⟨.inr (by first | rfl | exact List.getElem?_set_ne (by omega) | exact ha_same inferInstance inferInstance | (simp; done)), ?_⟩) : wkX P ops (.alt ⟨d, .box t a, ty, pos, aft, gd⟩ ii gone X .no) pd N ⟨l, ds⟩ h := u_gH hw (x_boxA hs.p (e_any ha) hp hv) hst hk
theorem sstore1  (hk : wkO P ops rest N (Fr.put ⟨l, ds⟩ d (.v undef)) (h.set i (.cells (cs.set o v) tt true))) (hw : wantA ops ⟨l, ds⟩ ⟨d, .store t a b, ty, pos, aft, gd⟩ = true := by rfl) (hs : C1 P t := by infer_instance) (ha : evS l a = some (.ptr i o) := by rfl) (hb : evS l b = some (v) := by rfl) (hp : v.plain = true := by first | rfl | exact PlC.p) (hi : HA h i (.cells cs tt true) := by infer_instance) (hl : o < cs.length := by first | exact Nat.le_refl _ | decide | (simp; done) | (simp only [List.length_cons, List.length_nil, List.length_set]; omega)) : wkO P ops (⟨d, .store t a b, ty, pos, aft, gd⟩ :: rest) N ⟨l, ds⟩ h := s_gH hw (x_store1 hs.p (e_any ha) (e_any hb) hp hi.p hl) hk
theorem ustore1  (hk : wkX P ops X pd N (Fr.put ⟨l, ds⟩ d (.v undef)) (h.set i (.cells (cs.set o v) tt true))) (hw : wantA ops ⟨l, ds⟩ ⟨d, .store t a b, ty, pos, aft, gd⟩ = true := by rfl) (hs : C1 P t := by infer_instance) (ha : evS l a = some (.ptr i o) := by rfl) (hb : evS l b = some (v) := by rfl) (hp : v.plain = true := by first | rfl | exact PlC.p) (hi : HA h i (.cells cs tt true) := by infer_instance) (hl : o < cs.length := by first | exact Nat.le_refl _ | decide | (simp; done) | (simp only [List.length_cons, List.length_nil, List.length_set]; omega)) (hst : stayG gone pd h (h.set i (.cells (cs.set o v) tt true)) := by repeat' first | exact trivial | refine ⟨.inl rfl, ?_⟩ | refine ⟨.inr (by first | rfl | exact List.getElem?_set_ne (by omega) | exact ha_same inferInstance inferInstance | (simp; done)), ?_⟩) : wkX P ops (.alt ⟨d, .store t a b, ty, pos, aft, gd⟩ ii gone X .no) pd N ⟨l, ds⟩ h := u_gH hw (x_store1 hs.p (e_any ha) (e_any hb) hp hi.p hl) hst hk
theorem sstoreF  (hk : wkO P ops rest N (Fr.put ⟨l, ds⟩ d (.v undef)) (h.set i (.cells vs tt true))) (hw : wantA ops ⟨l, ds⟩ ⟨d, .store t a b, ty, pos, aft, gd⟩ = true := by rfl) (hs : CA P t m := by infer_instance) (ha : evS l a = some (.ptr i 0) := by rfl) (hb : evS l b = some (.agg vs) := by rfl) (hp : allOne vs = true := by first | rfl | exact AllP.p) (hv : vs.length = m := by rfl) (hi : HA h i (.cells cs tt true) := by infer_instance) (hl : cs.length = m := by rfl) : wkO P ops (⟨d, .store t a b, ty, pos, aft, gd⟩ :: rest) N ⟨l, ds⟩ h := s_gH hw (x_storeF hs.p (e_any ha) (e_any hb) hp hv hi.p hl) hk
theorem ustoreF  (hk : wkX P ops X pd N (Fr.put ⟨l, ds⟩ d (.v undef)) (h.set i (.cells vs tt true))) (hw : wantA ops ⟨l, ds⟩ ⟨d, .store t a b, ty, pos, aft, gd⟩ = true := by rfl) (hs : CA P t m := by infer_instance) (ha : evS l a = some (.ptr i 0) := by rfl) (hb : evS l b = some (.agg vs) := by rfl) (hp : allOne vs = true := by first | rfl | exact AllP.p) (hv : vs.length = m := by rfl) (hi : HA h i (.cells cs tt true) := by infer_instance) (hl : cs.length = m := by rfl) (hst : stayG gone pd h (h.set i (.cells vs tt true)) := by repeat' first | exact trivial | refine ⟨.inl rfl, ?_⟩ | refine ⟨.inr (by first | rfl | exact List.getElem?_set_ne (by omega) | exact ha_same inferInstance inferInstance | (simp; done)), ?_⟩) : wkX P ops (.alt ⟨d, .store t a b, ty, pos, aft, gd⟩ ii gone X .no) pd N ⟨l, ds⟩ h := u_gH hw (x_storeF hs.p (e_any ha) (e_any hb) hp hv hi.p hl) hst hk
theorem sstoreA  (hk : wkO P ops rest N (Fr.put ⟨l, ds⟩ d (.v undef)) (h.set i (.cells (setMany cs o vs) tt true))) (hw : wantA ops ⟨l, ds⟩ ⟨d, .store t a b, ty, pos, aft, gd⟩ = true := by rfl) (hs : CA P t m := by infer_instance) (ha : evS l a = some (.ptr i o) := by rfl) (hb : evS l b = some (.agg vs) := by rfl) (hp : allOne vs = true := by first | rfl | exact AllP.p) (hv : vs.length = m := by rfl) (hi : HA h i (.cells cs tt true) := by infer_instance) (hl : o + m ≤ cs.length := by first | exact Nat.le_refl _ | decide | (simp; done) | (simp only [List.length_cons, List.length_nil, List.length_set]; omega)) : wkO P ops (⟨d, .store t a b, ty, pos, aft, gd⟩ :: rest) N ⟨l, ds⟩ h := s_gH hw (x_storeA hs.p (e_any ha) (e_any hb) hp hv hi.p hl) hk
theorem ustoreA  (hk : wkX P ops X pd N (Fr.put ⟨l, ds⟩ d (.v undef)) (h.set i (.cells (setMany cs o vs) tt true))) (hw : wantA ops ⟨l, ds⟩ ⟨d, .store t a b, ty, pos, aft, gd⟩ = true := by rfl) (hs : CA P t m := by infer_instance) (ha : evS l a = some (.ptr i o) := by rfl) (hb : evS l b = some (.agg vs) := by rfl) (hp : allOne vs = true := by first | rfl | exact AllP.p) (hv : vs.length = m := by rfl) (hi : HA h i (.cells cs tt true) := by infer_instance) (hl : o + m ≤ cs.length := by first | exact Nat.le_refl _ | decide | (simp; done) | (simp only [List.length_cons, List.length_nil, List.length_set]; omega)) (hst : stayG gone pd h (h.set i (.cells (setMany cs o vs) tt true)) := by repeat' first | exact trivial | refine ⟨.inl rfl, ?_⟩ | refine ⟨.inr (by first | rfl | exact List.getElem?_set_ne (by omega) | exact ha_same inferInstance inferInstance | (simp; done)), ?_⟩) : wkX P ops (.alt ⟨d, .store t a b, ty, pos, aft, gd⟩ ii gone X .no) pd N ⟨l, ds⟩ h := u_gH hw (x_storeA hs.p (e_any ha) (e_any hb) hp hv hi.p hl) hst hk
theorem sbsl {ps : List (Nat × AV)} {parts : Array (Nat × Operand)} {len : Nat} (hk : wkO P ops rest N (Fr.put ⟨l, ds⟩ d (.sl h.length 0 len len false)) (h ++ [.cells cs e true])) (hw : wantA ops ⟨l, ds⟩ ⟨d, .buildSlice t len parts, ty, pos, aft, gd⟩ = true := by rfl) (hl : evP l parts.toList = some ps := by rfl) (hb : BS P t len ps e cs := by infer_instance) : wkO P ops (⟨d, .buildSlice t len parts, ty, pos, aft, gd⟩ :: rest) N ⟨l, ds⟩ h := s_gH hw (x_bsl (evP_eq hl) hb.p) hk
theorem ubsl {ps : List (Nat × AV)} {parts : Array (Nat × Operand)} {len : Nat} (hk : wkX P ops X pd N (Fr.put ⟨l, ds⟩ d (.sl h.length 0 len len false)) (h ++ [.cells cs e true])) (hw : wantA ops ⟨l, ds⟩ ⟨d, .buildSlice t len parts, ty, pos, aft, gd⟩ = true := by rfl) (hl : evP l parts.toList = some ps := by rfl) (hb : BS P t len ps e cs := by infer_instance) (hst : stayG gone pd h (h ++ [.cells cs e true]) := by repeat' first | exact trivial | refine ⟨.inl rfl, ?_⟩ | refine ⟨.inr (by first | rfl | exact List.getElem?_set_ne (by omega) | exact ha_same inferInstance inferInstance | (simp; done)), ?_⟩) : wkX P ops (.alt ⟨d, .buildSlice t len parts, ty, pos, aft, gd⟩ ii gone X .no) pd N ⟨l, ds⟩ h := u_gH hw (x_bsl (evP_eq hl) hb.p) hst hk
theorem sK {op : Op} {g : FuncId} {args : List AV} {rr : AV} (hc : ACalls P g args [] (fun r' _ => r' = rr ∧ r'.sc 0 = true)) (hk : wkO P ops rest N (Fr.put ⟨l, ds⟩ d (rr)) (h)) (hw : wantA ops ⟨l, ds⟩ ⟨d, op, ty, pos, aft, gd⟩ = true := by rfl) (hx : callOf ⟨l, ds⟩ op = some (g, args) := by rfl) (hg : CO P g := by infer_instance) (hs : AV.scs 0 args = true := by rfl) : wkO P ops (⟨d, op, ty, pos, aft, gd⟩ :: rest) N ⟨l, ds⟩ h := s_gK hw hx hg.p hs hc hk
theorem sKB {op : Op} {g : FuncId} {args : List AV} {bb : Bool} (hc : ACalls P g args [] (fun r' _ => r' = .v (.bool bb) ∧ r'.sc 0 = true)) (h1' : bb = true → wkO P ops rest N (Fr.put ⟨l, ds⟩ d (.v (.bool true))) (h)) (h2' : bb = false → wkO P ops rest N (Fr.put ⟨l, ds⟩ d (.v (.bool false))) (h)) (hw : wantA ops ⟨l, ds⟩ ⟨d, op, ty, pos, aft, gd⟩ = true := by rfl) (hx : callOf ⟨l, ds⟩ op = some (g, args) := by rfl) (hg : CO P g := by infer_instance) (hs : AV.scs 0 args = true := by rfl) : wkO P ops (⟨d, op, ty, pos, aft, gd⟩ :: rest) N ⟨l, ds⟩ h := s_gKB hw hx hg.p hs hc h1' h2'
theorem sM {op : Op} {g : FuncId} {args : List AV} {rr : AV} (hc : ACalls P g args h (fun r' h' => r' = rr ∧ h' = h)) (hk : wkO P ops rest N (Fr.put ⟨l, ds⟩ d (rr)) (h)) (hw : wantA ops ⟨l, ds⟩ ⟨d, op, ty, pos, aft, gd⟩ = true := by rfl) (hx : callOf ⟨l, ds⟩ op = some (g, args) := by rfl) (hg : CO P g := by infer_instance) : wkO P ops (⟨d, op, ty, pos, aft, gd⟩ :: rest) N ⟨l, ds⟩ h := s_gM hw hx hg.p hc hk
theorem sMB {op : Op} {g : FuncId} {args : List AV} {bb : Bool} (hc : ACalls P g args h (fun r' h' => r' = .v (.bool bb) ∧ h' = h)) (h1' : bb = true → wkO P ops rest N (Fr.put ⟨l, ds⟩ d (.v (.bool true))) (h)) (h2' : bb = false → wkO P ops rest N (Fr.put ⟨l, ds⟩ d (.v (.bool false))) (h)) (hw : wantA ops ⟨l, ds⟩ ⟨d, op, ty, pos, aft, gd⟩ = true := by rfl) (hx : callOf ⟨l, ds⟩ op = some (g, args) := by rfl) (hg : CO P g := by infer_instance) : wkO P ops (⟨d, op, ty, pos, aft, gd⟩ :: rest) N ⟨l, ds⟩ h := s_gMB hw hx hg.p hc h1' h2'
theorem sX {op : Op} {g : FuncId} {args : List AV} {rr : AV} {H' : Hp} (hc : ACalls P g args h (fun r' h' => r' = rr ∧ h' = H')) (hk : wkO P ops rest N (Fr.put ⟨l, ds⟩ d (rr)) (H')) (hw : wantA ops ⟨l, ds⟩ ⟨d, op, ty, pos, aft, gd⟩ = true := by rfl) (hx : callOf ⟨l, ds⟩ op = some (g, args) := by rfl) (hg : CO P g := by infer_instance) : wkO P ops (⟨d, op, ty, pos, aft, gd⟩ :: rest) N ⟨l, ds⟩ h := s_gX hw hx hg.p hc hk
theorem sC {op : Op} {g : FuncId} {args : List AV} (hc : ACalls P g args h (fun r' h' => wkO P ops rest N (Fr.put ⟨l, ds⟩ d r') h')) (hw : wantA ops ⟨l, ds⟩ ⟨d, op, ty, pos, aft, gd⟩ = true := by rfl) (hx : callOf ⟨l, ds⟩ op = some (g, args) := by rfl) (hg : CO P g := by infer_instance) : wkO P ops (⟨d, op, ty, pos, aft, gd⟩ :: rest) N ⟨l, ds⟩ h := s_gC hw hx hg.p hc
theorem qK {op : Op} {g : FuncId} {args : List AV} {rr : AV} (hc : ACalls P g args [] (fun r' _ => r' = rr ∧ r'.sc 0 = true)) (hk : wkQ P ops restQ N (Fr.put ⟨l, ds⟩ d (rr)) (h)) (hw : wantA ops ⟨l, ds⟩ ⟨d, op, ty, pos, aft, gd⟩ = true := by rfl) (hx : callOf ⟨l, ds⟩ op = some (g, args) := by rfl) (hg : CO P g := by infer_instance) (hs : AV.scs 0 args = true := by rfl) : wkQ P ops ((⟨d, op, ty, pos, aft, gd⟩, false) :: restQ) N ⟨l, ds⟩ h := q_gK hw hx hg.p hs hc hk
theorem qKB {op : Op} {g : FuncId} {args : List AV} {bb : Bool} (hc : ACalls P g args [] (fun r' _ => r' = .v (.bool bb) ∧ r'.sc 0 = true)) (h1' : bb = true → wkQ P ops restQ N (Fr.put ⟨l, ds⟩ d (.v (.bool true))) (h)) (h2' : bb = false → wkQ P ops restQ N (Fr.put ⟨l, ds⟩ d (.v (.bool false))) (h)) (hw : wantA ops ⟨l, ds⟩ ⟨d, op, ty, pos, aft, gd⟩ = true := by rfl) (hx : callOf ⟨l, ds⟩ op = some (g, args) := by rfl) (hg : CO P g := by infer_instance) (hs : AV.scs 0 args = true := by rfl) : wkQ P ops ((⟨d, op, ty, pos, aft, gd⟩, false) :: restQ) N ⟨l, ds⟩ h := q_gKB hw hx hg.p hs hc h1' h2'
theorem qM {op : Op} {g : FuncId} {args : List AV} {rr : AV} (hc : ACalls P g args h (fun r' h' => r' = rr ∧ h' = h)) (hk : wkQ P ops restQ N (Fr.put ⟨l, ds⟩ d (rr)) (h)) (hw : wantA ops ⟨l, ds⟩ ⟨d, op, ty, pos, aft, gd⟩ = true := by rfl) (hx : callOf ⟨l, ds⟩ op = some (g, args) := by rfl) (hg : CO P g := by infer_instance) : wkQ P ops ((⟨d, op, ty, pos, aft, gd⟩, false) :: restQ) N ⟨l, ds⟩ h := q_gM hw hx hg.p hc hk
theorem qMB {op : Op} {g : FuncId} {args : List AV} {bb : Bool} (hc : ACalls P g args h (fun r' h' => r' = .v (.bool bb) ∧ h' = h)) (h1' : bb = true → wkQ P ops restQ N (Fr.put ⟨l, ds⟩ d (.v (.bool true))) (h)) (h2' : bb = false → wkQ P ops restQ N (Fr.put ⟨l, ds⟩ d (.v (.bool false))) (h)) (hw : wantA ops ⟨l, ds⟩ ⟨d, op, ty, pos, aft, gd⟩ = true := by rfl) (hx : callOf ⟨l, ds⟩ op = some (g, args) := by rfl) (hg : CO P g := by infer_instance) : wkQ P ops ((⟨d, op, ty, pos, aft, gd⟩, false) :: restQ) N ⟨l, ds⟩ h := q_gMB hw hx hg.p hc h1' h2'
theorem uK {op : Op} {g : FuncId} {args : List AV} {rr : AV} (hc : ACalls P g args [] (fun r' _ => r' = rr ∧ r'.sc 0 = true)) (hk : wkX P ops X pd N (Fr.put ⟨l, ds⟩ d (rr)) (h)) (hw : wantA ops ⟨l, ds⟩ ⟨d, op, ty, pos, aft, gd⟩ = true := by rfl) (hx : callOf ⟨l, ds⟩ op = some (g, args) := by rfl) (hg : CO P g := by infer_instance) (hs : AV.scs 0 args = true := by rfl) : wkX P ops (.alt ⟨d, op, ty, pos, aft, gd⟩ ii gone X .no) pd N ⟨l, ds⟩ h := u_gK hw hx hg.p hs hc hk
theorem uKB {op : Op} {g : FuncId} {args : List AV} {bb : Bool} (hc : ACalls P g args [] (fun r' _ => r' = .v (.bool bb) ∧ r'.sc 0 = true)) (h1' : bb = true → wkX P ops X pd N (Fr.put ⟨l, ds⟩ d (.v (.bool true))) (h)) (h2' : bb = false → wkX P ops X pd N (Fr.put ⟨l, ds⟩ d (.v (.bool false))) (h)) (hw : wantA ops ⟨l, ds⟩ ⟨d, op, ty, pos, aft, gd⟩ = true := by rfl) (hx : callOf ⟨l, ds⟩ op = some (g, args) := by rfl) (hg : CO P g := by infer_instance) (hs : AV.scs 0 args = true := by rfl) : wkX P ops (.alt ⟨d, op, ty, pos, aft, gd⟩ ii gone X .no) pd N ⟨l, ds⟩ h := u_gKB hw hx hg.p hs hc h1' h2'
theorem uM {op : Op} {g : FuncId} {args : List AV} {rr : AV} (hc : ACalls P g args h (fun r' h' => r' = rr ∧ h' = h)) (hk : wkX P ops X pd N (Fr.put ⟨l, ds⟩ d (rr)) (h)) (hw : wantA ops ⟨l, ds⟩ ⟨d, op, ty, pos, aft, gd⟩ = true := by rfl) (hx : callOf ⟨l, ds⟩ op = some (g, args) := by rfl) (hg : CO P g := by infer_instance) : wkX P ops (.alt ⟨d, op, ty, pos, aft, gd⟩ ii gone X .no) pd N ⟨l, ds⟩ h := u_gM hw hx hg.p hc hk
theorem uMB {op : Op} {g : FuncId} {args : List AV} {bb : Bool} (hc : ACalls P g args h (fun r' h' => r' = .v (.bool bb) ∧ h' = h)) (h1' : bb = true → wkX P ops X pd N (Fr.put ⟨l, ds⟩ d (.v (.bool true))) (h)) (h2' : bb = false → wkX P ops X pd N (Fr.put ⟨l, ds⟩ d (.v (.bool false))) (h)) (hw : wantA ops ⟨l, ds⟩ ⟨d, op, ty, pos, aft, gd⟩ = true := by rfl) (hx : callOf ⟨l, ds⟩ op = some (g, args) := by rfl) (hg : CO P g := by infer_instance) : wkX P ops (.alt ⟨d, op, ty, pos, aft, gd⟩ ii gone X .no) pd N ⟨l, ds⟩ h := u_gMB hw hx hg.p hc h1' h2'
theorem sN {op : Op} {gg : Nat × Bool} (hk : wkO P ops rest N (Fr.put ⟨l, ds⟩ d (.v undef)) (h)) (hw : wantA ops ⟨l, ds⟩ ⟨d, op, ty, pos, aft, some gg⟩ = false := by rfl) : wkO P ops (⟨d, op, ty, pos, aft, some gg⟩ :: rest) N ⟨l, ds⟩ h := s_gN hw hk
theorem qN {op : Op} {gg : Nat × Bool} (hk : wkQ P ops restQ N (Fr.put ⟨l, ds⟩ d (.v undef)) (h)) (hw : wantA ops ⟨l, ds⟩ ⟨d, op, ty, pos, aft, some gg⟩ = false := by rfl) : wkQ P ops ((⟨d, op, ty, pos, aft, some gg⟩, zz) :: restQ) N ⟨l, ds⟩ h := q_gN hw hk
theorem tN {op : Op} {gg : Nat × Bool} (hk : wkX P ops X pd N (Fr.put ⟨l, ds⟩ d (.v undef)) (h)) (hw : wantA ops ⟨l, ds⟩ ⟨d, op, ty, pos, aft, some gg⟩ = false := by rfl) : wkX P ops (.light ⟨d, op, ty, pos, aft, some gg⟩ ii X) pd N ⟨l, ds⟩ h := t_gN hw hk
theorem uN {op : Op} {gg : Nat × Bool} (hk : wkX P ops X pd N (Fr.put ⟨l, ds⟩ d (.v undef)) (h)) (hw : wantA ops ⟨l, ds⟩ ⟨d, op, ty, pos, aft, some gg⟩ = false := by rfl) : wkX P ops (.alt ⟨d, op, ty, pos, aft, some gg⟩ ii gone X .no) pd N ⟨l, ds⟩ h := u_gN hw hk
theorem sCT {m : Nat} {ro : Option Nat} {K : Exit → Fr → Hp → Prop} {cc dd : Code} (hk : wk P m ro cc K ⟨l, ds⟩ h) (hc : evS l a = some (.v (.bool true)) := by rfl) : wk P m ro (.cond a cc dd) K ⟨l, ds⟩ h := s_condT (e_any hc) hk
theorem sCF {m : Nat} {ro : Option Nat} {K : Exit → Fr → Hp → Prop} {cc dd : Code} (hk : wk P m ro dd K ⟨l, ds⟩ h) (hc : evS l a = some (.v (.bool false)) := by rfl) : wk P m ro (.cond a cc dd) K ⟨l, ds⟩ h := s_condF (e_any hc) hk
theorem sApp {s u : AV} (hr : app P h [t, t] s u = some (r, h')) (hk : wkO P ops rest N (Fr.put ⟨l, ds⟩ d r) h') (hw : wantA ops ⟨l, ds⟩ ⟨d, .call ⟨.builtin .append, #[a, b], #[t, t]⟩, ty, pos, aft, gd⟩ = true := by rfl) (ha : evS l a = some s := by rfl) (hb : evS l b = some u := by rfl) : wkO P ops (⟨d, .call ⟨.builtin .append, #[a, b], #[t, t]⟩, ty, pos, aft, gd⟩ :: rest) N ⟨l, ds⟩ h := s_gH hw (x_app (e_any ha) (e_any hb) hr) hk
end
section
variable {P : Program} {h : Hp} {l : List AV} {t t' tt i o m : Nat} {cs : List AV} {ow : Bool} {r : AV} {fn : Func} {N : AV → Hp → Prop}
/-! Results. -/
class RV (P : Program) (l : List AV) (h : Hp) (v : ResultVar) (r : AV) : Prop where
  p : resOne P ⟨l, []⟩ h v = some r
theorem rv_t (hl : l[t]? = some r) : resOne P ⟨l, []⟩ h (.tmp t) = some r := v_t hl
end
end Go.Az
/-
  Slices of any elements that are passed in, alone or in a struct: what the statement's own memory says of them, as an abstract memory that is only read. Conditions: stated at each theorem.
-/
set_option linter.unusedSimpArgs false
set_option linter.unusedVariables false
namespace Go.Az
open Go Go.Chz Go.ChangeShapes

abbrev vEnc {α : Type} (encV : α → List Value) (x : α) : List AV := (encV x).map AV.v
structure RowX where
  a : Option Addr
  len : Nat
  cap : Nat
  cs : List Value
  t : TypeId
def RowX.obj (r : RowX) : AObj := .cells (r.cs.map AV.v) r.t false
def RowX.av (r : RowX) (i : Nat) : AV := match r.a with
  | none => .v (.slice none 0 0)
  | some _ => .sl i 0 r.len r.cap false
def RowX.place (r : RowX) : Place := match r.a with
  | none => ⟨0, 0, 0⟩
  | some ad => ⟨ad.block, ad.off, r.cap⟩
def rhoX (rs : List RowX) (i : Nat) : Place := match rs[i]? with
  | some r => r.place
  | none => ⟨0, 0, 0⟩
def RowX.ok (W : World) (r : RowX) : Prop := (r.a = none ∧ r.len = 0 ∧ r.cap = 0 ∧ r.cs = []) ∨ ∃ ad, r.a = some ad ∧ r.len ≤ r.cap ∧ ad.spot = none ∧ ∀ j v, r.cs[j]? = some v → W.cell? (ad.add j) = some v
theorem rowsX_hrel {P : Program} {W : World} {rs : List RowX} (h : ∀ r ∈ rs, r.ok W) : HRel P (rhoX rs) (rs.map RowX.obj) W := by
  refine ⟨?_, ?_, ?_⟩
  · intro i o hi
    rw [List.getElem?_map] at hi
    obtain ⟨r, hr, rfl⟩ := Option.map_eq_some_iff.1 hi
    refine ⟨?_, fun hf => by cases hf⟩
    intro j a hj
    rw [List.getElem?_map] at hj
    obtain ⟨x, hx, rfl⟩ := Option.map_eq_some_iff.1 hj
    rcases h r (List.mem_of_getElem? hr) with ⟨_, _, _, hz⟩ | ⟨ad, ha, _, hsp, hc⟩
    · rw [hz] at hx; cases hx
    · have h1 := hc j x hx
      have e1 : rhoX rs i = ⟨ad.block, ad.off, r.cap⟩ := by simp only [rhoX, hr, RowX.place, ha]
      have e2 : (⟨ad.block, ad.off + j, none⟩ : Addr) = ad.add j := by
        cases ad with
        | mk b o s => simp only at hsp; subst hsp; rw [add0]
      rw [e1]
      simp only [e2, h1, AV.real]
  · intro i o hi
    rw [List.getElem?_map] at hi
    obtain ⟨r, hr, rfl⟩ := Option.map_eq_some_iff.1 hi
    show AV.scs _ _ = true
    exact (scs_iff _ _).2 fun a ha => by
      obtain ⟨x, _, rfl⟩ := List.mem_map.1 ha
      rfl
  · intro i j o o' hi hj ho
    rw [List.getElem?_map] at hi
    obtain ⟨r, hr, rfl⟩ := Option.map_eq_some_iff.1 hi
    cases ho
theorem rowsX_own {rs : List RowX} : ∀ o ∈ rs.map RowX.obj, o.own = false := by
  intro o ho
  obtain ⟨r, _, rfl⟩ := List.mem_map.1 ho
  rfl
theorem rowX_real {W : World} {rs : List RowX} {i : Nat} {r : RowX} (hr : rs[i]? = some r) (h : r.ok W) : (r.av i).real (rhoX rs) = .slice r.a r.len r.cap := by
  rcases h with ⟨ha, hl, hc, _⟩ | ⟨ad, ha, _, hsp, _⟩
  · simp only [RowX.av, ha, AV.real, hl, hc]
  · simp only [RowX.av, ha, AV.real, rhoX, hr, RowX.place, Nat.add_zero, Bool.false_eq_true, if_false]
    cases ad with
    | mk b o s => simp only at hsp; subst hsp; rfl
theorem rowX_sc {rs : List RowX} {i : Nat} {r : RowX} (hr : rs[i]? = some r) : (r.av i).sc (rs.map RowX.obj).length = true := by
  unfold RowX.av
  split
  · rfl
  · have := (List.getElem?_eq_some_iff.1 hr).1
    simp [AV.sc, this]
/-- The slice value of the world W, and what its whole row holds. -/
def IsRowX {α : Type} (encV : α → List Value) (wf : α → Prop) (W : World) (a : Option Addr) (len cap : Nat) (zs : List α) : Prop :=
  (a = none ∧ len = 0 ∧ cap = 0 ∧ zs = []) ∨ ∃ ad, a = some ad ∧ len ≤ cap ∧ cap ≤ maxLen ∧ zs.length = cap ∧ ad.spot = none ∧ (∀ j v, (zs.flatMap encV)[j]? = some v → W.cell? (ad.add j) = some v) ∧ ∀ z ∈ zs, wf z
section
variable {α : Type} {encV : α → List Value} {wf : α → Prop} {W : World} {a : Option Addr} {len cap : Nat} {zs : List α} {t : TypeId} {q : Nat}
theorem IsRowX.ok (h : IsRowX encV wf W a len cap zs) (t : TypeId) : (RowX.mk a len cap (zs.flatMap encV) t).ok W := by
  rcases h with ⟨h1, h2, h3, h4⟩ | ⟨ad, h1, h2, h3, h4, h5, h6, h7⟩
  · exact .inl ⟨h1, h2, h3, by simp [h4]⟩
  · exact .inr ⟨ad, h1, h2, h5, h6⟩
theorem vflat (encV : α → List Value) : ∀ zs : List α, (zs.flatMap encV).map AV.v = zs.flatMap (vEnc encV)
  | [] => rfl
  | z :: r => by simp only [List.flatMap_cons, List.map_append, vflat encV r]
theorem rowX_elts {rs : List RowX} {i : Nat} (hE : EncOk (vEnc encV) q) (h : IsRowX encV wf W a len cap zs) (hr : rs[i]? = some (RowX.mk a len cap (zs.flatMap encV) t)) : Elts (vEnc encV) q (rs.map RowX.obj) ((RowX.mk a len cap (zs.flatMap encV) t).av i) (zs.take len) := by
  rcases h with ⟨h1, h2, h3, h4⟩ | ⟨ad, h1, h2, h3, h4, h5, h6, h7⟩
  · left; simp [RowX.av, h1, h4]
  · right
    have e : (zs.take len).length = len := by rw [List.length_take, Nat.min_eq_left (by omega)]
    refine ⟨i, 0, cap, false, (zs.flatMap encV).map AV.v, t, false, by simp only [RowX.av, h1, e], by rw [List.getElem?_map, hr]; rfl, ?_, ?_⟩
    · rw [e, vflat, flat_len hE]
      have := Nat.mul_le_mul_right q h2
      rw [h4]; omega
    · rw [e, List.drop_zero, vflat, flat_take hE]
theorem rowX_wf (h : IsRowX encV wf W a len cap zs) : ∀ x ∈ zs.take len, wf x := by
  intro x hx
  rcases h with ⟨h1, h2, h3, h4⟩ | ⟨ad, h1, h2, h3, h4, h5, h6, h7⟩
  · rw [h4] at hx; simp at hx
  · exact h7 x (List.mem_of_mem_take hx)
end

/-! ### Out of the statement's memory -/
theorem cell_of_value {P : Program} {w : World} {r : Reach} {b : Nat} {t e : TypeId} {v : Value} (ht : P.underlying t = some (.slice e)) (h : Value.okWide P w r b t v) : Cell.okWide P w r b t v := by
  simpa only [Value.okWide, ht] using h
theorem cell_of_agg {P : Program} {w : World} {r : Reach} {b : Nat} {t u : TypeId} {fs : Array Field} {ts : List TypeId} {cs : Array Value} {i : Nat} {v : Value} (ht : P.underlying t = some (.struct fs)) (hts : P.cellTypes P.depth t = some ts) (h : Value.okWide P w r b t (.agg cs)) (hv : cs[i]? = some v) (hi : ts[i % ts.length]? = some u) : Cell.okWide P w r b u v := by
  simp only [Value.okWide, ht] at h
  obtain ⟨cs', e, _, ts', h1, _, h2⟩ := h
  injection e with e
  subst e
  rw [hts] at h1
  injection h1 with h1
  subst h1
  obtain ⟨u', hu', hc⟩ := h2 i v hv
  rw [hi] at hu'
  injection hu' with hu'
  subst hu'
  exact hc
theorem cell_slice {P : Program} {w : World} {r : Reach} {b : Nat} {t e : TypeId} {v : Value} (ht : P.underlying t = some (.slice e)) (h : Cell.okWide P w r b t v) : ∃ a len cap, v = .slice a len cap ∧ (∀ ad, a = some ad → ad.spot = none) := by
  simp only [Cell.okWide, ht, Cell.ok] at h
  cases v with
  | slice a len cap =>
    cases a with
    | none => exact ⟨none, len, cap, rfl, fun ad h => by cases h⟩
    | some ad => exact ⟨some ad, len, cap, rfl, fun ad' h' => by injection h' with h'; subst h'; exact h.2.2.2.1⟩
  | _ => exact absurd h (by simp)
theorem add_add (ad : Addr) (h : ad.spot = none) (i j : Nat) : (ad.add i).add j = ad.add (i + j) := by
  cases ad with
  | mk b o s => simp only at h; subst h; rw [add0, add0, add0, Nat.add_assoc]
theorem open_rows {H : Type} {enc : TypeId × Value → H} {P : Program} {W : World} {α : Type} {encV : α → List Value} {wf : α → Prop} {t e : TypeId} {q fuel : Nat} {v : Value} {r : Reach} {b : Nat} {y : DataW H × List MemPlace} (ht : P.underlying t = some (.slice e)) (hq : P.cellsOf e = q)
    (hlen : ∀ x, (encV x).length = q)
    (el : ∀ n cs y, DataW.trod enc P W 0 (fun _ => true) true n e cs = some y → ∃ x : α, wf x ∧ cs = encV x)
    (hc : Cell.okWide P W r b t v) (h : DataW.trod enc P W 0 (fun _ => true) true fuel t [v] = some y) : ∃ a len cap zs, v = .slice a len cap ∧ IsRowX encV wf W a len cap zs := by
  obtain ⟨a, len, cap, rfl, hsp⟩ := cell_slice ht hc
  rcases DataW.trod_slice ht h with ⟨h0, _⟩ | ⟨ad, len', cap', elems, rest, n, _, h0, _, hb, hl, hm, hlen', hel, hspare, _⟩
  · simp only [List.cons.injEq, Value.slice.injEq, and_true] at h0
    obtain ⟨rfl, rfl, rfl⟩ := h0
    exact ⟨none, 0, 0, [], rfl, .inl ⟨rfl, rfl, rfl, rfl⟩⟩
  · simp only [List.cons.injEq, Value.slice.injEq, and_true] at h0
    obtain ⟨rfl, rfl, rfl⟩ := h0
    have hs := hsp ad rfl
    have each : ∀ i, i < cap → ∃ x : α, wf x ∧ ∀ j v, (encV x)[j]? = some v → W.cell? (ad.add (i * q + j)) = some v := by
      intro i hi
      obtain ⟨hrl, hr⟩ := hspare rfl
      have hb' : ∃ y, (W.cells? 0 (ad.add (i * P.cellsOf e)) (P.cellsOf e)).bind (DataW.trod enc P W 0 (fun _ => true) true n e) = some y := by
        by_cases hi2 : i < len
        · rw [hel i hi2, List.getElem?_eq_getElem (by omega)]; exact ⟨_, rfl⟩
        · have := hr (i - len) (by omega)
          rw [show len + (i - len) = i by omega] at this
          rw [this, List.getElem?_eq_getElem (by omega)]; exact ⟨_, rfl⟩
      obtain ⟨y, hy⟩ := hb'
      rw [hq, Option.bind_eq_some_iff] at hy
      obtain ⟨cs, hcs, hy⟩ := hy
      obtain ⟨x, hx, rfl⟩ := el n cs y hy
      refine ⟨x, hx, fun j v hj => ?_⟩
      have h3 := (World.cells?_some hcs).2.2 j (by have := (List.getElem?_eq_some_iff.1 hj).1; rw [hlen] at this; exact this)
      rw [add_add ad hs] at h3
      rw [h3, hj]
    have build : ∀ m, m ≤ cap → ∃ zs : List α, zs.length = m ∧ (∀ z ∈ zs, wf z) ∧ ∀ j v, (zs.flatMap encV)[j]? = some v → W.cell? (ad.add j) = some v := by
      intro m
      induction m with
      | zero => exact fun _ => ⟨[], rfl, fun z hz => (by cases hz), fun j v h => (by simp at h)⟩
      | succ m ih =>
        intro hm'
        obtain ⟨zs, h1, h2, h3⟩ := ih (by omega)
        obtain ⟨x, hx, hxc⟩ := each m (by omega)
        have hfl : ∀ zs : List α, (zs.flatMap encV).length = zs.length * q := by
          intro zs
          induction zs with
          | nil => simp
          | cons z r ih => rw [List.flatMap_cons, List.length_append, hlen, ih, List.length_cons, Nat.succ_mul]; omega
        refine ⟨zs ++ [x], by simp [h1], fun z hz => ?_, fun j v hj => ?_⟩
        · rcases List.mem_append.1 hz with h | h
          · exact h2 z h
          · simp at h; subst h; exact hx
        · rw [List.flatMap_append] at hj
          by_cases hlt : j < (zs.flatMap encV).length
          · rw [List.getElem?_append_left hlt] at hj
            exact h3 j v hj
          · rw [List.getElem?_append_right (by omega)] at hj
            rw [hfl, h1] at hj hlt
            have := hxc (j - m * q) v (by simpa using hj)
            rwa [show m * q + (j - m * q) = j by omega] at this
    obtain ⟨zs, h1, h2, h3⟩ := build cap (Nat.le_refl _)
    exact ⟨some ad, len, cap, zs, rfl, .inr ⟨ad, rfl, hl, hm, h1, hs, h3, h2⟩⟩
theorem el_int {H : Type} {enc : TypeId × Value → H} {P : Program} {W : World} {e : TypeId} {k : IntKind} (he : P.underlying e = some (.int k)) : ∀ n cs y, DataW.trod enc P W 0 (fun _ => true) true n e cs = some y → ∃ x : Int, (k.min ≤ x ∧ x ≤ k.max) ∧ cs = [.int k x] := by
  intro n cs y h
  obtain ⟨m, rfl, rfl, hw⟩ := DataW.trod_int he h
  simp only [Lit.wf, Bool.and_eq_true, decide_eq_true_eq] at hw
  exact ⟨m, hw, rfl⟩
theorem el_str {H : Type} {enc : TypeId × Value → H} {P : Program} {W : World} {e : TypeId} (he : P.underlying e = some .string) : ∀ n cs y, DataW.trod enc P W 0 (fun _ => true) true n e cs = some y → ∃ x : List UInt8, x.length ≤ maxLen ∧ cs = [.string (mkB x)] := by
  intro n cs y h
  obtain ⟨s, rfl, rfl, hw⟩ := DataW.trod_string he h
  exact ⟨s.data.toList, hw, rfl⟩
end Go.Az
/-
  Short names for the equations that bring a walk's frame into its plain form. Conditions: stated at each theorem.
-/
set_option linter.unusedSimpArgs false
set_option linter.unusedVariables false
namespace Go.Az
open Go Go.Chz
theorem pu' {l : List AV} {ds : List Dq} {d : Tmp} {v : AV} : Fr.put ⟨l, ds⟩ (some d) v = ⟨l.set d v, ds⟩ := rfl
theorem p0' {l : List AV} {ds : List Dq} {v : AV} : Fr.put ⟨l, ds⟩ none v = ⟨l, ds⟩ := rfl
theorem c1' {α : Type} {l : List α} {a b : α} {n : Nat} : (a :: l).set (n + 1) b = a :: l.set n b := rfl
theorem c0' {α : Type} {l : List α} {a b : α} : (a :: l).set 0 b = b :: l := rfl
theorem i0' {n : Nat} : (Int.ofNat n).toNat = n := rfl
theorem i1' {n : Nat} : ((n : Nat) : Int).toNat = n := rfl
theorem z0' {n : Nat} : 0 + n = n := Nat.zero_add n
theorem a0' {α : Type} {l k m : List α} : l ++ k ++ m = l ++ (k ++ m) := List.append_assoc l k m
theorem a1' {α : Type} {l k : List α} {a : α} : a :: l ++ k = a :: (l ++ k) := rfl
theorem a2' {α : Type} {l : List α} : [] ++ l = l := rfl
theorem n0' {α : Type} {l k : List α} : (l ++ k).length = l.length + k.length := List.length_append
theorem n1' {α : Type} {l : List α} {a : α} : (a :: l).length = l.length + 1 := rfl
theorem n2' {α : Type} : ([] : List α).length = 0 := rfl
theorem n3' {α : Type} {l : List α} {a : α} {n : Nat} : (l.set n a).length = l.length := List.length_set
theorem n4' {α : Type} {a : α} {n : Nat} : (List.replicate n a).length = n := List.length_replicate
theorem n5' {a b c : Nat} : a + b + c = a + (b + c) := Nat.add_assoc a b c
theorem dT' {p : Prop} [Decidable p] (h : decide p = true) : p := of_decide_eq_true h
theorem dF' {p : Prop} [Decidable p] (h : decide p = false) : ¬ p := of_decide_eq_false h
theorem bX' {b : Bool} {p : Prop} (h1 : b = true) (h2 : b = false) : p := by rw [h1] at h2; cases h2

instance {H r : Hp} {i : Nat} {o : AObj} [x : HA H i o] : HA (H ++ r) i o := ⟨by
  have h := x.p
  have hi : i < H.length := by
    rcases Nat.lt_or_ge i H.length with h1 | h1
    · exact h1
    · rw [List.getElem?_eq_none h1] at h; cases h
  rw [List.getElem?_append_left hi]; exact h⟩

/-! ### Cuts: what follows is walked once -/
section
variable {P : Program} {m : Nat} {ro : Option Nat} {ops : Array Oper}
theorem wkL_mono {K K' : Fr → Hp → Prop} (hn : ∀ f h, K f h → K' f h) : ∀ (l : List Nat) (f : Fr) (h : Hp), wkL P ops l K f h → wkL P ops l K' f h
  | [], f, h, hk => hn f h hk
  | i :: r, f, h, hk => by
    simp only [wkL] at hk ⊢
    cases ho : ops[i]? with
    | none => simp only [ho] at hk ⊢; exact wkL_mono hn r f h hk
    | some o =>
      simp only [ho] at hk ⊢
      split
      · rename_i hw; rw [if_pos hw] at hk
        exact wop_mono (fun v h' hh => wkL_mono hn r _ h' hh) hk
      · rename_i hw; rw [if_neg hw] at hk
        exact wkL_mono hn r _ h hk
theorem wkD_mono {K K' : Fr → Hp → Prop} {h0 : Hp} (hn : ∀ f h, K f h → K' f h) : ∀ (l : List (Nat × Bool)) (f : Fr) (h : Hp), wkD P ops h0 l K f h → wkD P ops h0 l K' f h
  | [], f, h, hk => hn f h hk
  | (i, true) :: r, f, h, hk => by
    simp only [wkD] at hk ⊢
    cases ho : ops[i]? with
    | none => simp only [ho] at hk
    | some o =>
      simp only [ho] at hk ⊢
      split
      · rename_i hw; rw [if_pos hw] at hk
        obtain ⟨v, hv, hk⟩ := hk
        exact ⟨v, hv, wkD_mono hn r _ h hk⟩
      · rename_i hw; rw [if_neg hw] at hk
        exact wkD_mono hn r _ h hk
  | (i, false) :: r, f, h, hk => by
    simp only [wkD] at hk ⊢
    cases ho : ops[i]? with
    | none => simp only [ho] at hk
    | some o =>
      simp only [ho] at hk ⊢
      split
      · rename_i hw; rw [if_pos hw] at hk
        exact wop_mono (fun v h' hh => ⟨hh.1, wkD_mono hn r _ h' hh.2⟩) hk
      · rename_i hw; rw [if_neg hw] at hk
        exact wkD_mono hn r _ h hk
theorem wkT_mono {K K' : Fr → Hp → Prop} (hn : ∀ f h, K f h → K' f h) : ∀ (T : Ord) (pd : List (Nat × Nat)) (f : Fr) (h : Hp), wkT P ops T pd K f h → wkT P ops T pd K' f h
  | .done, pd, f, h, hk => hn f h hk
  | .no, pd, f, h, hk => trivial
  | .light i r, pd, f, h, hk => by
    simp only [wkT] at hk ⊢
    cases ho : ops[i]? with
    | none => simp only [ho] at hk
    | some o =>
      simp only [ho] at hk ⊢
      split
      · rename_i hw; rw [if_pos hw] at hk
        obtain ⟨v, hv, hk⟩ := hk
        exact ⟨v, hv, wkT_mono hn r _ _ h hk⟩
      · rename_i hw; rw [if_neg hw] at hk
        exact wkT_mono hn r _ _ h hk
  | .alt i gone r rest, pd, f, h, hk => by
    simp only [wkT] at hk ⊢
    cases ho : ops[i]? with
    | none => simp only [ho] at hk; exact hk.1.elim
    | some o =>
      simp only [ho] at hk ⊢
      refine ⟨?_, wkT_mono hn rest pd f h hk.2⟩
      replace hk := hk.1
      split
      · rename_i hw; rw [if_pos hw] at hk
        exact wop_mono (fun v h' hh => ⟨hh.1, wkT_mono hn r _ _ h' hh.2⟩) hk
      · rename_i hw; rw [if_neg hw] at hk
        exact wkT_mono hn r _ _ h hk
theorem wk_mono : ∀ (c : Code) {K K' : Exit → Fr → Hp → Prop} (f : Fr) (h : Hp), (∀ e f h, K e f h → K' e f h) → wk P m ro c K f h → wk P m ro c K' f h
  | .skip, K, K', f, h, hn, hk => hn _ _ _ hk
  | .region _ ops false, K, K', f, h, hn, .inl hk => .inl (wkL_mono (fun f h => hn _ f h) _ f h hk)
  | .region _ ops false, K, K', f, h, hn, .inr hk => .inr (AW.mono hk hn)
  | .region _ ops true, K, K', f, h, hn, hk => by
    rcases hk with ⟨l, h0, a, b, c, hk⟩ | ⟨T, hv, a, hk⟩
    · exact .inl ⟨l, h0, a, b, c, wkD_mono (fun f h => hn _ f h) l f h hk⟩
    · exact .inr ⟨T, hv, a, wkT_mono (fun f h => hn _ f h) T [] f h hk⟩
  | .seq a b, K, K', f, h, hn, hk => wk_mono a f h (fun e f h hk => by
      cases e with
      | normal => exact wk_mono b f h hn hk
      | _ => exact hn _ _ _ hk) hk
  | .cond c a b, K, K', f, h, hn, ⟨t, h1, h2, h3⟩ => ⟨t, h1, fun ht => wk_mono a f h hn (h2 ht), fun ht => wk_mono b f h hn (h3 ht)⟩
  | .block id b, K, K', f, h, hn, hk => wk_mono b f h (fun e f h hk => by
      cases e with
      | exit i =>
        show (if _ then _ else _)
        have hk' : (if i = id then K .normal f h else K (.exit i) f h) := hk
        split
        · rename_i hi; rw [if_pos hi] at hk'; exact hn _ _ _ hk'
        · rename_i hi; rw [if_neg hi] at hk'; exact hn _ _ _ hk'
      | _ => exact hn _ _ _ hk) hk
  | .exit id, K, K', f, h, hn, hk => hn _ _ _ hk
  | .label _, K, K', f, h, hn, hk => hn _ _ _ hk
  | .ret, K, K', f, h, hn, hk => hn _ _ _ hk
  | .loop _, K, K', f, h, hn, hk => AW.mono hk hn
  | .rangeFunc .., K, K', f, h, hn, hk => AW.mono hk hn
  | .scope _, K, K', f, h, hn, hk => AW.mono hk hn
  | .goto _, K, K', f, h, hn, hk => AW.mono hk hn
  | .refuse _, K, K', f, h, hn, hk => AW.mono hk hn
/-- What is so behind a piece of code, however it was reached. -/
def At {β : Type} (F : β → (Nat → AV) → List AV) (H : β → Hp) (ok : β → Prop) (ds : List Dq) : Fr → Hp → Prop := fun f h => ∃ b s, ok b ∧ f = ⟨F b s, ds⟩ ∧ h = H b
theorem at_in {β : Type} {F : β → (Nat → AV) → List AV} {H : β → Hp} {ok : β → Prop} {ds : List Dq} {l : List AV} {h : Hp} (b : β) (h1 : ok b) (h3 : l = F b fun k => l.getD k (.v undef)) (h4 : h = H b) : At F H ok ds ⟨l, ds⟩ h := ⟨b, _, h1, congrArg (Fr.mk · ds) h3, h4⟩
/-- A cut where a piece of code ends normally. -/
theorem s_cut {β : Type} (F : β → (Nat → AV) → List AV) (H : β → Hp) (ok : β → Prop) {c : Code} {N : Fr → Hp → Prop} {K : Exit → Fr → Hp → Prop} {ds : List Dq} {l : List AV} {h : Hp} (hk : wk P m ro c (thenK (At F H ok ds) K) ⟨l, ds⟩ h) (hn : ∀ b s, ok b → N ⟨F b s, ds⟩ (H b)) : wk P m ro c (thenK N K) ⟨l, ds⟩ h :=
  wk_mono c _ _ (fun e f h hh => by
    cases e with
    | normal => obtain ⟨b, s, h1, rfl, rfl⟩ := hh; exact hn b s h1
    | _ => exact hh) hk
end
section
variable {P : Program} {l : List AV} {ds : List Dq} {h : Hp} {ops : Array Oper} {N : Fr → Hp → Prop} {d : Option Tmp} {ty : TypeId} {pos : String} {aft : Array Edge} {gd : Option (Nat × Bool)} {X : OrdX} {pd : List (Nat × Nat)} {ii : Nat} {gone : List Nat}
theorem uC {op : Op} {g : FuncId} {args : List AV} (hc : ACalls P g args h (fun r' h' => stayG gone pd h h' ∧ wkX P ops X pd N (Fr.put ⟨l, ds⟩ d r') h')) (hw : wantA ops ⟨l, ds⟩ ⟨d, op, ty, pos, aft, gd⟩ = true := by rfl) (hx : callOf ⟨l, ds⟩ op = some (g, args) := by rfl) (hg : CO P g := by infer_instance) : wkX P ops (.alt ⟨d, op, ty, pos, aft, gd⟩ ii gone X .no) pd N ⟨l, ds⟩ h := u_gC hw hx hg.p hc
end
theorem stay_app {gone : List Nat} {h r : Hp} {pd : List (Nat × Nat)} (hp : ∀ p ∈ pd, p.2 < h.length) : stayG gone pd h (h ++ r) := stayG_iff.2 fun p hp' => .inr (List.getElem?_append_left (hp p hp'))
theorem elts_at {α : Type} {enc : α → List AV} {q : Nat} (hE : EncOk enc q) {h : Hp} {i c : Nat} {u : Bool} {cs : List AV} {t : TypeId} {ow : Bool} {l : List α} (hi : HA h i (.cells cs t ow)) (hc : cs = l.flatMap enc) : Elts enc q h (.sl i 0 l.length c u) l := by
  refine .inr ⟨i, 0, c, u, cs, t, ow, rfl, hi.p, ?_, ?_⟩
  · rw [hc, flat_len hE]; omega
  · rw [hc, List.drop_zero, List.take_of_length_le (by rw [flat_len hE]; omega)]
theorem s_scope {P : Program} {m : Nat} {ro : Option Nat} (hm : P.follows .mixedOrders = true) {b : Code} {K : Exit → Fr → Hp → Prop} {f : Fr} {h : Hp} (hk : wk P m ro b (noGo K) f h) : wk P m ro (.scope b) K f h := aw_scope (wk_ok hm b _ f h hk)
theorem s_ngN {K : Exit → Fr → Hp → Prop} {f : Fr} {h : Hp} (hk : K .normal f h) : noGo K .normal f h := hk
theorem s_ngR {K : Exit → Fr → Hp → Prop} {f : Fr} {h : Hp} (hk : K .ret f h) : noGo K .ret f h := hk
theorem s_ngE {K : Exit → Fr → Hp → Prop} {f : Fr} {h : Hp} {i : Nat} (hk : K (.exit i) f h) : noGo K (.exit i) f h := hk
theorem tmod_lo {n m : Int} (hm : 0 < m) (h : n.tmod m < 0) : n.tmod m + m = n % m := by
  have := Int.tmod_eq_emod (a := n) (b := m)
  have h2 := Int.emod_nonneg n (show m ≠ 0 by omega)
  rw [this] at h ⊢
  split at h
  · omega
  · rename_i hc
    rw [if_neg hc]; omega
theorem tmod_hi {n m : Int} (hm : 0 < m) (h : ¬ n.tmod m < 0) : n.tmod m = n % m := by
  have := Int.tmod_eq_emod (a := n) (b := m)
  have h2 := Int.emod_lt_of_pos n hm
  rw [this] at h ⊢
  split at h
  · rename_i hc
    rw [if_pos hc]; omega
  · omega
end Go.Az
/-
  Memory in pieces that lie apart; ranges over functions. Conditions: stated at each theorem.
-/
set_option linter.unusedSimpArgs false
set_option linter.unusedVariables false
namespace Go.Az
open Go Go.Chz

/-! ### Pieces -/
structure Pc where
  foot : Option Nat
  ok : Hp → Prop
  loc : ∀ {H H' : Hp} {o : Option Nat}, Oth o H H' → (∀ i, foot = some i → o ≠ some i) → ok H → ok H'
  lt : ∀ {H : Hp} {i : Nat}, foot = some i → ok H → i < H.length
/-- A cell. -/
def pcC (i : Nat) (o : AObj) : Pc where
  foot := some i
  ok := fun H => H[i]? = some o
  loc := fun x hne hi => x.get hi (hne i rfl)
  lt := fun h hi => by injection h with h; subst h; exact (List.getElem?_eq_some_iff.1 hi).1
/-- A slice of the call's own. -/
def pcW {α : Type} (enc : α → List AV) (q : Nat) (e : TypeId) (s : AV) (l : List α) : Pc where
  foot := objOf s
  ok := fun H => Own enc q e H s l
  loc := fun x hne hO => hO.oth x hne
  lt := fun h hO => hO.lt h
class Sep (h : outParam Hp) (Y : Hp) (L : outParam (List Pc)) : Prop where
  ext : Ext h Y
  all : ∀ p ∈ L, p.ok Y
  low : ∀ p ∈ L, ∀ i, p.foot = some i → h.length ≤ i
  dis : L.Pairwise fun p q => ∀ i, p.foot = some i → q.foot ≠ some i
class MemC (L : List Pc) (i : Nat) (o : outParam AObj) : Prop where
  p : pcC i o ∈ L
class SetC (L : List Pc) (i : Nat) (o' : AObj) (L' : outParam (List Pc)) : Prop where
  p : ∃ k o, L[k]? = some (pcC i o) ∧ L' = L.set k (pcC i o')
instance {i : Nat} {o : AObj} {L : List Pc} : MemC (pcC i o :: L) i o := ⟨by simp⟩
instance (priority := low) {i : Nat} {o : AObj} {p : Pc} {L : List Pc} [x : MemC L i o] : MemC (p :: L) i o := ⟨by simp [x.p]⟩
instance {i : Nat} {o o' : AObj} {L : List Pc} : SetC (pcC i o :: L) i o' (pcC i o' :: L) := ⟨⟨0, o, rfl, rfl⟩⟩
instance (priority := low) {i : Nat} {o' : AObj} {p : Pc} {L L' : List Pc} [x : SetC L i o' L'] : SetC (p :: L) i o' (p :: L') := ⟨by
  obtain ⟨k, o, h1, h2⟩ := x.p
  exact ⟨k + 1, o, h1, by rw [h2]; rfl⟩⟩
instance (priority := low) {i : Nat} {o : AObj} {E L : List Pc} [x : MemC L i o] : MemC (E ++ L) i o := ⟨List.mem_append_right _ x.p⟩
instance (priority := low) {i : Nat} {o : AObj} {E L : List Pc} [x : MemC L i o] : MemC (L ++ E) i o := ⟨List.mem_append_left _ x.p⟩
instance (priority := low) {i : Nat} {o' : AObj} {L L' E : List Pc} [x : SetC L i o' L'] : SetC (L ++ E) i o' (L' ++ E) := ⟨by
  obtain ⟨k, o, h1, h2⟩ := x.p
  have hk := (List.getElem?_eq_some_iff.1 h1).1
  exact ⟨k, o, by rw [List.getElem?_append_left hk]; exact h1, by rw [h2, List.set_append_left _ _ hk]⟩⟩
theorem ha_lt {h : Hp} {i : Nat} {o : AObj} (a : HA h i o) : i < h.length := (List.getElem?_eq_some_iff.1 a.p).1
theorem wk_gen {P : Program} {m : Nat} {ro : Option Nat} {c : Code} {K : Exit → Fr → Hp → Prop} {f : Fr} {h Y0 : Hp} {L : List Pc} (s : Sep h Y0 L) (hk : ∀ Y, Sep h Y L → wk P m ro c K f Y) : wk P m ro c K f Y0 := hk Y0 s
section
variable {h Y Y' : Hp} {L L' : List Pc} {p p' : Pc} {i k : Nat} {o : AObj}
instance [s : Sep h Y L] [m : MemC L i o] : HA Y i o := ⟨s.all _ m.p⟩
theorem Sep.nil (h : Hp) : Sep h h [] := ⟨Ext.refl h, by simp, by simp, by simp⟩
theorem Sep.sub {h Y : Hp} {L L' : List Pc} (s : Sep h Y L) (hl : L'.Sublist L) : Sep h Y L' := ⟨s.ext, fun p hp => s.all p (hl.subset hp), fun p hp => s.low p (hl.subset hp), s.dis.sublist hl⟩
theorem Sep.more {h Y : Hp} {L : List Pc} (s : Sep h Y L) (x : Ext Y Y') : Sep h Y' L := ⟨s.ext.trans x, fun p hp => p.loc (o := none) (Oth.of_ext x) (fun _ _ => by simp) (s.all p hp), s.low, s.dis⟩
theorem Sep.push {h Y : Hp} {L : List Pc} (s : Sep h Y L) (o : AObj) : Sep h (Y ++ [o]) (L ++ [pcC Y.length o]) := by
  have t := s.more (Y' := Y ++ [o]) (ext_app _ _)
  refine ⟨t.ext, ?_, ?_, ?_⟩
  · intro p hp
    rcases List.mem_append.1 hp with hp | hp
    · exact t.all p hp
    · simp only [List.mem_singleton] at hp; subst hp
      show (Y ++ [o])[Y.length]? = some o
      simp
  · intro p hp i hi
    rcases List.mem_append.1 hp with hp | hp
    · exact t.low p hp i hi
    · simp only [List.mem_singleton] at hp; subst hp
      injection hi with hi; subst hi; exact s.ext.1
  · refine List.pairwise_append.2 ⟨t.dis, by simp, ?_⟩
    intro p hp q hq i hi hqi
    simp only [List.mem_singleton] at hq; subst hq
    injection hqi with hqi; subst hqi
    have := p.lt hi (s.all p hp)
    omega
theorem Sep.push2 {h Y : Hp} {L : List Pc} (s : Sep h Y L) (o1 o2 : AObj) : Sep h (Y ++ [o1, o2]) (L ++ [pcC Y.length o1, pcC (Y.length + 1) o2]) := by
  have := (s.push o1).push o2
  simpa only [List.append_assoc, List.singleton_append, List.length_append, List.length_singleton] using this
theorem Sep.push3 {h Y : Hp} {L : List Pc} (s : Sep h Y L) (o1 o2 o3 : AObj) : Sep h (Y ++ [o1, o2, o3]) (L ++ [pcC Y.length o1, pcC (Y.length + 1) o2, pcC (Y.length + 2) o3]) := by
  have := (s.push2 o1 o2).push o3
  simpa only [List.append_assoc, List.singleton_append, List.length_append, List.length_singleton, List.cons_append, List.nil_append, List.length_cons, List.length_nil] using this
def litP (n : Nat) (L : List AObj) : List Pc := (List.range L.length).map fun j => pcC (n + j) (L.getD j .gone)
theorem litP_snoc (n : Nat) (L : List AObj) (o : AObj) : litP n (L ++ [o]) = litP n L ++ [pcC (n + L.length) o] := by
  have e1 : (List.range L.length).map (fun j => pcC (n + j) ((L ++ [o]).getD j .gone)) = (List.range L.length).map (fun j => pcC (n + j) (L.getD j .gone)) := by
    refine List.map_congr_left fun j hj => ?_
    rw [List.mem_range] at hj
    simp [List.getD_eq_getElem?_getD, List.getElem?_append_left hj]
  have e2 : (L ++ [o]).getD L.length .gone = o := by simp [List.getD_eq_getElem?_getD]
  simp only [litP, List.length_append, List.length_singleton, List.range_succ, List.map_append, List.map_cons, List.map_nil, e1, e2]
theorem Sep.litsA (h : Hp) : ∀ (L2 L1 : List AObj), Sep h (h ++ L1) (litP h.length L1) → Sep h (h ++ (L1 ++ L2)) (litP h.length (L1 ++ L2))
  | [], L1, s => by rw [List.append_nil]; exact s
  | o :: L2, L1, s => by
    have := Sep.litsA h L2 (L1 ++ [o]) (by
      have := s.push o
      rw [litP_snoc, ← List.append_assoc]
      simpa only [List.length_append] using this)
    simpa only [List.append_assoc, List.singleton_append] using this
theorem Sep.lits (h : Hp) (L : List AObj) : Sep h (h ++ L) (litP h.length L) := Sep.litsA h L [] (by rw [List.append_nil]; exact Sep.nil h)
/-- One piece is turned into another. -/
theorem Sep.turn {h Y Y' : Hp} {L : List Pc} (s : Sep h Y L) {k : Nat} {p p' : Pc} (hk : L[k]? = some p) (x : Oth p.foot Y Y') (hp' : p'.ok Y') (hf : ∀ i, p'.foot = some i → p.foot = some i ∨ Y.length ≤ i) : Sep h Y' (L.set k p') := by
  have hkl : k < L.length := (List.getElem?_eq_some_iff.1 hk).1
  have hke : L[k] = p := (List.getElem?_eq_some_iff.1 hk).2
  have hpL : p ∈ L := List.mem_of_getElem? hk
  have hne : ∀ j (hj : j < L.length), j ≠ k → ∀ i, L[j].foot = some i → p.foot ≠ some i := by
    intro j hj hjk i hi hpi
    have hd := List.pairwise_iff_getElem.1 s.dis
    rcases Nat.lt_or_gt_of_ne hjk with hlt | hgt
    · exact hd j k hj hkl hlt i hi (by rw [hke]; exact hpi)
    · exact hd k j hkl hj hgt i (by rw [hke]; exact hpi) hi
  have hall : ∀ j (hj : j < L.length), j ≠ k → L[j].ok Y' := fun j hj hjk => L[j].loc x (hne j hj hjk) (s.all _ (List.getElem_mem hj))
  refine ⟨⟨Nat.le_trans s.ext.1 x.1, fun i hi => ?_⟩, ?_, ?_, ?_⟩
  · rw [x.2 i (Nat.lt_of_lt_of_le hi s.ext.1) (fun e => by have := s.low p hpL i e; omega)]
    exact s.ext.2 i hi
  · intro q hq
    obtain ⟨j, hj, hjq⟩ := List.getElem_of_mem hq
    rw [List.length_set] at hj
    by_cases hjk : j = k
    · subst hjk; rw [List.getElem_set_self] at hjq; subst hjq; exact hp'
    · rw [List.getElem_set_ne (fun e => hjk e.symm)] at hjq; subst hjq; exact hall j hj hjk
  · intro q hq i hi
    obtain ⟨j, hj, hjq⟩ := List.getElem_of_mem hq
    rw [List.length_set] at hj
    by_cases hjk : j = k
    · subst hjk; rw [List.getElem_set_self] at hjq; subst hjq
      rcases hf i hi with h1 | h1
      · exact s.low p hpL i h1
      · exact Nat.le_trans s.ext.1 h1
    · rw [List.getElem_set_ne (fun e => hjk e.symm)] at hjq; subst hjq; exact s.low _ (List.getElem_mem hj) i hi
  · refine List.pairwise_iff_getElem.2 fun a b ha hb hab i hi hbi => ?_
    rw [List.length_set] at ha hb
    have hd := List.pairwise_iff_getElem.1 s.dis a b ha hb hab
    by_cases hak : a = k
    · subst hak
      rw [List.getElem_set_self] at hi
      rw [List.getElem_set_ne (by omega)] at hbi
      rcases hf i hi with h1 | h1
      · exact hd i (by rw [hke]; exact h1) hbi
      · have := L[b].lt hbi (s.all _ (List.getElem_mem (by simpa using hb))); omega
    · rw [List.getElem_set_ne (fun e => hak e.symm)] at hi
      by_cases hbk : b = k
      · subst hbk
        rw [List.getElem_set_self] at hbi
        rcases hf i hbi with h1 | h1
        · exact hd i hi (by rw [hke]; exact h1)
        · have := L[a].lt hi (s.all _ (List.getElem_mem (by simpa using ha))); omega
      · rw [List.getElem_set_ne (fun e => hbk e.symm)] at hbi
        exact hd i hi hbi
theorem oth_set {Y : Hp} {i : Nat} {o : AObj} : Oth (some i) Y (Y.set i o) := ⟨by rw [List.length_set]; exact Nat.le_refl _, fun j hj hne => List.getElem?_set_ne (fun e => hne (by rw [e]))⟩
theorem Sep.put {h Y : Hp} {L L' : List Pc} (s : Sep h Y L) {i : Nat} {o' : AObj} (u : SetC L i o' L') : Sep h (Y.set i o') L' := by
  obtain ⟨k, o, h1, h2⟩ := u.p
  have hi : i < Y.length := (pcC i o).lt rfl (s.all _ (List.mem_of_getElem? h1))
  rw [h2]
  refine s.turn h1 oth_set ?_ (fun j hj => .inl hj)
  show (Y.set i o')[i]? = some o'
  exact List.getElem?_set_self hi
instance [s : Sep h Y L] {o' : AObj} [u : SetC L i o' L'] : Sep h (Y.set i o') L' := s.put u
theorem Sep.own {h Y : Hp} {L : List Pc} (s : Sep h Y L) (k : Nat) {α : Type} {enc : α → List AV} {q : Nat} {e : TypeId} {z : AV} {l : List α} (hk : L[k]? = some (pcW enc q e z l)) : Own enc q e Y z l := s.all _ (List.mem_of_getElem? hk)
/-- Appended to. -/
theorem Sep.app {h Y : Hp} {L : List Pc} (s : Sep h Y L) (k : Nat) {α : Type} {enc : α → List AV} {q : Nat} {e : TypeId} {z u : AV} {l l2 : List α} (hk : L[k]? = some (pcW enc q e z l)) {P : Program} {t : TypeId} (hE : EncOk enc q) (hu : CS P t e q) (he : CE P e q) (hS : Elts enc q Y u l2) (hlen : l.length + l2.length ≤ 1099511627776) :
    ∃ z' Y', app P Y [t, t] z u = some (z', Y') ∧ Sep h Y' (L.set k (pcW enc q e z' (l ++ l2))) ∧ Oth (objOf z) Y Y' := by
  obtain ⟨z', Y', e1, e2, e3, e4, _⟩ := app_own' hE hu.p he.p (s.own k hk) hS hlen
  exact ⟨z', Y', e1, s.turn hk e3 e2 e4, e3⟩
theorem Sep.addNil {h Y : Hp} {L : List Pc} (s : Sep h Y L) {α : Type} (enc : α → List AV) (q : Nat) (e : TypeId) : Sep h Y (L ++ [pcW enc q e (.v (.slice none 0 0)) []]) := by
  refine ⟨s.ext, ?_, ?_, List.pairwise_append.2 ⟨s.dis, by simp, ?_⟩⟩
  · intro p hp
    rcases List.mem_append.1 hp with hp | hp
    · exact s.all p hp
    · simp only [List.mem_singleton] at hp; subst hp; exact .inl ⟨rfl, rfl⟩
  · intro p hp i hi
    rcases List.mem_append.1 hp with hp | hp
    · exact s.low p hp i hi
    · simp only [List.mem_singleton] at hp; subst hp; cases hi
  · intro p hp q hq i hi hqi
    simp only [List.mem_singleton] at hq; subst hq; cases hqi
instance [s : Sep h Y L] : Sep h (Y ++ [o]) (L ++ [pcC Y.length o]) := s.push o
instance {o1 o2 : AObj} [s : Sep h Y L] : Sep h (Y ++ [o1, o2]) (L ++ [pcC Y.length o1, pcC (Y.length + 1) o2]) := s.push2 o1 o2
instance {o1 o2 o3 : AObj} [s : Sep h Y L] : Sep h (Y ++ [o1, o2, o3]) (L ++ [pcC Y.length o1, pcC (Y.length + 1) o2, pcC (Y.length + 2) o3]) := s.push3 o1 o2 o3
/-- Two memories agree at a cell. -/
theorem ha_eq {Y Y' : Hp} {i : Nat} {o : AObj} (a : HA Y i o) (b : HA Y' i o) : Y'[i]? = Y[i]? := b.p.trans a.p.symm
theorem set_app' {H r : Hp} {i : Nat} {o o' : AObj} [a : HA H i o] : (H ++ r).set i o' = H.set i o' ++ r := List.set_append_left _ _ (List.getElem?_eq_some_iff.1 a.p).1
end

/-! ### Ranges over functions -/
section
variable {P : Program} {ops : Array Oper} {d : Option Tmp} {ty : TypeId} {pos : String} {aft : Array Edge} {gd : Option (Nat × Bool)} {rest : List Oper} {N : Fr → Hp → Prop} {l : List AV} {ds : List Dq} {h : Hp} {X : OrdX} {pd : List (Nat × Nat)} {gone : List Nat} {ii : Nat} {m : Nat} {ro : Option Nat} {K : Exit → Fr → Hp → Prop} {f : Fr}
theorem sY {op : Op} {i : Nat} {args : List AV} (hc : AYld P i args h (fun r' h' => wkO P ops rest N (Fr.put ⟨l, ds⟩ d r') h')) (hw : wantA ops ⟨l, ds⟩ ⟨d, op, ty, pos, aft, gd⟩ = true := by rfl) (hx : yldOf ⟨l, ds⟩ op = some (i, args) := by rfl) : wkO P ops (⟨d, op, ty, pos, aft, gd⟩ :: rest) N ⟨l, ds⟩ h := by
  show (if _ then _ else _)
  rw [if_pos hw]; exact .inr (.inr (.inr (.inl ⟨i, args, hx, hc⟩)))
theorem uY {op : Op} {i : Nat} {args : List AV} (hc : AYld P i args h (fun r' h' => stayG gone pd h h' ∧ wkX P ops X pd N (Fr.put ⟨l, ds⟩ d r') h')) (hw : wantA ops ⟨l, ds⟩ ⟨d, op, ty, pos, aft, gd⟩ = true := by rfl) (hx : yldOf ⟨l, ds⟩ op = some (i, args) := by rfl) : wkX P ops (.alt ⟨d, op, ty, pos, aft, gd⟩ ii gone X .no) pd N ⟨l, ds⟩ h := by
  refine ⟨?_, trivial⟩
  rw [if_pos hw]; exact .inr (.inr (.inr (.inl ⟨i, args, hx, hc⟩)))
theorem AYld.mono {i : Nat} {args : List AV} {N N' : AV → Hp → Prop} (hc : AYld P i args h N) (hn : ∀ r h', h.length ≤ h'.length → N r h' → N' r h') : AYld P i args h N' := by
  obtain ⟨st, pe, tm, ps, asg, bd, d, h1, h2, h3⟩ := hc
  refine ⟨st, pe, tm, ps, asg, bd, d, h1, h2, fun fn ρ w H hs => ?_⟩
  exact (h3 fn ρ w H hs).mono fun _ _ hp => hp.mono fun r h' hl _ => hn r h' hl
theorem s_range {g : Operand} {ps : Array Tmp} {asg bd : Code} {gf : FuncId} {cs : List AV}
    (hc : ACalls P gf (.yld (h.length + 1) :: cs) (h ++ [.dfr, .loop .ready none l ps asg bd h.length]) (fun _ h' => behA P m (h.length + 1) K ⟨l, .m h.length :: ds⟩ h')) (hg : evS l g = some (.fn (.func gf) cs) := by rfl) (ok : CO P gf := by infer_instance) :
    wk P m none (.rangeFunc g ps asg bd) K ⟨l, ds⟩ h := by
  refine aw_range (f := ⟨l, ds⟩) (e_any hg) ok.p ?_
  rw [List.append_assoc]
  exact hc
theorem beh_n {i : Nat} {tm : List AV} {ps : Array Tmp} {asg bd : Code} {d : Nat} {st : LoopState} (hk : K .normal f (h.set i .gone)) (a : HA h i (.loop st none tm ps asg bd d)) (hst : (st == .busy) = false) : behA P m i K f h := ⟨st, none, tm, ps, asg, bd, d, a.p, hst, hk⟩
theorem beh_c (hm : P.follows .mixedOrders = true) {i : Nat} {tm : List AV} {ps : Array Tmp} {asg bd : Code} {d : Nat} {st : LoopState} {c : Code} (hk : wk P m none c K f (h.set i .gone)) (a : HA h i (.loop st (some c) tm ps asg bd d)) (hst : (st == .busy) = false) : behA P m i K f h := ⟨st, some c, tm, ps, asg, bd, d, a.p, hst, wk_ok hm c _ f _ hk⟩
theorem resAll_ds (P : Program) (h : Hp) (l : List AV) (a b : List Dq) : ∀ rs, resAll P ⟨l, a⟩ h rs = resAll P ⟨l, b⟩ h rs
  | [] => rfl
  | r :: rs => by
    have e : resOne P ⟨l, a⟩ h r = resOne P ⟨l, b⟩ h r := by cases r <;> rfl
    simp only [resAll, e, resAll_ds P h l a b rs]
theorem rk_dfr {fn : Func} {N : AV → Hp → Prop} {d : Nat} (hk : RK P fn N .ret ⟨l, ds⟩ (h.set d .gone)) (a : HA h d .dfr) : RK P fn N .ret ⟨l, .m d :: ds⟩ h := by
  obtain ⟨h', r, h1, h2, h3⟩ := hk
  refine ⟨h', r, ?_, by rw [resA, resAll_ds P h' l (.m d :: ds) ds]; exact h2, h3⟩
  show (match h[d]? with | some .dfr => dropAll (h.set d .gone) ds | _ => none) = _
  rw [a.p]; exact h1
theorem ayld_at {i : Nat} {args : List AV} {N : AV → Hp → Prop} {st : LoopState} {pe : Option Code} {tm : List AV} {ps : Array Tmp} {asg bd : Code} {d : Nat} (hm : P.follows .mixedOrders = true) (a : HA h i (.loop st pe tm ps asg bd d)) (hl : args.length = ps.size)
    (hk : wk P h.length (some i) asg (asgK P h.length i bd N) ⟨setAll tm (ps.toList.zip args), []⟩ h) : AYld P i args h N := ayld_of_aw a.p hl (wk_ok hm _ _ _ _ hk)
theorem ayld_at1 {i : Nat} {v : AV} {N : AV → Hp → Prop} {st : LoopState} {pe : Option Code} {tm : List AV} {p : Tmp} {asg bd : Code} {d : Nat} (hm : P.follows .mixedOrders = true) (a : HA h i (.loop st pe tm #[p] asg bd d))
    (hk : wk P h.length (some i) asg (asgK P h.length i bd N) ⟨tm.set p v, []⟩ h) : AYld P i [v] h N := ayld_at hm a rfl hk
theorem ayld_at2 {i : Nat} {v v2 : AV} {N : AV → Hp → Prop} {st : LoopState} {pe : Option Code} {tm : List AV} {p p2 : Tmp} {asg bd : Code} {d : Nat} (hm : P.follows .mixedOrders = true) (a : HA h i (.loop st pe tm #[p, p2] asg bd d))
    (hk : wk P h.length (some i) asg (asgK P h.length i bd N) ⟨(tm.set p v).set p2 v2, []⟩ h) : AYld P i [v, v2] h N := ayld_at hm a rfl hk
theorem asg_n (hm : P.follows .mixedOrders = true) {i : Nat} {bd : Code} {N : AV → Hp → Prop} {pe : Option Code} {tm : List AV} {ps : Array Tmp} {asg bd' : Code} {d : Nat} (a : HA h i (.loop .ready pe tm ps asg bd' d)) (hk : wk P m (some i) bd (roundK i N) f (h.set i (.loop .busy pe tm ps asg bd' d))) : asgK P m i bd N .normal f h :=
  ⟨_, by unfold begA; rw [a.p], wk_ok hm _ _ _ _ hk⟩
theorem rnd_n {i : Nat} {N : AV → Hp → Prop} {st : LoopState} {pe : Option Code} {tm : List AV} {ps : Array Tmp} {asg bd : Code} {d : Nat} (a : HA h i (.loop st pe tm ps asg bd d)) (hk : N (.v (.bool true)) (h.set i (.loop .ready none tm ps asg bd d))) : roundK i N .normal f h := ⟨_, by unfold endA; rw [a.p]; rfl, hk⟩
theorem rnd_r {i : Nat} {N : AV → Hp → Prop} {st : LoopState} {pe : Option Code} {tm : List AV} {ps : Array Tmp} {asg bd : Code} {d : Nat} (a : HA h i (.loop st pe tm ps asg bd d)) (hk : N (.v (.bool false)) (h.set i (.loop .done (some .ret) tm ps asg bd d))) : roundK i N .ret f h := ⟨_, by unfold endA; rw [a.p]; rfl, hk⟩
theorem rnd_e {i e : Nat} {N : AV → Hp → Prop} {st : LoopState} {pe : Option Code} {tm : List AV} {ps : Array Tmp} {asg bd : Code} {d : Nat} (a : HA h i (.loop st pe tm ps asg bd d)) (hk : N (.v (.bool false)) (h.set i (.loop .done (some (.exit e)) tm ps asg bd d))) : roundK i N (.exit e) f h := ⟨_, by unfold endA; rw [a.p]; rfl, hk⟩
end

/-! ### Appended to, as a step -/
section
variable {P : Program} {ops : Array Oper} {d : Option Tmp} {ty : TypeId} {pos : String} {aft : Array Edge} {gd : Option (Nat × Bool)} {rest : List Oper} {N : Fr → Hp → Prop} {l : List AV} {ds : List Dq} {h0 Y : Hp} {X : OrdX} {pd : List (Nat × Nat)} {gone : List Nat} {ii : Nat} {L : List Pc} {α : Type} {enc : α → List AV} {q : Nat} {e : TypeId} {z u : AV} {ks l2 : List α} {t : TypeId} {a b : Operand}
theorem s_app (k : Nat) (hk : ∀ z' Y', Sep h0 Y' (L.set k (pcW enc q e z' (ks ++ l2))) → Oth (objOf z) Y Y' → wkO P ops rest N (Fr.put ⟨l, ds⟩ d z') Y') (s : Sep h0 Y L) (hp : L[k]? = some (pcW enc q e z ks)) (hE : EncOk enc q) (hS : Elts enc q Y u l2) (hlen : ks.length + l2.length ≤ 1099511627776) (hu : CS P t e q) (he : CE P e q)
    (hw : wantA ops ⟨l, ds⟩ ⟨d, .call ⟨.builtin .append, #[a, b], #[t, t]⟩, ty, pos, aft, gd⟩ = true := by rfl) (ha : evS l a = some z := by rfl) (hb : evS l b = some u := by rfl) : wkO P ops (⟨d, .call ⟨.builtin .append, #[a, b], #[t, t]⟩, ty, pos, aft, gd⟩ :: rest) N ⟨l, ds⟩ Y := by
  obtain ⟨z', Y', e1, e2, e3⟩ := s.app k hp hE hu he hS hlen
  exact s_gH hw (x_app (e_any ha) (e_any hb) e1) (hk z' Y' e2 e3)
theorem u_app (k : Nat) (hk : ∀ z' Y', Sep h0 Y' (L.set k (pcW enc q e z' (ks ++ l2))) → Oth (objOf z) Y Y' → stayG gone pd Y Y' ∧ wkX P ops X pd N (Fr.put ⟨l, ds⟩ d z') Y') (s : Sep h0 Y L) (hp : L[k]? = some (pcW enc q e z ks)) (hE : EncOk enc q) (hS : Elts enc q Y u l2) (hlen : ks.length + l2.length ≤ 1099511627776) (hu : CS P t e q) (he : CE P e q)
    (hw : wantA ops ⟨l, ds⟩ ⟨d, .call ⟨.builtin .append, #[a, b], #[t, t]⟩, ty, pos, aft, gd⟩ = true := by rfl) (ha : evS l a = some z := by rfl) (hb : evS l b = some u := by rfl) : wkX P ops (.alt ⟨d, .call ⟨.builtin .append, #[a, b], #[t, t]⟩, ty, pos, aft, gd⟩ ii gone X .no) pd N ⟨l, ds⟩ Y := by
  obtain ⟨z', Y', e1, e2, e3⟩ := s.app k hp hE hu he hS hlen
  exact u_gH hw (x_app (e_any ha) (e_any hb) e1) (hk z' Y' e2 e3).1 (hk z' Y' e2 e3).2
theorem own_pl (h : Own enc q e Y z ks) : z.plain = true := by
  rcases h with ⟨rfl, _⟩ | ⟨i, o, c, u, cs, rfl, _⟩ <;> rfl
end
end Go.Az
/-
  Pieces of memory: joined, and read as lists without a word. Conditions: stated at each theorem.
-/
set_option linter.unusedSimpArgs false
set_option linter.unusedVariables false
namespace Go.Az
open Go Go.Chz
theorem Sep.join {h X Y : Hp} {L L2 : List Pc} (s : Sep h X L) (t : Sep X Y L2) : Sep h Y (L ++ L2) := by
  have m := s.more t.ext
  refine ⟨m.ext, fun p hp => ?_, fun p hp i hi => ?_, List.pairwise_append.2 ⟨s.dis, t.dis, fun p hp q hq i hi hqi => ?_⟩⟩
  · rcases List.mem_append.1 hp with hp | hp
    · exact m.all p hp
    · exact t.all p hp
  · rcases List.mem_append.1 hp with hp | hp
    · exact s.low p hp i hi
    · exact Nat.le_trans s.ext.1 (t.low p hp i hi)
  · have h1 := p.lt hi (s.all p hp)
    have h2 := t.low q hq i hqi
    omega
/-- A new slice as a piece. -/
theorem RetS.sep {α : Type} {enc : α → List AV} {q : Nat} {e : TypeId} {h h' : Hp} {l : List α} {s : AV} (hE : EncOk enc q) (hR : RetS enc e h l s h') : Sep h h' [pcW enc q e s l] := by
  refine ⟨hR.ext, ?_, ?_, by simp⟩
  · intro p hp
    rw [List.mem_singleton.1 hp]; exact hR.own hE
  · intro p hp i hi
    rw [List.mem_singleton.1 hp] at hi
    rcases hR with ⟨rfl, _, _⟩ | ⟨c, u, rfl, _, _, _⟩
    · cases hi
    · injection hi with hi; omega
class EncC {α : Type} (enc : α → List AV) (q : outParam Nat) (d : outParam α) : Prop where
  ok : EncOk enc q
instance {k : IntKind} : EncC (encI k) 1 0 := ⟨encI_ok k⟩
class MemW (α : outParam Type) (L : List Pc) (z : AV) (enc : outParam (α → List AV)) (q : outParam Nat) (e : outParam TypeId) (l : outParam (List α)) : Prop where
  p : pcW enc q e z l ∈ L
instance {α : Type} {enc : α → List AV} {q : Nat} {e : TypeId} {z : AV} {l : List α} {L : List Pc} : MemW α (pcW enc q e z l :: L) z enc q e l := ⟨by simp⟩
instance (priority := low) {α : Type} {enc : α → List AV} {q : Nat} {e : TypeId} {z : AV} {l : List α} {p : Pc} {L : List Pc} [x : MemW α L z enc q e l] : MemW α (p :: L) z enc q e l := ⟨List.mem_cons_of_mem _ x.p⟩
instance (priority := low) {α : Type} {enc : α → List AV} {q : Nat} {e : TypeId} {z : AV} {l : List α} {E L : List Pc} [x : MemW α L z enc q e l] : MemW α (E ++ L) z enc q e l := ⟨List.mem_append_right _ x.p⟩
instance (priority := low) {α : Type} {enc : α → List AV} {q : Nat} {e : TypeId} {z : AV} {l : List α} {E L : List Pc} [x : MemW α L z enc q e l] : MemW α (L ++ E) z enc q e l := ⟨List.mem_append_left _ x.p⟩
/-- A list that lies in memory before the call, or in a piece. -/
class EP (α : outParam Type) (enc : outParam (α → List AV)) (q : outParam Nat) (d : outParam α) (h : Hp) (L : List Pc) (s : AV) (l : outParam (List α)) : Prop where
  ok : EncOk enc q
  p : Elts enc q h s l ∨ ∃ e, pcW enc q e s l ∈ L
instance (priority := 100) {α : Type} {enc : α → List AV} {q : Nat} {d : α} {h : Hp} {L : List Pc} {s : AV} {l : List α} [x : EL α enc q d h s l] : EP α enc q d h L s l := ⟨x.ok, .inl x.p⟩
instance {α : Type} {enc : α → List AV} {q : Nat} {d : α} {e : TypeId} {h : Hp} {L : List Pc} {s : AV} {l : List α} [c : EncC enc q d] : EP α enc q d h (pcW enc q e s l :: L) s l := ⟨c.ok, .inr ⟨e, by simp⟩⟩
instance (priority := 500) {α : Type} {enc : α → List AV} {q : Nat} {d : α} {h : Hp} {L : List Pc} {p : Pc} {s : AV} {l : List α} [x : EP α enc q d h L s l] : EP α enc q d h (p :: L) s l := ⟨x.ok, x.p.imp_right fun ⟨e, he⟩ => ⟨e, List.mem_cons_of_mem _ he⟩⟩
instance (priority := 500) {α : Type} {enc : α → List AV} {q : Nat} {d : α} {h : Hp} {L E : List Pc} {s : AV} {l : List α} [x : EP α enc q d h L s l] : EP α enc q d h (E ++ L) s l := ⟨x.ok, x.p.imp_right fun ⟨e, he⟩ => ⟨e, List.mem_append_right _ he⟩⟩
instance (priority := 500) {α : Type} {enc : α → List AV} {q : Nat} {d : α} {h : Hp} {L E : List Pc} {s : AV} {l : List α} [x : EP α enc q d h L s l] : EP α enc q d h (L ++ E) s l := ⟨x.ok, x.p.imp_right fun ⟨e, he⟩ => ⟨e, List.mem_append_left _ he⟩⟩
instance (priority := low) {α : Type} {enc : α → List AV} {q : Nat} {d : α} {h Y : Hp} {L : List Pc} {z : AV} {l : List α} [s : Sep h Y L] [x : EP α enc q d h L z l] : EL α enc q d Y z l := ⟨x.ok, by
  rcases x.p with h1 | ⟨e, h1⟩
  · exact h1.ext s.ext
  · exact Own.elts (s.all _ h1)⟩
instance (priority := low) {i : Nat} {o' : AObj} {L L' E : List Pc} [x : SetC L i o' L'] : SetC (E ++ L) i o' (E ++ L') := ⟨by
  obtain ⟨k, o, h1, h2⟩ := x.p
  exact ⟨E.length + k, o, by rw [List.getElem?_append_right (by omega), show E.length + k - E.length = k by omega]; exact h1, by rw [h2, List.set_append_right _ _ (by omega), show E.length + k - E.length = k by omega]⟩⟩
theorem Elts.sl {α : Type} {enc : α → List AV} {q : Nat} {h : Hp} {s : AV} {l : List α} (x : Elts enc q h s l) : SlC s := by
  rcases x with ⟨rfl, _⟩ | ⟨i, o, c, u, cs, t, ow, rfl, _⟩
  · exact ⟨.inl rfl⟩
  · exact ⟨.inr ⟨_, _, _, _, _, rfl⟩⟩
theorem Own.sl {α : Type} {enc : α → List AV} {q : Nat} {e : TypeId} {h : Hp} {s : AV} {l : List α} (x : Own enc q e h s l) : SlC s := x.elts.sl
theorem Sep.sl {h Y : Hp} {L : List Pc} (s : Sep h Y L) (k : Nat) {α : Type} {enc : α → List AV} {q : Nat} {e : TypeId} {z : AV} {l : List α} (hk : L[k]? = some (pcW enc q e z l)) : SlC z := (s.own k hk).sl
theorem Sep.perm {h Y : Hp} {L L' : List Pc} (s : Sep h Y L) (hp : L.Perm L') : Sep h Y L' :=
  ⟨s.ext, fun p hq => s.all p (hp.mem_iff.2 hq), fun p hq => s.low p (hp.mem_iff.2 hq), s.dis.perm hp fun {p q} hh i hi hqi => hh i hqi hi⟩
theorem Sep.pushL {h Y : Hp} {L : List Pc} (s : Sep h Y L) (os : List AObj) : Sep h (Y ++ os) (L ++ litP Y.length os) := s.join (Sep.lits Y os)
/-- A piece is taken out of the others. -/
class TakeW (α : outParam Type) (L : List Pc) (z : AV) (enc : outParam (α → List AV)) (q : outParam Nat) (e : outParam TypeId) (l : outParam (List α)) (L' : outParam (List Pc)) : Prop where
  p : L.Perm (pcW enc q e z l :: L')
instance {α : Type} {enc : α → List AV} {q : Nat} {e : TypeId} {z : AV} {l : List α} {L : List Pc} : TakeW α (pcW enc q e z l :: L) z enc q e l L := ⟨List.Perm.refl _⟩
instance (priority := low) {α : Type} {enc : α → List AV} {q : Nat} {e : TypeId} {z : AV} {l : List α} {p : Pc} {L L' : List Pc} [x : TakeW α L z enc q e l L'] : TakeW α (p :: L) z enc q e l (p :: L') := ⟨(x.p.cons p).trans (List.Perm.swap _ _ _)⟩
instance (priority := low) {α : Type} {enc : α → List AV} {q : Nat} {e : TypeId} {z : AV} {l : List α} {E L L' : List Pc} [x : TakeW α L z enc q e l L'] : TakeW α (E ++ L) z enc q e l (E ++ L') := ⟨(x.p.append_left E).trans List.perm_middle⟩
instance (priority := low) {α : Type} {enc : α → List AV} {q : Nat} {e : TypeId} {z : AV} {l : List α} {E L L' : List Pc} [x : TakeW α L z enc q e l L'] : TakeW α (L ++ E) z enc q e l (L' ++ E) := ⟨x.p.append_right E⟩
theorem Sep.take {h Y : Hp} {L L' : List Pc} {α : Type} {enc : α → List AV} {q : Nat} {e : TypeId} {z : AV} {l : List α} (s : Sep h Y L) (t : TakeW α L z enc q e l L') : Sep h Y (pcW enc q e z l :: L') := s.perm t.p
instance {h Y : Hp} {L : List Pc} {o0 o1 o2 o3 : AObj} [s : Sep h Y L] : Sep h (Y ++ [o0, o1, o2, o3]) (L ++ [pcC Y.length o0, pcC (Y.length + 1) o1, pcC (Y.length + 2) o2, pcC (Y.length + 3) o3]) := s.pushL [o0, o1, o2, o3]
instance {h Y : Hp} {L : List Pc} {o0 o1 o2 o3 o4 : AObj} [s : Sep h Y L] : Sep h (Y ++ [o0, o1, o2, o3, o4]) (L ++ [pcC Y.length o0, pcC (Y.length + 1) o1, pcC (Y.length + 2) o2, pcC (Y.length + 3) o3, pcC (Y.length + 4) o4]) := s.pushL [o0, o1, o2, o3, o4]
instance {h Y : Hp} {L : List Pc} {o0 o1 o2 o3 o4 o5 : AObj} [s : Sep h Y L] : Sep h (Y ++ [o0, o1, o2, o3, o4, o5]) (L ++ [pcC Y.length o0, pcC (Y.length + 1) o1, pcC (Y.length + 2) o2, pcC (Y.length + 3) o3, pcC (Y.length + 4) o4, pcC (Y.length + 5) o5]) := s.pushL [o0, o1, o2, o3, o4, o5]
instance {h Y : Hp} {L : List Pc} {o0 o1 o2 o3 o4 o5 o6 : AObj} [s : Sep h Y L] : Sep h (Y ++ [o0, o1, o2, o3, o4, o5, o6]) (L ++ [pcC Y.length o0, pcC (Y.length + 1) o1, pcC (Y.length + 2) o2, pcC (Y.length + 3) o3, pcC (Y.length + 4) o4, pcC (Y.length + 5) o5, pcC (Y.length + 6) o6]) := s.pushL [o0, o1, o2, o3, o4, o5, o6]
instance {h Y : Hp} {L : List Pc} {o0 o1 o2 o3 o4 o5 o6 o7 : AObj} [s : Sep h Y L] : Sep h (Y ++ [o0, o1, o2, o3, o4, o5, o6, o7]) (L ++ [pcC Y.length o0, pcC (Y.length + 1) o1, pcC (Y.length + 2) o2, pcC (Y.length + 3) o3, pcC (Y.length + 4) o4, pcC (Y.length + 5) o5, pcC (Y.length + 6) o6, pcC (Y.length + 7) o7]) := s.pushL [o0, o1, o2, o3, o4, o5, o6, o7]
instance {h Y : Hp} {L : List Pc} {o0 o1 o2 o3 o4 o5 o6 o7 o8 : AObj} [s : Sep h Y L] : Sep h (Y ++ [o0, o1, o2, o3, o4, o5, o6, o7, o8]) (L ++ [pcC Y.length o0, pcC (Y.length + 1) o1, pcC (Y.length + 2) o2, pcC (Y.length + 3) o3, pcC (Y.length + 4) o4, pcC (Y.length + 5) o5, pcC (Y.length + 6) o6, pcC (Y.length + 7) o7, pcC (Y.length + 8) o8]) := s.pushL [o0, o1, o2, o3, o4, o5, o6, o7, o8]
instance {h Y : Hp} {L : List Pc} {o0 o1 o2 o3 o4 o5 o6 o7 o8 o9 : AObj} [s : Sep h Y L] : Sep h (Y ++ [o0, o1, o2, o3, o4, o5, o6, o7, o8, o9]) (L ++ [pcC Y.length o0, pcC (Y.length + 1) o1, pcC (Y.length + 2) o2, pcC (Y.length + 3) o3, pcC (Y.length + 4) o4, pcC (Y.length + 5) o5, pcC (Y.length + 6) o6, pcC (Y.length + 7) o7, pcC (Y.length + 8) o8, pcC (Y.length + 9) o9]) := s.pushL [o0, o1, o2, o3, o4, o5, o6, o7, o8, o9]
instance {h Y : Hp} {L : List Pc} {o0 o1 o2 o3 o4 o5 o6 o7 o8 o9 o10 : AObj} [s : Sep h Y L] : Sep h (Y ++ [o0, o1, o2, o3, o4, o5, o6, o7, o8, o9, o10]) (L ++ [pcC Y.length o0, pcC (Y.length + 1) o1, pcC (Y.length + 2) o2, pcC (Y.length + 3) o3, pcC (Y.length + 4) o4, pcC (Y.length + 5) o5, pcC (Y.length + 6) o6, pcC (Y.length + 7) o7, pcC (Y.length + 8) o8, pcC (Y.length + 9) o9, pcC (Y.length + 10) o10]) := s.pushL [o0, o1, o2, o3, o4, o5, o6, o7, o8, o9, o10]
instance {h Y : Hp} {L : List Pc} {o0 o1 o2 o3 o4 o5 o6 o7 o8 o9 o10 o11 : AObj} [s : Sep h Y L] : Sep h (Y ++ [o0, o1, o2, o3, o4, o5, o6, o7, o8, o9, o10, o11]) (L ++ [pcC Y.length o0, pcC (Y.length + 1) o1, pcC (Y.length + 2) o2, pcC (Y.length + 3) o3, pcC (Y.length + 4) o4, pcC (Y.length + 5) o5, pcC (Y.length + 6) o6, pcC (Y.length + 7) o7, pcC (Y.length + 8) o8, pcC (Y.length + 9) o9, pcC (Y.length + 10) o10, pcC (Y.length + 11) o11]) := s.pushL [o0, o1, o2, o3, o4, o5, o6, o7, o8, o9, o10, o11]
end Go.Az
/-
  Elements of pieces are set; slices are made. Conditions: stated at each theorem.
-/
set_option linter.unusedSimpArgs false
set_option linter.unusedVariables false
namespace Go.Az
open Go Go.Chz
theorem setMany_1 {cs : List AV} {p : Nat} {v : AV} (h : p < cs.length) : setMany cs p [v] = cs.set p v := by
  refine List.ext_getElem? fun j => ?_
  rw [setMany_get (by simp only [List.length_singleton]; omega), List.getElem?_set]
  simp only [List.length_singleton]
  by_cases h1 : j < p
  · rw [if_pos h1, if_neg (by omega)]
  · rw [if_neg h1]
    by_cases h2 : j < p + 1
    · have : j = p := by omega
      subst this
      rw [if_pos h2, if_pos rfl, if_pos h]; simp
    · rw [if_neg h2, if_neg (by omega)]
section
variable {α : Type} {enc : α → List AV} {q : Nat} {e : TypeId} {z : AV} {l : List α} {h0 Y : Hp} {L : List Pc}
/-- An element of a piece is set. -/
theorem Sep.elt (S : Sep h0 Y L) (k : Nat) (hp : L[k]? = some (pcW enc q e z l)) (hE : EncOk enc q) {n off : Nat} (hn : n < l.length) (d : α) {vs : List AV} (y : α) (hy : setMany (enc (l.getD n d)) off vs = enc y) (hv : off + vs.length ≤ q) :
    ∃ i p cs, elP z q n = .ptr i (p - off) ∧ elF z q n off = .ptr i p ∧ off ≤ p ∧ Y[i]? = some (.cells cs e true) ∧ p + vs.length ≤ cs.length ∧ Sep h0 (Y.set i (.cells (setMany cs p vs) e true)) (L.set k (pcW enc q e z (l.set n y))) := by
  obtain ⟨i, o, cs, ⟨c, u, hz⟩, g1, g2, g3, g4⟩ := set_own (e := e) hE (S.own k hp) hn d hy hv
  refine ⟨i, o + n * q + off, cs, ?_, ?_, by omega, g1, g2, S.turn hp g4 g3 (fun j hj => .inl hj)⟩
  · rw [hz, elP_sl, Int.toNat_natCast]; congr 1; omega
  · rw [hz, elF_sl, Int.toNat_natCast]
end
section
variable {P : Program} {ops : Array Oper} {dd : Option Tmp} {ty : TypeId} {pos : String} {aft : Array Edge} {gd : Option (Nat × Bool)} {rest : List Oper} {N : Fr → Hp → Prop} {fl : List AV} {ds : List Dq} {h0 Y : Hp} {X : OrdX} {pd : List (Nat × Nat)} {gone : List Nat} {ii : Nat} {L : List Pc} {α : Type} {enc : α → List AV} {q : Nat} {e : TypeId} {z v : AV} {l : List α} {t : TypeId} {a b : Operand} {x : Int} {vs : List AV}
/-- A number, truth value or slice is stored into a list's element (of one cell). -/
theorem s_stE (k : Nat) (y : α) (d : α) (hk : ∀ Y', Sep h0 Y' (L.set k (pcW enc 1 e z (l.set x.toNat y))) → wkO P ops rest N (Fr.put ⟨fl, ds⟩ dd (.v undef)) Y') (S : Sep h0 Y L) (hp : L[k]? = some (pcW enc 1 e z l)) (hE : EncOk enc 1) (hs : C1 P t) (hx0 : 0 ≤ x) (hx1 : x < l.length) (hy : (enc (l.getD x.toNat d)).set 0 v = enc y) (hv : PlC v)
    (hw : wantA ops ⟨fl, ds⟩ ⟨dd, .store t a b, ty, pos, aft, gd⟩ = true := by rfl) (ha : evS fl a = some (elP z 1 x) := by rfl) (hb : evS fl b = some v := by rfl) : wkO P ops (⟨dd, .store t a b, ty, pos, aft, gd⟩ :: rest) N ⟨fl, ds⟩ Y := by
  have hx : ((x.toNat : Nat) : Int) = x := Int.toNat_of_nonneg hx0
  have hl : (enc (l.getD x.toNat d)).length = 1 := (hE _).1
  obtain ⟨i, p, cs, e1, e2, e0, e3, e4, e5⟩ := S.elt k hp hE (n := x.toNat) (off := 0) (by omega) d (vs := [v]) y (by rw [setMany_1 (by omega)]; exact hy) (by simp)
  rw [hx, Nat.sub_zero] at e1
  simp only [List.length_singleton] at e4
  rw [setMany_1 (by omega)] at e5
  exact s_gH hw (x_store1 hs.p ((e_any ha).trans e1) (e_any hb) hv.p e3 (by omega)) (hk _ e5)
theorem u_stE (k : Nat) (y : α) (d : α) (hk : ∀ Y', Sep h0 Y' (L.set k (pcW enc 1 e z (l.set x.toNat y))) → stayG gone pd Y Y' ∧ wkX P ops X pd N (Fr.put ⟨fl, ds⟩ dd (.v undef)) Y') (S : Sep h0 Y L) (hp : L[k]? = some (pcW enc 1 e z l)) (hE : EncOk enc 1) (hs : C1 P t) (hx0 : 0 ≤ x) (hx1 : x < l.length) (hy : (enc (l.getD x.toNat d)).set 0 v = enc y) (hv : PlC v)
    (hw : wantA ops ⟨fl, ds⟩ ⟨dd, .store t a b, ty, pos, aft, gd⟩ = true := by rfl) (ha : evS fl a = some (elP z 1 x) := by rfl) (hb : evS fl b = some v := by rfl) : wkX P ops (.alt ⟨dd, .store t a b, ty, pos, aft, gd⟩ ii gone X .no) pd N ⟨fl, ds⟩ Y := by
  have hx : ((x.toNat : Nat) : Int) = x := Int.toNat_of_nonneg hx0
  have hl : (enc (l.getD x.toNat d)).length = 1 := (hE _).1
  obtain ⟨i, p, cs, e1, e2, e0, e3, e4, e5⟩ := S.elt k hp hE (n := x.toNat) (off := 0) (by omega) d (vs := [v]) y (by rw [setMany_1 (by omega)]; exact hy) (by simp)
  rw [hx, Nat.sub_zero] at e1
  simp only [List.length_singleton] at e4
  rw [setMany_1 (by omega)] at e5
  exact u_gH hw (x_store1 hs.p ((e_any ha).trans e1) (e_any hb) hv.p e3 (by omega)) (hk _ e5).1 (hk _ e5).2
/-- .. into a field of a list's element. -/
theorem s_stF (k : Nat) (y : α) (d : α) {off : Nat} (hk : ∀ Y', Sep h0 Y' (L.set k (pcW enc q e z (l.set x.toNat y))) → wkO P ops rest N (Fr.put ⟨fl, ds⟩ dd (.v undef)) Y') (S : Sep h0 Y L) (hp : L[k]? = some (pcW enc q e z l)) (hE : EncOk enc q) (hs : C1 P t) (hx0 : 0 ≤ x) (hx1 : x < l.length) (hoff : off < q) (hy : (enc (l.getD x.toNat d)).set off v = enc y) (hv : PlC v)
    (hw : wantA ops ⟨fl, ds⟩ ⟨dd, .store t a b, ty, pos, aft, gd⟩ = true := by rfl) (ha : evS fl a = some (elF z q x off) := by rfl) (hb : evS fl b = some v := by rfl) : wkO P ops (⟨dd, .store t a b, ty, pos, aft, gd⟩ :: rest) N ⟨fl, ds⟩ Y := by
  have hx : ((x.toNat : Nat) : Int) = x := Int.toNat_of_nonneg hx0
  have hl : (enc (l.getD x.toNat d)).length = q := (hE _).1
  obtain ⟨i, p, cs, e1, e2, e0, e3, e4, e5⟩ := S.elt k hp hE (n := x.toNat) (off := off) (by omega) d (vs := [v]) y (by rw [setMany_1 (by omega)]; exact hy) (by simp; omega)
  rw [hx] at e2
  simp only [List.length_singleton] at e4
  rw [setMany_1 (by omega)] at e5
  exact s_gH hw (x_store1 hs.p ((e_any ha).trans e2) (e_any hb) hv.p e3 (by omega)) (hk _ e5)
/-- A whole element. -/
theorem s_stA (k : Nat) (y : α) (d : α) (hk : ∀ Y', Sep h0 Y' (L.set k (pcW enc q e z (l.set x.toNat y))) → wkO P ops rest N (Fr.put ⟨fl, ds⟩ dd (.v undef)) Y') (S : Sep h0 Y L) (hp : L[k]? = some (pcW enc q e z l)) (hE : EncOk enc q) (hs : CA P t q) (hx0 : 0 ≤ x) (hx1 : x < l.length) (hy : vs = enc y) (hv : AllP vs)
    (hw : wantA ops ⟨fl, ds⟩ ⟨dd, .store t a b, ty, pos, aft, gd⟩ = true := by rfl) (ha : evS fl a = some (elP z q x) := by rfl) (hb : evS fl b = some (.agg vs) := by rfl) : wkO P ops (⟨dd, .store t a b, ty, pos, aft, gd⟩ :: rest) N ⟨fl, ds⟩ Y := by
  have hx : ((x.toNat : Nat) : Int) = x := Int.toNat_of_nonneg hx0
  have hl : (enc (l.getD x.toNat d)).length = q := (hE _).1
  have hl2 : vs.length = q := by rw [hy]; exact (hE _).1
  obtain ⟨i, p, cs, e1, e2, e0, e3, e4, e5⟩ := S.elt k hp hE (n := x.toNat) (off := 0) (by omega) d (vs := vs) y (by
    rw [← hy, setMany, List.take_zero, List.drop_eq_nil_of_le (by omega)]; simp) (by omega)
  rw [hx, Nat.sub_zero] at e1
  exact s_gH hw (x_storeA hs.p ((e_any ha).trans e1) (e_any hb) hv.p hl2 e3 (by omega)) (hk _ e5)
theorem u_stA (k : Nat) (y : α) (d : α) (hk : ∀ Y', Sep h0 Y' (L.set k (pcW enc q e z (l.set x.toNat y))) → stayG gone pd Y Y' ∧ wkX P ops X pd N (Fr.put ⟨fl, ds⟩ dd (.v undef)) Y') (S : Sep h0 Y L) (hp : L[k]? = some (pcW enc q e z l)) (hE : EncOk enc q) (hs : CA P t q) (hx0 : 0 ≤ x) (hx1 : x < l.length) (hy : vs = enc y) (hv : AllP vs)
    (hw : wantA ops ⟨fl, ds⟩ ⟨dd, .store t a b, ty, pos, aft, gd⟩ = true := by rfl) (ha : evS fl a = some (elP z q x) := by rfl) (hb : evS fl b = some (.agg vs) := by rfl) : wkX P ops (.alt ⟨dd, .store t a b, ty, pos, aft, gd⟩ ii gone X .no) pd N ⟨fl, ds⟩ Y := by
  have hx : ((x.toNat : Nat) : Int) = x := Int.toNat_of_nonneg hx0
  have hl : (enc (l.getD x.toNat d)).length = q := (hE _).1
  have hl2 : vs.length = q := by rw [hy]; exact (hE _).1
  obtain ⟨i, p, cs, e1, e2, e0, e3, e4, e5⟩ := S.elt k hp hE (n := x.toNat) (off := 0) (by omega) d (vs := vs) y (by
    rw [← hy, setMany, List.take_zero, List.drop_eq_nil_of_le (by omega)]; simp) (by omega)
  rw [hx, Nat.sub_zero] at e1
  exact u_gH hw (x_storeA hs.p ((e_any ha).trans e1) (e_any hb) hv.p hl2 e3 (by omega)) (hk _ e5).1 (hk _ e5).2
end
/-! ### Slices are made -/
def mkOf (P : Program) (t : TypeId) : Option (TypeId × List AV × Nat) := match P.underlying t with
  | some (.slice e) => match tab P e with
    | some x => if (Nat.blt 0 x.size && Nat.beq x.zc.length x.size) = true then some (e, x.zc.map .v, x.bytes) else none
    | none => none
  | _ => none
class CM (P : Program) (t : TypeId) (e : outParam TypeId) (zs : outParam (List AV)) (by' : outParam Nat) : Prop where
  p : mkOf P t = some (e, zs, by')
theorem zrow_flat {α : Type} {enc : α → List AV} (x : TI) (d : α) (hz : x.zc.map AV.v = enc d) (hs : 0 < x.size) (hl : x.zc.length = x.size) : ∀ n, zrow x (n * x.size) = (List.replicate n d).flatMap enc
  | 0 => by simp [zrow]
  | n + 1 => by
    have ih := zrow_flat x d hz hs hl n
    rw [List.replicate_succ', List.flatMap_append, ← ih, Nat.succ_mul]
    simp only [zrow, List.range_add, List.map_append, List.map_map, List.flatMap_singleton, List.flatMap_cons, List.flatMap_nil, List.append_nil]
    congr 1
    rw [← hz]
    refine List.ext_getElem? fun j => ?_
    by_cases hj : j < x.size
    · rw [List.getElem?_map, List.getElem?_range hj, List.getElem?_map, List.getElem?_eq_getElem (by omega)]
      simp only [Option.map_some, Function.comp]
      rw [Nat.add_comm, Nat.add_mul_mod_self_right, Nat.mod_eq_of_lt hj, List.getD_eq_getElem?_getD, List.getElem?_eq_getElem (by omega)]
      rfl
    · rw [List.getElem?_eq_none (by simp; omega), List.getElem?_eq_none (by simp; omega)]
theorem x_mks {P : Program} {t e : TypeId} {zs : List AV} {by' : Nat} {f : Fr} {h : Hp} {a b : Operand} {n : Int} {k k' : IntKind} {α : Type} {enc : α → List AV} (d : α) (hu : mkOf P t = some (e, zs, by')) (hd : zs = enc d) (ha : ev f a = .v (.int k n)) (hb : ev f b = .v (.int k' n)) (h0 : 0 ≤ n) (h1 : n ≤ 1000000) (h2 : by' ≤ 1000) :
    exH P f h (.makeSlice t a b) = some (.sl h.length 0 n.toNat n.toNat false, h ++ [.cells ((List.replicate n.toNat d).flatMap enc) e true]) := by
  simp only [mkOf] at hu
  cases hx : P.underlying t with
  | none => simp only [hx] at hu; cases hu
  | some dsc =>
    simp only [hx] at hu
    cases dsc with
    | slice e0 =>
      simp only [] at hu
      cases ht : tab P e0 with
      | none => simp only [ht] at hu; cases hu
      | some x =>
        simp only [ht] at hu
        split at hu
        · rename_i hc
          simp only [Bool.and_eq_true, Nat.blt_eq, Nat.beq_eq] at hc
          injection hu with hu
          injection hu with he hu
          injection hu with hz hb'
          subst he hb'
          simp only [exH, ha, hb, msl, hx, intOf?, ht]
          have hbn : (x.bytes : Int) * n ≤ 281474976710656 := by
            have : (x.bytes : Int) * n ≤ 1000 * 1000000 := Int.mul_le_mul (by omega) (by omega) h0 (by omega)
            omega
          rw [if_pos ⟨h0, Int.le_refl _, by omega, hbn, hc.1⟩, zrow_flat x d (hz.trans hd) hc.1 hc.2]
        · cases hu
    | _ => simp only [] at hu; cases hu
section
variable {P : Program} {ops : Array Oper} {dd : Option Tmp} {ty : TypeId} {pos : String} {aft : Array Edge} {gd : Option (Nat × Bool)} {rest : List Oper} {N : Fr → Hp → Prop} {fl : List AV} {ds : List Dq} {h0 Y : Hp} {X : OrdX} {pd : List (Nat × Nat)} {gone : List Nat} {ii : Nat} {L : List Pc} {α : Type} {q : Nat} {e : TypeId} {t : TypeId} {a b : Operand} {n : Int} {zs : List AV} {by' : Nat} {k k' : IntKind}
theorem Sep.made (S : Sep h0 Y L) (enc : α → List AV) (hE : EncOk enc q) (d : α) (n : Nat) : Sep h0 (Y ++ [.cells ((List.replicate n d).flatMap enc) e true]) (L ++ [pcW enc q e (.sl Y.length 0 n n false) (List.replicate n d)]) := by
  refine S.join ⟨ext_app _ _, ?_, ?_, by simp⟩
  · intro p hp
    rw [List.mem_singleton.1 hp]
    refine .inr ⟨Y.length, 0, n, false, (List.replicate n d).flatMap enc, by simp, by simp, ?_, ?_, (fun h => by cases h), fun _ => ?_⟩
    · rw [flat_len hE]; simp
    · rw [List.drop_zero, List.take_of_length_le (by rw [flat_len hE]; simp)]
    · rw [flat_len hE]; simp
  · intro p hp i hi
    rw [List.mem_singleton.1 hp] at hi
    injection hi with hi; omega
theorem s_mks (enc : α → List AV) (d : α) (hk : ∀ z Y', SlC z → Sep h0 Y' (L ++ [pcW enc q e z (List.replicate n.toNat d)]) → wkO P ops rest N (Fr.put ⟨fl, ds⟩ dd z) Y') (S : Sep h0 Y L) (hE : EncOk enc q) (hu : CM P t e zs by') (hd : zs = enc d) (h0' : 0 ≤ n) (h1 : n ≤ 1000000) (h2 : by' ≤ 1000)
    (hw : wantA ops ⟨fl, ds⟩ ⟨dd, .makeSlice t a b, ty, pos, aft, gd⟩ = true := by rfl) (ha : evS fl a = some (.v (.int k n)) := by rfl) (hb : evS fl b = some (.v (.int k' n)) := by rfl) : wkO P ops (⟨dd, .makeSlice t a b, ty, pos, aft, gd⟩ :: rest) N ⟨fl, ds⟩ Y :=
  s_gH hw (x_mks d hu.p hd (e_any ha) (e_any hb) h0' h1 h2) (hk _ _ inferInstance (S.made enc hE d _))
theorem u_mks (enc : α → List AV) (d : α) (hk : ∀ z Y', SlC z → Sep h0 Y' (L ++ [pcW enc q e z (List.replicate n.toNat d)]) → stayG gone pd Y Y' ∧ wkX P ops X pd N (Fr.put ⟨fl, ds⟩ dd z) Y') (S : Sep h0 Y L) (hE : EncOk enc q) (hu : CM P t e zs by') (hd : zs = enc d) (h0' : 0 ≤ n) (h1 : n ≤ 1000000) (h2 : by' ≤ 1000)
    (hw : wantA ops ⟨fl, ds⟩ ⟨dd, .makeSlice t a b, ty, pos, aft, gd⟩ = true := by rfl) (ha : evS fl a = some (.v (.int k n)) := by rfl) (hb : evS fl b = some (.v (.int k' n)) := by rfl) : wkX P ops (.alt ⟨dd, .makeSlice t a b, ty, pos, aft, gd⟩ ii gone X .no) pd N ⟨fl, ds⟩ Y :=
  u_gH hw (x_mks d hu.p hd (e_any ha) (e_any hb) h0' h1 h2) (hk _ _ inferInstance (S.made enc hE d _)).1 (hk _ _ inferInstance (S.made enc hE d _)).2
end
/-! ### Pieces are brought into order -/
class TakeP (L : List Pc) (p : Pc) (L' : outParam (List Pc)) : Prop where
  p : L.Perm (p :: L')
instance {p : Pc} {L : List Pc} : TakeP (p :: L) p L := ⟨List.Perm.refl _⟩
instance (priority := low) {p x : Pc} {L L' : List Pc} [t : TakeP L p L'] : TakeP (x :: L) p (x :: L') := ⟨(t.p.cons x).trans (List.Perm.swap _ _ _)⟩
instance (priority := low) {p : Pc} {E L L' : List Pc} [t : TakeP L p L'] : TakeP (E ++ L) p (E ++ L') := ⟨(t.p.append_left E).trans List.perm_middle⟩
instance (priority := low) {p : Pc} {E L L' : List Pc} [t : TakeP L p L'] : TakeP (L ++ E) p (L' ++ E) := ⟨t.p.append_right E⟩
class TakeC (L : List Pc) (i : Nat) (o : outParam AObj) (L' : outParam (List Pc)) : Prop where
  p : L.Perm (pcC i o :: L')
instance {i : Nat} {o : AObj} {L : List Pc} : TakeC (pcC i o :: L) i o L := ⟨List.Perm.refl _⟩
instance (priority := low) {i : Nat} {o : AObj} {x : Pc} {L L' : List Pc} [t : TakeC L i o L'] : TakeC (x :: L) i o (x :: L') := ⟨(t.p.cons x).trans (List.Perm.swap _ _ _)⟩
instance (priority := low) {i : Nat} {o : AObj} {E L L' : List Pc} [t : TakeC L i o L'] : TakeC (E ++ L) i o (E ++ L') := ⟨(t.p.append_left E).trans List.perm_middle⟩
instance (priority := low) {i : Nat} {o : AObj} {E L L' : List Pc} [t : TakeC L i o L'] : TakeC (L ++ E) i o (L' ++ E) := ⟨t.p.append_right E⟩
theorem TakeC.tp {L L' : List Pc} {i : Nat} {o : AObj} (t : TakeC L i o L') : TakeP L (pcC i o) L' := ⟨t.p⟩
theorem TakeW.tp {α : Type} {enc : α → List AV} {q : Nat} {e : TypeId} {z : AV} {l : List α} {L L' : List Pc} (t : TakeW α L z enc q e l L') : TakeP L (pcW enc q e z l) L' := ⟨t.p⟩
section
variable {h Y : Hp} {L L1 L2 L3 L4 L5 L6 : List Pc} {p1 p2 p3 p4 p5 p6 : Pc}
theorem Sep.take1 (s : Sep h Y L) (t1 : TakeP L p1 L1) : Sep h Y (p1 :: L1) := s.perm t1.p
theorem Sep.take2 (s : Sep h Y L) (t1 : TakeP L p1 L1) (t2 : TakeP L1 p2 L2) : Sep h Y (p1 :: p2 :: L2) := s.perm (t1.p.trans (t2.p.cons _))
theorem Sep.take3 (s : Sep h Y L) (t1 : TakeP L p1 L1) (t2 : TakeP L1 p2 L2) (t3 : TakeP L2 p3 L3) : Sep h Y (p1 :: p2 :: p3 :: L3) := (s.take2 t1 t2).perm ((t3.p.cons _).cons _)
theorem Sep.take4 (s : Sep h Y L) (t1 : TakeP L p1 L1) (t2 : TakeP L1 p2 L2) (t3 : TakeP L2 p3 L3) (t4 : TakeP L3 p4 L4) : Sep h Y (p1 :: p2 :: p3 :: p4 :: L4) := (s.take3 t1 t2 t3).perm (((t4.p.cons _).cons _).cons _)
theorem Sep.take5 (s : Sep h Y L) (t1 : TakeP L p1 L1) (t2 : TakeP L1 p2 L2) (t3 : TakeP L2 p3 L3) (t4 : TakeP L3 p4 L4) (t5 : TakeP L4 p5 L5) : Sep h Y (p1 :: p2 :: p3 :: p4 :: p5 :: L5) := (s.take4 t1 t2 t3 t4).perm ((((t5.p.cons _).cons _).cons _).cons _)
theorem Sep.take6 (s : Sep h Y L) (t1 : TakeP L p1 L1) (t2 : TakeP L1 p2 L2) (t3 : TakeP L2 p3 L3) (t4 : TakeP L3 p4 L4) (t5 : TakeP L4 p5 L5) (t6 : TakeP L5 p6 L6) : Sep h Y (p1 :: p2 :: p3 :: p4 :: p5 :: p6 :: L6) := (s.take5 t1 t2 t3 t4 t5).perm (((((t6.p.cons _).cons _).cons _).cons _).cons _)
end
end Go.Az
/-
  Appended to a new, empty slice. Conditions: stated at each theorem.
-/
set_option linter.unusedSimpArgs false
set_option linter.unusedVariables false
namespace Go.Az
open Go Go.Chz
/-! ### Appended to a new, empty slice -/
section
variable {P : Program} {ops : Array Oper} {dd : Option Tmp} {ty : TypeId} {pos : String} {aft : Array Edge} {gd : Option (Nat × Bool)} {rest : List Oper} {N : Fr → Hp → Prop} {fl : List AV} {ds : List Dq} {h0 Y : Hp} {X : OrdX} {pd : List (Nat × Nat)} {gone : List Nat} {ii : Nat} {L L' : List Pc} {α : Type} {enc : α → List AV} {q : Nat} {e : TypeId} {u : AV} {l2 : List α} {t : TypeId} {a b : Operand} {i : Nat}
theorem sep_app0 (S : Sep h0 Y L) (T : TakeC L i (.cells [] e true) L') (hE : EncOk enc q) (hu : CS P t e q) (he : CE P e q) (hS : Elts enc q Y u l2) (hlen : l2.length ≤ 1099511627776) :
    ∃ z' Y', app P Y [t, t] (.sl i 0 0 0 false) u = some (z', Y') ∧ SlC z' ∧ Sep h0 Y' (pcW enc q e z' l2 :: L') := by
  have S1 := S.perm T.p
  have hi : Y[i]? = some (.cells [] e true) := S1.all (pcC i (.cells [] e true)) (by simp)
  have S2 : Sep h0 Y (pcW enc q e (.sl i 0 0 0 false) ([] : List α) :: L') := by
    refine ⟨S1.ext, fun p hp => ?_, fun p hp j hj => ?_, ?_⟩
    · rcases List.mem_cons.1 hp with rfl | hp
      · exact .inr ⟨i, 0, 0, false, [], rfl, hi, by simp, by simp, (fun h => by cases h), fun _ => by simp⟩
      · exact S1.all p (List.mem_cons_of_mem _ hp)
    · rcases List.mem_cons.1 hp with rfl | hp
      · exact S1.low (pcC i (.cells [] e true)) (by simp) j hj
      · exact S1.low p (List.mem_cons_of_mem _ hp) j hj
    · have d := S1.dis
      rw [List.pairwise_cons] at d ⊢
      exact ⟨fun p hp j hj => d.1 p hp j hj, d.2⟩
  obtain ⟨z', Y', e1, e2, e3⟩ := S2.app 0 rfl hE hu he hS (by simp; omega)
  simp only [List.nil_append, List.set_cons_zero] at e2
  exact ⟨z', Y', e1, e2.sl 0 rfl, e2⟩
theorem s_app0 {d0 : α} (h0 : Hp) (hk : ∀ z' Y', SlC z' → Sep h0 Y' (pcW enc q e z' l2 :: L') → wkO P ops rest N (Fr.put ⟨fl, ds⟩ dd z') Y')
    (hw : wantA ops ⟨fl, ds⟩ ⟨dd, .call ⟨.builtin .append, #[a, b], #[t, t]⟩, ty, pos, aft, gd⟩ = true := by rfl) (ha : evS fl a = some (.sl i 0 0 0 false) := by rfl) (hb : evS fl b = some u := by rfl)
    (S : Sep h0 Y L := by infer_instance) (x : EL α enc q d0 Y u l2 := by infer_instance) (hu : CS P t e q := by infer_instance) (he : CE P e q := by infer_instance) (T : TakeC L i (.cells [] e true) L' := by infer_instance) (hlen : l2.length ≤ 1099511627776 := by omega) : wkO P ops (⟨dd, .call ⟨.builtin .append, #[a, b], #[t, t]⟩, ty, pos, aft, gd⟩ :: rest) N ⟨fl, ds⟩ Y := by
  obtain ⟨z', Y', e1, e2, e3⟩ := sep_app0 S T x.ok hu he x.p hlen
  exact s_gH hw (x_app (e_any ha) (e_any hb) e1) (hk z' Y' e2 e3)
theorem u_app0 {d0 : α} (h0 : Hp) (hk : ∀ z' Y', SlC z' → Sep h0 Y' (pcW enc q e z' l2 :: L') → stayG gone pd Y Y' ∧ wkX P ops X pd N (Fr.put ⟨fl, ds⟩ dd z') Y')
    (hw : wantA ops ⟨fl, ds⟩ ⟨dd, .call ⟨.builtin .append, #[a, b], #[t, t]⟩, ty, pos, aft, gd⟩ = true := by rfl) (ha : evS fl a = some (.sl i 0 0 0 false) := by rfl) (hb : evS fl b = some u := by rfl)
    (S : Sep h0 Y L := by infer_instance) (x : EL α enc q d0 Y u l2 := by infer_instance) (hu : CS P t e q := by infer_instance) (he : CE P e q := by infer_instance) (T : TakeC L i (.cells [] e true) L' := by infer_instance) (hlen : l2.length ≤ 1099511627776 := by omega) : wkX P ops (.alt ⟨dd, .call ⟨.builtin .append, #[a, b], #[t, t]⟩, ty, pos, aft, gd⟩ ii gone X .no) pd N ⟨fl, ds⟩ Y := by
  obtain ⟨z', Y', e1, e2, e3⟩ := sep_app0 S T x.ok hu he x.p hlen
  exact u_gH hw (x_app (e_any ha) (e_any hb) e1) (hk z' Y' e2 e3).1 (hk z' Y' e2 e3).2
end
end Go.Az
