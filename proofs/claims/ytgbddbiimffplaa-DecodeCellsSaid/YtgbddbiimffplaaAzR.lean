/-
  Short steps of a walk over abstract memory: what they ask for is found by the elaborator (facts about types as instances, the rest by reduction or arithmetic). Conditions: stated at each theorem.
-/
import Derived.Test.YtgbddbiimffplaaAzQ
import Derived.ChangeSlices
import Derived.Lib.SmallJoins
set_option linter.unusedVariables false
set_option linter.unusedSectionVars false
set_option linter.unusedSimpArgs false
set_option linter.unusedVariables false
namespace Go.Az
open Go Go.Chz

class C1 (P : Program) (t : TypeId) : Prop where
  p : isS1 P t = true
class CA (P : Program) (t : TypeId) (m : outParam Nat) : Prop where
  p : isAg P t m = true
class CS (P : Program) (t : TypeId) (e : outParam TypeId) (q : outParam Nat) : Prop where
  p : sliOf P t = some (e, q)
class CR (P : Program) (t : TypeId) (m : outParam Nat) (e : outParam TypeId) (q : outParam Nat) : Prop where
  p : arrOf P t = some (m, e, q)
class CF (P : Program) (t : TypeId) (fl : Nat) (off : outParam Nat) : Prop where
  p : fadOf P t fl = some off
class CZ (P : Program) (t : TypeId) (vs : outParam (List AV)) : Prop where
  p : zeroA P t = some vs
class CU (P : Program) (t : TypeId) (k : outParam IntKind) : Prop where
  p : P.underlying t = some (.int k)
class CT (P : Program) (t : TypeId) : Prop where
  p : strTy P t = true
class CB (P : Program) (t : TypeId) : Prop where
  p : P.underlying t = some .bool
class CE (P : Program) (e : TypeId) (q : outParam Nat) : Prop where
  p : elOkQ P e q = true
class CO (P : Program) (g : FuncId) : Prop where
  p : okFn P g = true
class BD (P : Program) (t : TypeId) (ps : List (Nat × AV)) (r : outParam AV) : Prop where
  p : bld P t ps = some r
class BS (P : Program) (t : TypeId) (len : Nat) (ps : List (Nat × AV)) (e : outParam TypeId) (cs : outParam (List AV)) : Prop where
  p : bslC P t len ps = some (e, cs)
class BN (P : Program) (op : BinOp) (t : TypeId) (u w : AV) (r : outParam Bool) : Prop where
  p : bin P op t u w = some (.v (.bool r))
class MI (P : Program) (t : TypeId) (v : AV) (r : outParam AV) : Prop where
  p : mif P t v = some r
class HA (h : Hp) (i : Nat) (o : outParam AObj) : Prop where
  p : h[i]? = some o
theorem ha_same {Y Y' : Hp} {i : Nat} {o : AObj} (a : HA Y i o) (b : HA Y' i o) : Y'[i]? = Y[i]? := b.p.trans a.p.symm
/-- A value that is a slice. -/
class SlC (v : AV) : Prop where
  p : v = .v (.slice none 0 0) ∨ ∃ i o n c u, v = .sl i o n c u
class PlC (v : AV) : Prop where
  p : v.plain = true
class AllP (l : List AV) : Prop where
  p : allOne l = true
instance : SlC (.v (.slice none 0 0)) := ⟨.inl rfl⟩
instance {i o n c : Nat} {u : Bool} : SlC (.sl i o n c u) := ⟨.inr ⟨_, _, _, _, _, rfl⟩⟩
instance {v : AV} [x : SlC v] : PlC v := ⟨by rcases x.p with rfl | ⟨i, o, n, c, u, rfl⟩ <;> rfl⟩
instance {k : IntKind} {n : Int} : PlC (.v (.int k n)) := ⟨rfl⟩
instance : AllP [] := ⟨rfl⟩
instance {v : AV} {l : List AV} [x : PlC v] [y : AllP l] : AllP (v :: l) := ⟨by
  show (v.one && allOne l) = true
  rw [(plain_spec x.p).2.1, y.p]; rfl⟩
class EL (α : outParam Type) (enc : outParam (α → List AV)) (q : outParam Nat) (d : outParam α) (h : Hp) (s : AV) (l : outParam (List α)) : Prop where
  ok : EncOk enc q
  p : Elts enc q h s l
theorem mkEL {α : Type} {enc : α → List AV} {q : Nat} {h : Hp} {s : AV} {l : List α} (ok : EncOk enc q) (d : α) (hS : Elts enc q h s l) : EL α enc q d h s l := ⟨ok, hS⟩
instance {α : Type} {enc : α → List AV} {q : Nat} {d : α} {h r : Hp} {s : AV} {l : List α} [x : EL α enc q d h s l] : EL α enc q d (h ++ r) s l := ⟨x.ok, x.p.ext (ext_app _ _)⟩

instance {H r : Hp} {a0 : AObj} : HA (H ++ a0 :: r) H.length a0 := ⟨by rw [List.getElem?_append_right (by omega), show H.length - H.length = 0 by omega]; rfl⟩
instance {H r : Hp} {a0 a1 : AObj} : HA (H ++ a0 :: a1 :: r) (H.length + 1) a1 := ⟨by rw [List.getElem?_append_right (by omega), show (H.length + 1) - H.length = 1 by omega]; rfl⟩
theorem sa8 {H r : Hp} {a0 a1 a2 a3 a4 a5 a6 a7 a8 x : AObj} : (H ++ a0 :: a1 :: a2 :: a3 :: a4 :: a5 :: a6 :: a7 :: a8 :: r).set (H.length + 8) x = H ++ a0 :: a1 :: a2 :: a3 :: a4 :: a5 :: a6 :: a7 :: x :: r := by rw [List.set_append_right (i := H.length + 8) x (by omega), show H.length + 8 - H.length = 8 by omega]; rfl
theorem sa9 {H r : Hp} {a0 a1 a2 a3 a4 a5 a6 a7 a8 a9 x : AObj} : (H ++ a0 :: a1 :: a2 :: a3 :: a4 :: a5 :: a6 :: a7 :: a8 :: a9 :: r).set (H.length + 9) x = H ++ a0 :: a1 :: a2 :: a3 :: a4 :: a5 :: a6 :: a7 :: a8 :: x :: r := by rw [List.set_append_right (i := H.length + 9) x (by omega), show H.length + 9 - H.length = 9 by omega]; rfl
theorem sa10 {H r : Hp} {a0 a1 a2 a3 a4 a5 a6 a7 a8 a9 a10 x : AObj} : (H ++ a0 :: a1 :: a2 :: a3 :: a4 :: a5 :: a6 :: a7 :: a8 :: a9 :: a10 :: r).set (H.length + 10) x = H ++ a0 :: a1 :: a2 :: a3 :: a4 :: a5 :: a6 :: a7 :: a8 :: a9 :: x :: r := by rw [List.set_append_right (i := H.length + 10) x (by omega), show H.length + 10 - H.length = 10 by omega]; rfl
theorem sa11 {H r : Hp} {a0 a1 a2 a3 a4 a5 a6 a7 a8 a9 a10 a11 x : AObj} : (H ++ a0 :: a1 :: a2 :: a3 :: a4 :: a5 :: a6 :: a7 :: a8 :: a9 :: a10 :: a11 :: r).set (H.length + 11) x = H ++ a0 :: a1 :: a2 :: a3 :: a4 :: a5 :: a6 :: a7 :: a8 :: a9 :: a10 :: x :: r := by rw [List.set_append_right (i := H.length + 11) x (by omega), show H.length + 11 - H.length = 11 by omega]; rfl
def evP (l : List AV) : List (Nat × Operand) → Option (List (Nat × AV))
  | [] => some []
  | (i, a) :: r => match evS l a, evP l r with
    | some v, some vs => some ((i, v) :: vs)
    | _, _ => none
theorem evP_eq {l : List AV} {ds : List Nat} : ∀ {ps : List (Nat × Operand)} {vs : List (Nat × AV)}, evP l ps = some vs → ps.map (fun p => (p.1, ev ⟨l, ds⟩ p.2)) = vs
  | [], vs, h => by injection h
  | (i, a) :: r, vs, h => by
    unfold evP at h
    split at h
    · rename_i v vs' h1 h2
      injection h with h
      subst h
      simp only [List.map_cons, e_any (ds := ds) h1, evP_eq (ds := ds) h2]
    · cases h
theorem x_loadW {P : Program} {f : Fr} {h : Hp} {t tt i m : Nat} {a : Operand} {cs : List AV} {ow : Bool} (hs : isAg P t m = true) (ha : ev f a = .ptr i 0) (hi : h[i]? = some (.cells cs tt ow)) (hl : cs.length = m) : exL P f h (.load t a) = some (.agg cs) := by
  rw [x_loadA hs ha hi (by omega), List.drop_zero, List.take_of_length_le (by omega)]
section
variable {P : Program} {l : List AV} {ds : List Nat} {h h' : Hp} {ops : Array Oper} {N : Fr → Hp → Prop} {d : Option Tmp} {ty : TypeId} {pos : String} {aft : Array Edge} {gd : Option (Nat × Bool)} {rest : List Oper} {restQ : List (Oper × Bool)} {zz : Bool} {X : OrdX} {pd : List (Nat × Nat)} {ii : Nat} {gone : List Nat} {a b c : Operand} {t t' tt e : TypeId} {x y n : Int} {k k0 k1 : IntKind} {r v : AV} {i o m q off fl : Nat} {cs vs : List AV} {ow : Bool}
theorem smove  (hk : wkO P ops rest N (Fr.put ⟨l, ds⟩ d (r)) (h)) (hw : wantA ops ⟨l, ds⟩ ⟨d, .move a, ty, pos, aft, gd⟩ = true := by rfl) (ha : evS l a = some (r) := by rfl) : wkO P ops (⟨d, .move a, ty, pos, aft, gd⟩ :: rest) N ⟨l, ds⟩ h := s_gL hw (x_move (e_any ha)) hk
theorem qmove  (hk : wkQ P ops restQ N (Fr.put ⟨l, ds⟩ d (r)) (h)) (hw : wantA ops ⟨l, ds⟩ ⟨d, .move a, ty, pos, aft, gd⟩ = true := by rfl) (ha : evS l a = some (r) := by rfl) : wkQ P ops ((⟨d, .move a, ty, pos, aft, gd⟩, zz) :: restQ) N ⟨l, ds⟩ h := q_gL hw (x_move (e_any ha)) hk
theorem tmove  (hk : wkX P ops X pd N (Fr.put ⟨l, ds⟩ d (r)) (h)) (hw : wantA ops ⟨l, ds⟩ ⟨d, .move a, ty, pos, aft, gd⟩ = true := by rfl) (ha : evS l a = some (r) := by rfl) (hrd : readsOf ⟨l, ds⟩ (.move a) = [] := by rfl) : wkX P ops (.light ⟨d, .move a, ty, pos, aft, gd⟩ ii X) pd N ⟨l, ds⟩ h := t_gL hw (x_move (e_any ha)) hk hrd
theorem sassign  (hk : wkO P ops rest N (Fr.put ⟨l, ds⟩ d (r)) (h)) (hw : wantA ops ⟨l, ds⟩ ⟨d, .assign a, ty, pos, aft, gd⟩ = true := by rfl) (ha : evS l a = some (r) := by rfl) : wkO P ops (⟨d, .assign a, ty, pos, aft, gd⟩ :: rest) N ⟨l, ds⟩ h := s_gL hw (x_assign (e_any ha)) hk
theorem qassign  (hk : wkQ P ops restQ N (Fr.put ⟨l, ds⟩ d (r)) (h)) (hw : wantA ops ⟨l, ds⟩ ⟨d, .assign a, ty, pos, aft, gd⟩ = true := by rfl) (ha : evS l a = some (r) := by rfl) : wkQ P ops ((⟨d, .assign a, ty, pos, aft, gd⟩, zz) :: restQ) N ⟨l, ds⟩ h := q_gL hw (x_assign (e_any ha)) hk
theorem tassign  (hk : wkX P ops X pd N (Fr.put ⟨l, ds⟩ d (r)) (h)) (hw : wantA ops ⟨l, ds⟩ ⟨d, .assign a, ty, pos, aft, gd⟩ = true := by rfl) (ha : evS l a = some (r) := by rfl) (hrd : readsOf ⟨l, ds⟩ (.assign a) = [] := by rfl) : wkX P ops (.light ⟨d, .assign a, ty, pos, aft, gd⟩ ii X) pd N ⟨l, ds⟩ h := t_gL hw (x_assign (e_any ha)) hk hrd
theorem spickT  (hk : wkO P ops rest N (Fr.put ⟨l, ds⟩ d (r)) (h)) (hw : wantA ops ⟨l, ds⟩ ⟨d, .pick c a b, ty, pos, aft, gd⟩ = true := by rfl) (hc : evS l c = some (.v (.bool true)) := by rfl) (ha : evS l a = some (r) := by rfl) : wkO P ops (⟨d, .pick c a b, ty, pos, aft, gd⟩ :: rest) N ⟨l, ds⟩ h := s_gL hw (x_pickT (e_any hc) (e_any ha)) hk
theorem qpickT  (hk : wkQ P ops restQ N (Fr.put ⟨l, ds⟩ d (r)) (h)) (hw : wantA ops ⟨l, ds⟩ ⟨d, .pick c a b, ty, pos, aft, gd⟩ = true := by rfl) (hc : evS l c = some (.v (.bool true)) := by rfl) (ha : evS l a = some (r) := by rfl) : wkQ P ops ((⟨d, .pick c a b, ty, pos, aft, gd⟩, zz) :: restQ) N ⟨l, ds⟩ h := q_gL hw (x_pickT (e_any hc) (e_any ha)) hk
theorem tpickT  (hk : wkX P ops X pd N (Fr.put ⟨l, ds⟩ d (r)) (h)) (hw : wantA ops ⟨l, ds⟩ ⟨d, .pick c a b, ty, pos, aft, gd⟩ = true := by rfl) (hc : evS l c = some (.v (.bool true)) := by rfl) (ha : evS l a = some (r) := by rfl) (hrd : readsOf ⟨l, ds⟩ (.pick c a b) = [] := by rfl) : wkX P ops (.light ⟨d, .pick c a b, ty, pos, aft, gd⟩ ii X) pd N ⟨l, ds⟩ h := t_gL hw (x_pickT (e_any hc) (e_any ha)) hk hrd
theorem spickF  (hk : wkO P ops rest N (Fr.put ⟨l, ds⟩ d (r)) (h)) (hw : wantA ops ⟨l, ds⟩ ⟨d, .pick c a b, ty, pos, aft, gd⟩ = true := by rfl) (hc : evS l c = some (.v (.bool false)) := by rfl) (hb : evS l b = some (r) := by rfl) : wkO P ops (⟨d, .pick c a b, ty, pos, aft, gd⟩ :: rest) N ⟨l, ds⟩ h := s_gL hw (x_pickF (e_any hc) (e_any hb)) hk
theorem qpickF  (hk : wkQ P ops restQ N (Fr.put ⟨l, ds⟩ d (r)) (h)) (hw : wantA ops ⟨l, ds⟩ ⟨d, .pick c a b, ty, pos, aft, gd⟩ = true := by rfl) (hc : evS l c = some (.v (.bool false)) := by rfl) (hb : evS l b = some (r) := by rfl) : wkQ P ops ((⟨d, .pick c a b, ty, pos, aft, gd⟩, zz) :: restQ) N ⟨l, ds⟩ h := q_gL hw (x_pickF (e_any hc) (e_any hb)) hk
theorem snotT  (hk : wkO P ops rest N (Fr.put ⟨l, ds⟩ d (.v (.bool false))) (h)) (hw : wantA ops ⟨l, ds⟩ ⟨d, .unOp .not t a, ty, pos, aft, gd⟩ = true := by rfl) (ha : evS l a = some (.v (.bool true)) := by rfl) : wkO P ops (⟨d, .unOp .not t a, ty, pos, aft, gd⟩ :: rest) N ⟨l, ds⟩ h := s_gL hw (x_notT (e_any ha)) hk
theorem snotF  (hk : wkO P ops rest N (Fr.put ⟨l, ds⟩ d (.v (.bool true))) (h)) (hw : wantA ops ⟨l, ds⟩ ⟨d, .unOp .not t a, ty, pos, aft, gd⟩ = true := by rfl) (ha : evS l a = some (.v (.bool false)) := by rfl) : wkO P ops (⟨d, .unOp .not t a, ty, pos, aft, gd⟩ :: rest) N ⟨l, ds⟩ h := s_gL hw (x_notF (e_any ha)) hk
theorem sext  (hk : wkO P ops rest N (Fr.put ⟨l, ds⟩ d (r)) (h)) (hw : wantA ops ⟨l, ds⟩ ⟨d, .extract a i, ty, pos, aft, gd⟩ = true := by rfl) (ha : evS l a = some (.tup vs) := by rfl) (hi : vs[i]? = some r := by rfl) : wkO P ops (⟨d, .extract a i, ty, pos, aft, gd⟩ :: rest) N ⟨l, ds⟩ h := s_gL hw (x_extract (e_any ha) hi) hk
theorem sadd  (hk : wkO P ops rest N (Fr.put ⟨l, ds⟩ d (.v (.int k (x + y)))) (h)) (hw : wantA ops ⟨l, ds⟩ ⟨d, .binOp .add t a b t', ty, pos, aft, gd⟩ = true := by rfl) (ha : evS l a = some (.v (.int k x)) := by rfl) (hb : evS l b = some (.v (.int k y)) := by rfl) (hr : k.wrap (x + y) = x + y := by first | exact wrap_i64_in (by omega) (by omega) | exact wrap_u64_in (by omega) (by omega) | exact wrap_u8_in (by omega) (by omega) | exact wrap_u32_in (by omega) (by omega) | rfl) : wkO P ops (⟨d, .binOp .add t a b t', ty, pos, aft, gd⟩ :: rest) N ⟨l, ds⟩ h := s_gL hw (x_add (e_any ha) (e_any hb) hr) hk
theorem ssub  (hk : wkO P ops rest N (Fr.put ⟨l, ds⟩ d (.v (.int k (x - y)))) (h)) (hw : wantA ops ⟨l, ds⟩ ⟨d, .binOp .sub t a b t', ty, pos, aft, gd⟩ = true := by rfl) (ha : evS l a = some (.v (.int k x)) := by rfl) (hb : evS l b = some (.v (.int k y)) := by rfl) (hr : k.wrap (x - y) = x - y := by first | exact wrap_i64_in (by omega) (by omega) | exact wrap_u64_in (by omega) (by omega) | exact wrap_u8_in (by omega) (by omega) | exact wrap_u32_in (by omega) (by omega) | rfl) : wkO P ops (⟨d, .binOp .sub t a b t', ty, pos, aft, gd⟩ :: rest) N ⟨l, ds⟩ h := s_gL hw (x_sub (e_any ha) (e_any hb) hr) hk
theorem qsub  (hk : wkQ P ops restQ N (Fr.put ⟨l, ds⟩ d (.v (.int k (x - y)))) (h)) (hw : wantA ops ⟨l, ds⟩ ⟨d, .binOp .sub t a b t', ty, pos, aft, gd⟩ = true := by rfl) (ha : evS l a = some (.v (.int k x)) := by rfl) (hb : evS l b = some (.v (.int k y)) := by rfl) (hr : k.wrap (x - y) = x - y := by first | exact wrap_i64_in (by omega) (by omega) | exact wrap_u64_in (by omega) (by omega) | exact wrap_u8_in (by omega) (by omega) | exact wrap_u32_in (by omega) (by omega) | rfl) : wkQ P ops ((⟨d, .binOp .sub t a b t', ty, pos, aft, gd⟩, zz) :: restQ) N ⟨l, ds⟩ h := q_gL hw (x_sub (e_any ha) (e_any hb) hr) hk
theorem smul  (hk : wkO P ops rest N (Fr.put ⟨l, ds⟩ d (.v (.int k (x * y)))) (h)) (hw : wantA ops ⟨l, ds⟩ ⟨d, .binOp .mul t a b t', ty, pos, aft, gd⟩ = true := by rfl) (ha : evS l a = some (.v (.int k x)) := by rfl) (hb : evS l b = some (.v (.int k y)) := by rfl) (hr : k.wrap (x * y) = x * y := by first | exact wrap_i64_in (by omega) (by omega) | exact wrap_u64_in (by omega) (by omega) | exact wrap_u8_in (by omega) (by omega) | exact wrap_u32_in (by omega) (by omega) | rfl) : wkO P ops (⟨d, .binOp .mul t a b t', ty, pos, aft, gd⟩ :: rest) N ⟨l, ds⟩ h := s_gL hw (x_mul (e_any ha) (e_any hb) hr) hk
theorem qrem  (hk : wkQ P ops restQ N (Fr.put ⟨l, ds⟩ d (.v (.int k (x % y)))) (h)) (hw : wantA ops ⟨l, ds⟩ ⟨d, .binOp .rem t a b t', ty, pos, aft, gd⟩ = true := by rfl) (ha : evS l a = some (.v (.int k x)) := by rfl) (hb : evS l b = some (.v (.int k y)) := by rfl) (h0 : 0 ≤ x := by omega) (h1 : 0 < y := by omega) : wkQ P ops ((⟨d, .binOp .rem t a b t', ty, pos, aft, gd⟩, zz) :: restQ) N ⟨l, ds⟩ h := q_gL hw (x_rem (e_any ha) (e_any hb) h0 h1) hk
theorem stmod  (hk : wkO P ops rest N (Fr.put ⟨l, ds⟩ d (.v (.int k (x.tmod y)))) (h)) (hw : wantA ops ⟨l, ds⟩ ⟨d, .binOp .rem t a b t', ty, pos, aft, gd⟩ = true := by rfl) (ha : evS l a = some (.v (.int k x)) := by rfl) (hb : evS l b = some (.v (.int k y)) := by rfl) (h1 : y ≠ 0 := by omega) : wkO P ops (⟨d, .binOp .rem t a b t', ty, pos, aft, gd⟩ :: rest) N ⟨l, ds⟩ h := s_gL hw (x_tmod (e_any ha) (e_any hb) h1) hk
theorem squo  (hk : wkO P ops rest N (Fr.put ⟨l, ds⟩ d (.v (.int k (x / y)))) (h)) (hw : wantA ops ⟨l, ds⟩ ⟨d, .binOp .quo t a b t', ty, pos, aft, gd⟩ = true := by rfl) (ha : evS l a = some (.v (.int k x)) := by rfl) (hb : evS l b = some (.v (.int k y)) := by rfl) (h0 : 0 ≤ x := by omega) (h1 : 0 < y := by omega) (hr : k.wrap (x / y) = x / y := by first | exact wrap_i64_in (by omega) (by omega) | exact wrap_u64_in (by omega) (by omega)) : wkO P ops (⟨d, .binOp .quo t a b t', ty, pos, aft, gd⟩ :: rest) N ⟨l, ds⟩ h := s_gL hw (x_quo (e_any ha) (e_any hb) h0 h1 hr) hk
theorem qquo  (hk : wkQ P ops restQ N (Fr.put ⟨l, ds⟩ d (.v (.int k (x / y)))) (h)) (hw : wantA ops ⟨l, ds⟩ ⟨d, .binOp .quo t a b t', ty, pos, aft, gd⟩ = true := by rfl) (ha : evS l a = some (.v (.int k x)) := by rfl) (hb : evS l b = some (.v (.int k y)) := by rfl) (h0 : 0 ≤ x := by omega) (h1 : 0 < y := by omega) (hr : k.wrap (x / y) = x / y := by first | exact wrap_i64_in (by omega) (by omega) | exact wrap_u64_in (by omega) (by omega)) : wkQ P ops ((⟨d, .binOp .quo t a b t', ty, pos, aft, gd⟩, zz) :: restQ) N ⟨l, ds⟩ h := q_gL hw (x_quo (e_any ha) (e_any hb) h0 h1 hr) hk
theorem sconv  (hk : wkO P ops rest N (Fr.put ⟨l, ds⟩ d (.v (.int k n))) (h)) (hw : wantA ops ⟨l, ds⟩ ⟨d, .convert t t' a, ty, pos, aft, gd⟩ = true := by rfl) (hu : CU P t k1 := by infer_instance) (hu' : CU P t' k := by infer_instance) (ha : evS l a = some (.v (.int k0 n)) := by rfl) (hr : k.wrap n = n := by first | exact wrap_i64_in (by omega) (by omega) | exact wrap_u64_in (by omega) (by omega) | exact wrap_u8_in (by omega) (by omega) | exact wrap_u32_in (by omega) (by omega) | rfl) : wkO P ops (⟨d, .convert t t' a, ty, pos, aft, gd⟩ :: rest) N ⟨l, ds⟩ h := s_gL hw (x_conv hu.p hu'.p (e_any ha) hr) hk
theorem tconv  (hk : wkX P ops X pd N (Fr.put ⟨l, ds⟩ d (.v (.int k n))) (h)) (hw : wantA ops ⟨l, ds⟩ ⟨d, .convert t t' a, ty, pos, aft, gd⟩ = true := by rfl) (hu : CU P t k1 := by infer_instance) (hu' : CU P t' k := by infer_instance) (ha : evS l a = some (.v (.int k0 n)) := by rfl) (hr : k.wrap n = n := by first | exact wrap_i64_in (by omega) (by omega) | exact wrap_u64_in (by omega) (by omega) | exact wrap_u8_in (by omega) (by omega) | exact wrap_u32_in (by omega) (by omega) | rfl) (hrd : readsOf ⟨l, ds⟩ (.convert t t' a) = [] := by rfl) : wkX P ops (.light ⟨d, .convert t t' a, ty, pos, aft, gd⟩ ii X) pd N ⟨l, ds⟩ h := t_gL hw (x_conv hu.p hu'.p (e_any ha) hr) hk hrd
theorem sshr1  (hk : wkO P ops rest N (Fr.put ⟨l, ds⟩ d (.v (.int k (x / 2 ^ 1)))) (h)) (hw : wantA ops ⟨l, ds⟩ ⟨d, .binOp .shr t a b t', ty, pos, aft, gd⟩ = true := by rfl) (ha : evS l a = some (.v (.int k x)) := by rfl) (hb : evS l b = some (.v (.int k1 1)) := by rfl) (h0 : 0 ≤ x := by omega) : wkO P ops (⟨d, .binOp .shr t a b t', ty, pos, aft, gd⟩ :: rest) N ⟨l, ds⟩ h := s_gL hw (x_shr (m := 1) (e_any ha) (e_any hb) rfl (by cases k <;> decide) h0) hk
theorem sshr {y : Int} (hk : wkO P ops rest N (Fr.put ⟨l, ds⟩ d (.v (.int k (x / 2 ^ m)))) (h)) (hw : wantA ops ⟨l, ds⟩ ⟨d, .binOp .shr t a b t', ty, pos, aft, gd⟩ = true := by rfl) (ha : evS l a = some (.v (.int k x)) := by rfl) (hb : evS l b = some (.v (.int k1 y)) := by rfl) (hy : y = (m : Int) := by first | rfl | exact (Int.toNat_of_nonneg (by omega)).symm) (hm : m ≤ k.bits := by first | decide | (show _ ≤ 64; omega)) (h0 : 0 ≤ x := by omega) : wkO P ops (⟨d, .binOp .shr t a b t', ty, pos, aft, gd⟩ :: rest) N ⟨l, ds⟩ h := s_gL hw (x_shr (e_any ha) (e_any hb) hy hm h0) hk
theorem sshl1  (hk : wkO P ops rest N (Fr.put ⟨l, ds⟩ d (.v (.int .i64 (2 ^ m)))) (h)) (hw : wantA ops ⟨l, ds⟩ ⟨d, .binOp .shl t a b t', ty, pos, aft, gd⟩ = true := by rfl) (ha : evS l a = some (.v (.int .i64 1)) := by rfl) (hb : evS l b = some (.v (.int k1 y)) := by rfl) (hy : y = (m : Int) := by first | rfl | exact (Int.toNat_of_nonneg (by omega)).symm) (hm : m ≤ 62 := by omega) : wkO P ops (⟨d, .binOp .shl t a b t', ty, pos, aft, gd⟩ :: rest) N ⟨l, ds⟩ h := s_gL hw (x_shl1 (e_any ha) (e_any hb) hy hm) hk
theorem qshl1  (hk : wkQ P ops restQ N (Fr.put ⟨l, ds⟩ d (.v (.int .i64 (2 ^ m)))) (h)) (hw : wantA ops ⟨l, ds⟩ ⟨d, .binOp .shl t a b t', ty, pos, aft, gd⟩ = true := by rfl) (ha : evS l a = some (.v (.int .i64 1)) := by rfl) (hb : evS l b = some (.v (.int k1 y)) := by rfl) (hy : y = (m : Int) := by first | rfl | exact (Int.toNat_of_nonneg (by omega)).symm) (hm : m ≤ 62 := by omega) : wkQ P ops ((⟨d, .binOp .shl t a b t', ty, pos, aft, gd⟩, zz) :: restQ) N ⟨l, ds⟩ h := q_gL hw (x_shl1 (e_any ha) (e_any hb) hy hm) hk
theorem tshl1  (hk : wkX P ops X pd N (Fr.put ⟨l, ds⟩ d (.v (.int .i64 (2 ^ m)))) (h)) (hw : wantA ops ⟨l, ds⟩ ⟨d, .binOp .shl t a b t', ty, pos, aft, gd⟩ = true := by rfl) (ha : evS l a = some (.v (.int .i64 1)) := by rfl) (hb : evS l b = some (.v (.int k1 y)) := by rfl) (hy : y = (m : Int) := by first | rfl | exact (Int.toNat_of_nonneg (by omega)).symm) (hm : m ≤ 62 := by omega) (hrd : readsOf ⟨l, ds⟩ (.binOp .shl t a b t') = [] := by rfl) : wkX P ops (.light ⟨d, .binOp .shl t a b t', ty, pos, aft, gd⟩ ii X) pd N ⟨l, ds⟩ h := t_gL hw (x_shl1 (e_any ha) (e_any hb) hy hm) hk hrd
theorem sshl {y : Int} (hk : wkO P ops rest N (Fr.put ⟨l, ds⟩ d (.v (.int k (x * 2 ^ m)))) (h)) (hw : wantA ops ⟨l, ds⟩ ⟨d, .binOp .shl t a b t', ty, pos, aft, gd⟩ = true := by rfl) (ha : evS l a = some (.v (.int k x)) := by rfl) (hb : evS l b = some (.v (.int k1 y)) := by rfl) (hy : y = (m : Int) := by first | rfl | exact (Int.toNat_of_nonneg (by omega)).symm) (hm : m ≤ k.bits := by first | decide | (show _ ≤ 64; omega)) (hr : k.wrap (x * 2 ^ m) = x * 2 ^ m := by (try simp only [Int.reducePow]); first | exact wrap_i64_in (by omega) (by omega) | exact wrap_u64_in (by omega) (by omega) | exact wrap_u8_in (by omega) (by omega) | exact wrap_u32_in (by omega) (by omega) | rfl) : wkO P ops (⟨d, .binOp .shl t a b t', ty, pos, aft, gd⟩ :: rest) N ⟨l, ds⟩ h := s_gL hw (x_shl (e_any ha) (e_any hb) hy hm hr) hk
theorem sand  (hk : wkO P ops rest N (Fr.put ⟨l, ds⟩ d (.v (.int k (andI k x y)))) (h)) (hw : wantA ops ⟨l, ds⟩ ⟨d, .binOp .and t a b t', ty, pos, aft, gd⟩ = true := by rfl) (ha : evS l a = some (.v (.int k x)) := by rfl) (hb : evS l b = some (.v (.int k y)) := by rfl) : wkO P ops (⟨d, .binOp .and t a b t', ty, pos, aft, gd⟩ :: rest) N ⟨l, ds⟩ h := s_gL hw (x_and (e_any ha) (e_any hb)) hk
theorem sfunc1 {fn : Fn} {v1 : AV} (hk : wkO P ops rest N (Fr.put ⟨l, ds⟩ d (.fn fn [v1])) (h)) (hw : wantA ops ⟨l, ds⟩ ⟨d, .makeFunc fn #[] #[a], ty, pos, aft, gd⟩ = true := by rfl) (ha : evS l a = some (v1) := by rfl) : wkO P ops (⟨d, .makeFunc fn #[] #[a], ty, pos, aft, gd⟩ :: rest) N ⟨l, ds⟩ h := s_gL hw (x_func1 (e_any ha)) hk
theorem smin {ts : Array TypeId} (hk : wkO P ops rest N (Fr.put ⟨l, ds⟩ d (.v (.int k (if y < x then y else x)))) (h)) (hw : wantA ops ⟨l, ds⟩ ⟨d, .call ⟨.builtin .min, #[a, b], ts⟩, ty, pos, aft, gd⟩ = true := by rfl) (ha : evS l a = some (.v (.int k x)) := by rfl) (hb : evS l b = some (.v (.int k1 y)) := by rfl) : wkO P ops (⟨d, .call ⟨.builtin .min, #[a, b], ts⟩, ty, pos, aft, gd⟩ :: rest) N ⟨l, ds⟩ h := s_gL hw (x_min (e_any ha) (e_any hb)) hk
theorem smax {ts : Array TypeId} (hk : wkO P ops rest N (Fr.put ⟨l, ds⟩ d (.v (.int k (if y > x then y else x)))) (h)) (hw : wantA ops ⟨l, ds⟩ ⟨d, .call ⟨.builtin .max, #[a, b], ts⟩, ty, pos, aft, gd⟩ = true := by rfl) (ha : evS l a = some (.v (.int k x)) := by rfl) (hb : evS l b = some (.v (.int k1 y)) := by rfl) : wkO P ops (⟨d, .call ⟨.builtin .max, #[a, b], ts⟩, ty, pos, aft, gd⟩ :: rest) N ⟨l, ds⟩ h := s_gL hw (x_max (e_any ha) (e_any hb)) hk
theorem qmax {ts : Array TypeId} (hk : wkQ P ops restQ N (Fr.put ⟨l, ds⟩ d (.v (.int k (if y > x then y else x)))) (h)) (hw : wantA ops ⟨l, ds⟩ ⟨d, .call ⟨.builtin .max, #[a, b], ts⟩, ty, pos, aft, gd⟩ = true := by rfl) (ha : evS l a = some (.v (.int k x)) := by rfl) (hb : evS l b = some (.v (.int k1 y)) := by rfl) : wkQ P ops ((⟨d, .call ⟨.builtin .max, #[a, b], ts⟩, ty, pos, aft, gd⟩, zz) :: restQ) N ⟨l, ds⟩ h := q_gL hw (x_max (e_any ha) (e_any hb)) hk
theorem sfad  (hk : wkO P ops rest N (Fr.put ⟨l, ds⟩ d (.ptr i (o + off))) (h)) (hw : wantA ops ⟨l, ds⟩ ⟨d, .fieldAddr t a fl, ty, pos, aft, gd⟩ = true := by rfl) (hf : CF P t fl off := by infer_instance) (ha : evS l a = some (.ptr i o) := by rfl) : wkO P ops (⟨d, .fieldAddr t a fl, ty, pos, aft, gd⟩ :: rest) N ⟨l, ds⟩ h := s_gL hw (x_fad hf.p (e_any ha)) hk
theorem qfad  (hk : wkQ P ops restQ N (Fr.put ⟨l, ds⟩ d (.ptr i (o + off))) (h)) (hw : wantA ops ⟨l, ds⟩ ⟨d, .fieldAddr t a fl, ty, pos, aft, gd⟩ = true := by rfl) (hf : CF P t fl off := by infer_instance) (ha : evS l a = some (.ptr i o) := by rfl) : wkQ P ops ((⟨d, .fieldAddr t a fl, ty, pos, aft, gd⟩, zz) :: restQ) N ⟨l, ds⟩ h := q_gL hw (x_fad hf.p (e_any ha)) hk
theorem tfad  (hk : wkX P ops X pd N (Fr.put ⟨l, ds⟩ d (.ptr i (o + off))) (h)) (hw : wantA ops ⟨l, ds⟩ ⟨d, .fieldAddr t a fl, ty, pos, aft, gd⟩ = true := by rfl) (hf : CF P t fl off := by infer_instance) (ha : evS l a = some (.ptr i o) := by rfl) (hrd : readsOf ⟨l, ds⟩ (.fieldAddr t a fl) = [] := by rfl) : wkX P ops (.light ⟨d, .fieldAddr t a fl, ty, pos, aft, gd⟩ ii X) pd N ⟨l, ds⟩ h := t_gL hw (x_fad hf.p (e_any ha)) hk hrd
theorem slenE {α : Type} {enc : α → List AV} {dd : α} {L : List α} {s : AV} {q' : Nat} (hk : wkO P ops rest N (Fr.put ⟨l, ds⟩ d (.v (.int .i64 (L.length : Nat)))) (h)) (hw : wantA ops ⟨l, ds⟩ ⟨d, .call ⟨.builtin .len, #[a], #[t]⟩, ty, pos, aft, gd⟩ = true := by rfl) (hs : CS P t e q' := by infer_instance) (ha : evS l a = some (s) := by rfl) (hE : EL α enc q dd h s L := by infer_instance) : wkO P ops (⟨d, .call ⟨.builtin .len, #[a], #[t]⟩, ty, pos, aft, gd⟩ :: rest) N ⟨l, ds⟩ h := s_gL hw (x_lenE hE.p hs.p (e_any ha)) hk
theorem qlenE {α : Type} {enc : α → List AV} {dd : α} {L : List α} {s : AV} {q' : Nat} (hk : wkQ P ops restQ N (Fr.put ⟨l, ds⟩ d (.v (.int .i64 (L.length : Nat)))) (h)) (hw : wantA ops ⟨l, ds⟩ ⟨d, .call ⟨.builtin .len, #[a], #[t]⟩, ty, pos, aft, gd⟩ = true := by rfl) (hs : CS P t e q' := by infer_instance) (ha : evS l a = some (s) := by rfl) (hE : EL α enc q dd h s L := by infer_instance) : wkQ P ops ((⟨d, .call ⟨.builtin .len, #[a], #[t]⟩, ty, pos, aft, gd⟩, zz) :: restQ) N ⟨l, ds⟩ h := q_gL hw (x_lenE hE.p hs.p (e_any ha)) hk
theorem tlenE {α : Type} {enc : α → List AV} {dd : α} {L : List α} {s : AV} {q' : Nat} (hk : wkX P ops X pd N (Fr.put ⟨l, ds⟩ d (.v (.int .i64 (L.length : Nat)))) (h)) (hw : wantA ops ⟨l, ds⟩ ⟨d, .call ⟨.builtin .len, #[a], #[t]⟩, ty, pos, aft, gd⟩ = true := by rfl) (hs : CS P t e q' := by infer_instance) (ha : evS l a = some (s) := by rfl) (hE : EL α enc q dd h s L := by infer_instance) (hrd : readsOf ⟨l, ds⟩ (.call ⟨.builtin .len, #[a], #[t]⟩) = [] := by rfl) : wkX P ops (.light ⟨d, .call ⟨.builtin .len, #[a], #[t]⟩, ty, pos, aft, gd⟩ ii X) pd N ⟨l, ds⟩ h := t_gL hw (x_lenE hE.p hs.p (e_any ha)) hk hrd
theorem sidxE {α : Type} {enc : α → List AV} {dd : α} {L : List α} {s : AV} (hk : wkO P ops rest N (Fr.put ⟨l, ds⟩ d (elP s q x)) (h)) (hw : wantA ops ⟨l, ds⟩ ⟨d, .indexAddr t a b, ty, pos, aft, gd⟩ = true := by rfl) (hs : CS P t e q := by infer_instance) (ha : evS l a = some (s) := by rfl) (hE : EL α enc q dd h s L := by infer_instance) (hb : evS l b = some (.v (.int k x)) := by rfl) (h0 : 0 ≤ x := by omega) (h1 : x < L.length := by omega) : wkO P ops (⟨d, .indexAddr t a b, ty, pos, aft, gd⟩ :: rest) N ⟨l, ds⟩ h := s_gL hw (x_idxE hE.p hs.p (e_any ha) (e_any hb) h0 h1) hk
theorem qidxE {α : Type} {enc : α → List AV} {dd : α} {L : List α} {s : AV} (hk : wkQ P ops restQ N (Fr.put ⟨l, ds⟩ d (elP s q x)) (h)) (hw : wantA ops ⟨l, ds⟩ ⟨d, .indexAddr t a b, ty, pos, aft, gd⟩ = true := by rfl) (hs : CS P t e q := by infer_instance) (ha : evS l a = some (s) := by rfl) (hE : EL α enc q dd h s L := by infer_instance) (hb : evS l b = some (.v (.int k x)) := by rfl) (h0 : 0 ≤ x := by omega) (h1 : x < L.length := by omega) : wkQ P ops ((⟨d, .indexAddr t a b, ty, pos, aft, gd⟩, zz) :: restQ) N ⟨l, ds⟩ h := q_gL hw (x_idxE hE.p hs.p (e_any ha) (e_any hb) h0 h1) hk
theorem sfadE {α : Type} {enc : α → List AV} {dd : α} {L : List α} {s : AV} (hk : wkO P ops rest N (Fr.put ⟨l, ds⟩ d (elF s q x off)) (h)) (hw : wantA ops ⟨l, ds⟩ ⟨d, .fieldAddr t a fl, ty, pos, aft, gd⟩ = true := by rfl) (hf : CF P t fl off := by infer_instance) (ha : evS l a = some (elP s q x) := by rfl) (hE : EL α enc q dd h s L := by infer_instance) (h0 : 0 ≤ x := by omega) (h1 : x < L.length := by omega) : wkO P ops (⟨d, .fieldAddr t a fl, ty, pos, aft, gd⟩ :: rest) N ⟨l, ds⟩ h := s_gL hw (x_fadE hf.p hE.p (e_any ha) h0 h1) hk
theorem qfadE {α : Type} {enc : α → List AV} {dd : α} {L : List α} {s : AV} (hk : wkQ P ops restQ N (Fr.put ⟨l, ds⟩ d (elF s q x off)) (h)) (hw : wantA ops ⟨l, ds⟩ ⟨d, .fieldAddr t a fl, ty, pos, aft, gd⟩ = true := by rfl) (hf : CF P t fl off := by infer_instance) (ha : evS l a = some (elP s q x) := by rfl) (hE : EL α enc q dd h s L := by infer_instance) (h0 : 0 ≤ x := by omega) (h1 : x < L.length := by omega) : wkQ P ops ((⟨d, .fieldAddr t a fl, ty, pos, aft, gd⟩, zz) :: restQ) N ⟨l, ds⟩ h := q_gL hw (x_fadE hf.p hE.p (e_any ha) h0 h1) hk
theorem sload1  (hk : wkO P ops rest N (Fr.put ⟨l, ds⟩ d (r)) (h)) (hw : wantA ops ⟨l, ds⟩ ⟨d, .load t a, ty, pos, aft, gd⟩ = true := by rfl) (hs : C1 P t := by infer_instance) (ha : evS l a = some (.ptr i o) := by rfl) (hi : HA h i (.cells cs tt ow) := by infer_instance) (hr : cs[o]? = some r := by rfl) : wkO P ops (⟨d, .load t a, ty, pos, aft, gd⟩ :: rest) N ⟨l, ds⟩ h := s_gL hw (x_load1 hs.p (e_any ha) hi.p hr) hk
theorem qload1  (hk : wkQ P ops restQ N (Fr.put ⟨l, ds⟩ d (r)) (h)) (hw : wantA ops ⟨l, ds⟩ ⟨d, .load t a, ty, pos, aft, gd⟩ = true := by rfl) (hs : C1 P t := by infer_instance) (ha : evS l a = some (.ptr i o) := by rfl) (hi : HA h i (.cells cs tt ow) := by infer_instance) (hr : cs[o]? = some r := by rfl) : wkQ P ops ((⟨d, .load t a, ty, pos, aft, gd⟩, zz) :: restQ) N ⟨l, ds⟩ h := q_gL hw (x_load1 hs.p (e_any ha) hi.p hr) hk
theorem tload1  (hk : wkX P ops X ((ii, i) :: pd) N (Fr.put ⟨l, ds⟩ d (r)) (h)) (hw : wantA ops ⟨l, ds⟩ ⟨d, .load t a, ty, pos, aft, gd⟩ = true := by rfl) (hs : C1 P t := by infer_instance) (ha : evS l a = some (.ptr i o) := by rfl) (hi : HA h i (.cells cs tt ow) := by infer_instance) (hr : cs[o]? = some r := by rfl) : wkX P ops (.light ⟨d, .load t a, ty, pos, aft, gd⟩ ii X) pd N ⟨l, ds⟩ h := t_gR hw (by simp only [readsOf, e_any (ds := ds) ha]) (x_load1 hs.p (e_any ha) hi.p hr) hk
theorem sloadW  (hk : wkO P ops rest N (Fr.put ⟨l, ds⟩ d (.agg cs)) (h)) (hw : wantA ops ⟨l, ds⟩ ⟨d, .load t a, ty, pos, aft, gd⟩ = true := by rfl) (hs : CA P t m := by infer_instance) (ha : evS l a = some (.ptr i 0) := by rfl) (hi : HA h i (.cells cs tt ow) := by infer_instance) (hl : cs.length = m := by rfl) : wkO P ops (⟨d, .load t a, ty, pos, aft, gd⟩ :: rest) N ⟨l, ds⟩ h := s_gL hw (x_loadW hs.p (e_any ha) hi.p hl) hk
theorem qloadW  (hk : wkQ P ops restQ N (Fr.put ⟨l, ds⟩ d (.agg cs)) (h)) (hw : wantA ops ⟨l, ds⟩ ⟨d, .load t a, ty, pos, aft, gd⟩ = true := by rfl) (hs : CA P t m := by infer_instance) (ha : evS l a = some (.ptr i 0) := by rfl) (hi : HA h i (.cells cs tt ow) := by infer_instance) (hl : cs.length = m := by rfl) : wkQ P ops ((⟨d, .load t a, ty, pos, aft, gd⟩, zz) :: restQ) N ⟨l, ds⟩ h := q_gL hw (x_loadW hs.p (e_any ha) hi.p hl) hk
theorem tloadW  (hk : wkX P ops X ((ii, i) :: pd) N (Fr.put ⟨l, ds⟩ d (.agg cs)) (h)) (hw : wantA ops ⟨l, ds⟩ ⟨d, .load t a, ty, pos, aft, gd⟩ = true := by rfl) (hs : CA P t m := by infer_instance) (ha : evS l a = some (.ptr i 0) := by rfl) (hi : HA h i (.cells cs tt ow) := by infer_instance) (hl : cs.length = m := by rfl) : wkX P ops (.light ⟨d, .load t a, ty, pos, aft, gd⟩ ii X) pd N ⟨l, ds⟩ h := t_gR hw (by simp only [readsOf, e_any (ds := ds) ha]) (x_loadW hs.p (e_any ha) hi.p hl) hk
theorem sloadE1 {α : Type} {enc : α → List AV} {dd : α} {L : List α} {s : AV} (hk : wkO P ops rest N (Fr.put ⟨l, ds⟩ d (r)) (h)) (hw : wantA ops ⟨l, ds⟩ ⟨d, .load t a, ty, pos, aft, gd⟩ = true := by rfl) (hs : C1 P t := by infer_instance) (ha : evS l a = some (elP s 1 x) := by rfl) (hE : EL α enc 1 dd h s L := by infer_instance) (h0 : 0 ≤ x := by omega) (h1 : x < L.length := by omega) (hr : (enc (L.getD x.toNat dd))[0]? = some r := by rfl) : wkO P ops (⟨d, .load t a, ty, pos, aft, gd⟩ :: rest) N ⟨l, ds⟩ h := s_gL hw (x_loadE1 hE.ok dd hE.p hs.p (e_any ha) h0 h1 hr) hk
theorem qloadE1 {α : Type} {enc : α → List AV} {dd : α} {L : List α} {s : AV} (hk : wkQ P ops restQ N (Fr.put ⟨l, ds⟩ d (r)) (h)) (hw : wantA ops ⟨l, ds⟩ ⟨d, .load t a, ty, pos, aft, gd⟩ = true := by rfl) (hs : C1 P t := by infer_instance) (ha : evS l a = some (elP s 1 x) := by rfl) (hE : EL α enc 1 dd h s L := by infer_instance) (h0 : 0 ≤ x := by omega) (h1 : x < L.length := by omega) (hr : (enc (L.getD x.toNat dd))[0]? = some r := by rfl) : wkQ P ops ((⟨d, .load t a, ty, pos, aft, gd⟩, zz) :: restQ) N ⟨l, ds⟩ h := q_gL hw (x_loadE1 hE.ok dd hE.p hs.p (e_any ha) h0 h1 hr) hk
theorem sloadF {α : Type} {enc : α → List AV} {dd : α} {L : List α} {s : AV} (hk : wkO P ops rest N (Fr.put ⟨l, ds⟩ d (r)) (h)) (hw : wantA ops ⟨l, ds⟩ ⟨d, .load t a, ty, pos, aft, gd⟩ = true := by rfl) (hs : C1 P t := by infer_instance) (ha : evS l a = some (elF s q x off) := by rfl) (hE : EL α enc q dd h s L := by infer_instance) (h0 : 0 ≤ x := by omega) (h1 : x < L.length := by omega) (hr : (enc (L.getD x.toNat dd))[off]? = some r := by rfl) : wkO P ops (⟨d, .load t a, ty, pos, aft, gd⟩ :: rest) N ⟨l, ds⟩ h := s_gL hw (x_loadF hE.ok dd hE.p hs.p (e_any ha) h0 h1 hr) hk
theorem qloadF {α : Type} {enc : α → List AV} {dd : α} {L : List α} {s : AV} (hk : wkQ P ops restQ N (Fr.put ⟨l, ds⟩ d (r)) (h)) (hw : wantA ops ⟨l, ds⟩ ⟨d, .load t a, ty, pos, aft, gd⟩ = true := by rfl) (hs : C1 P t := by infer_instance) (ha : evS l a = some (elF s q x off) := by rfl) (hE : EL α enc q dd h s L := by infer_instance) (h0 : 0 ≤ x := by omega) (h1 : x < L.length := by omega) (hr : (enc (L.getD x.toNat dd))[off]? = some r := by rfl) : wkQ P ops ((⟨d, .load t a, ty, pos, aft, gd⟩, zz) :: restQ) N ⟨l, ds⟩ h := q_gL hw (x_loadF hE.ok dd hE.p hs.p (e_any ha) h0 h1 hr) hk
theorem sloadE {α : Type} {enc : α → List AV} {dd : α} {L : List α} {s : AV} (hk : wkO P ops rest N (Fr.put ⟨l, ds⟩ d (.agg (enc (L.getD x.toNat dd)))) (h)) (hw : wantA ops ⟨l, ds⟩ ⟨d, .load t a, ty, pos, aft, gd⟩ = true := by rfl) (hs : CA P t q := by infer_instance) (ha : evS l a = some (elP s q x) := by rfl) (hE : EL α enc q dd h s L := by infer_instance) (h0 : 0 ≤ x := by omega) (h1 : x < L.length := by omega) : wkO P ops (⟨d, .load t a, ty, pos, aft, gd⟩ :: rest) N ⟨l, ds⟩ h := s_gL hw (x_loadE hE.ok dd hE.p hs.p (e_any ha) h0 h1) hk
theorem qloadE {α : Type} {enc : α → List AV} {dd : α} {L : List α} {s : AV} (hk : wkQ P ops restQ N (Fr.put ⟨l, ds⟩ d (.agg (enc (L.getD x.toNat dd)))) (h)) (hw : wantA ops ⟨l, ds⟩ ⟨d, .load t a, ty, pos, aft, gd⟩ = true := by rfl) (hs : CA P t q := by infer_instance) (ha : evS l a = some (elP s q x) := by rfl) (hE : EL α enc q dd h s L := by infer_instance) (h0 : 0 ≤ x := by omega) (h1 : x < L.length := by omega) : wkQ P ops ((⟨d, .load t a, ty, pos, aft, gd⟩, zz) :: restQ) N ⟨l, ds⟩ h := q_gL hw (x_loadE hE.ok dd hE.p hs.p (e_any ha) h0 h1) hk
theorem sbuild {ps : List (Nat × AV)} {parts : Array (Nat × Operand)} (hk : wkO P ops rest N (Fr.put ⟨l, ds⟩ d (r)) (h)) (hw : wantA ops ⟨l, ds⟩ ⟨d, .build t parts, ty, pos, aft, gd⟩ = true := by rfl) (hl : evP l parts.toList = some ps := by rfl) (hb : BD P t ps r := by infer_instance) : wkO P ops (⟨d, .build t parts, ty, pos, aft, gd⟩ :: rest) N ⟨l, ds⟩ h := s_gL hw (x_build (evP_eq hl) hb.p) hk
theorem sEq  (h1' : (decide (x = y)) = true → wkO P ops rest N (Fr.put ⟨l, ds⟩ d (.v (.bool true))) (h)) (h2' : (decide (x = y)) = false → wkO P ops rest N (Fr.put ⟨l, ds⟩ d (.v (.bool false))) (h)) (hw : wantA ops ⟨l, ds⟩ ⟨d, .binOp .eql t a b t', ty, pos, aft, gd⟩ = true := by rfl) (ha : evS l a = some (.v (.int k x)) := by rfl) (hb : evS l b = some (.v (.int k y)) := by rfl) : wkO P ops (⟨d, .binOp .eql t a b t', ty, pos, aft, gd⟩ :: rest) N ⟨l, ds⟩ h := s_gB hw (x_eq (e_any ha) (e_any hb)) h1' h2'
theorem qEq  (h1' : (decide (x = y)) = true → wkQ P ops restQ N (Fr.put ⟨l, ds⟩ d (.v (.bool true))) (h)) (h2' : (decide (x = y)) = false → wkQ P ops restQ N (Fr.put ⟨l, ds⟩ d (.v (.bool false))) (h)) (hw : wantA ops ⟨l, ds⟩ ⟨d, .binOp .eql t a b t', ty, pos, aft, gd⟩ = true := by rfl) (ha : evS l a = some (.v (.int k x)) := by rfl) (hb : evS l b = some (.v (.int k y)) := by rfl) : wkQ P ops ((⟨d, .binOp .eql t a b t', ty, pos, aft, gd⟩, zz) :: restQ) N ⟨l, ds⟩ h := q_gB hw (x_eq (e_any ha) (e_any hb)) h1' h2'
theorem tEq  (h1' : (decide (x = y)) = true → wkX P ops X pd N (Fr.put ⟨l, ds⟩ d (.v (.bool true))) (h)) (h2' : (decide (x = y)) = false → wkX P ops X pd N (Fr.put ⟨l, ds⟩ d (.v (.bool false))) (h)) (hw : wantA ops ⟨l, ds⟩ ⟨d, .binOp .eql t a b t', ty, pos, aft, gd⟩ = true := by rfl) (ha : evS l a = some (.v (.int k x)) := by rfl) (hb : evS l b = some (.v (.int k y)) := by rfl) : wkX P ops (.light ⟨d, .binOp .eql t a b t', ty, pos, aft, gd⟩ ii X) pd N ⟨l, ds⟩ h := t_gB hw (x_eq (e_any ha) (e_any hb)) h1' h2' (by rfl)
theorem sNe  (h1' : (decide (x ≠ y)) = true → wkO P ops rest N (Fr.put ⟨l, ds⟩ d (.v (.bool true))) (h)) (h2' : (decide (x ≠ y)) = false → wkO P ops rest N (Fr.put ⟨l, ds⟩ d (.v (.bool false))) (h)) (hw : wantA ops ⟨l, ds⟩ ⟨d, .binOp .neq t a b t', ty, pos, aft, gd⟩ = true := by rfl) (ha : evS l a = some (.v (.int k x)) := by rfl) (hb : evS l b = some (.v (.int k y)) := by rfl) : wkO P ops (⟨d, .binOp .neq t a b t', ty, pos, aft, gd⟩ :: rest) N ⟨l, ds⟩ h := s_gB hw (x_ne (e_any ha) (e_any hb)) h1' h2'
theorem qNe  (h1' : (decide (x ≠ y)) = true → wkQ P ops restQ N (Fr.put ⟨l, ds⟩ d (.v (.bool true))) (h)) (h2' : (decide (x ≠ y)) = false → wkQ P ops restQ N (Fr.put ⟨l, ds⟩ d (.v (.bool false))) (h)) (hw : wantA ops ⟨l, ds⟩ ⟨d, .binOp .neq t a b t', ty, pos, aft, gd⟩ = true := by rfl) (ha : evS l a = some (.v (.int k x)) := by rfl) (hb : evS l b = some (.v (.int k y)) := by rfl) : wkQ P ops ((⟨d, .binOp .neq t a b t', ty, pos, aft, gd⟩, zz) :: restQ) N ⟨l, ds⟩ h := q_gB hw (x_ne (e_any ha) (e_any hb)) h1' h2'
theorem sLt  (h1' : (decide (x < y)) = true → wkO P ops rest N (Fr.put ⟨l, ds⟩ d (.v (.bool true))) (h)) (h2' : (decide (x < y)) = false → wkO P ops rest N (Fr.put ⟨l, ds⟩ d (.v (.bool false))) (h)) (hw : wantA ops ⟨l, ds⟩ ⟨d, .binOp .lss t a b t', ty, pos, aft, gd⟩ = true := by rfl) (ha : evS l a = some (.v (.int k x)) := by rfl) (hb : evS l b = some (.v (.int k y)) := by rfl) : wkO P ops (⟨d, .binOp .lss t a b t', ty, pos, aft, gd⟩ :: rest) N ⟨l, ds⟩ h := s_gB hw (x_lt (e_any ha) (e_any hb)) h1' h2'
theorem qLt  (h1' : (decide (x < y)) = true → wkQ P ops restQ N (Fr.put ⟨l, ds⟩ d (.v (.bool true))) (h)) (h2' : (decide (x < y)) = false → wkQ P ops restQ N (Fr.put ⟨l, ds⟩ d (.v (.bool false))) (h)) (hw : wantA ops ⟨l, ds⟩ ⟨d, .binOp .lss t a b t', ty, pos, aft, gd⟩ = true := by rfl) (ha : evS l a = some (.v (.int k x)) := by rfl) (hb : evS l b = some (.v (.int k y)) := by rfl) : wkQ P ops ((⟨d, .binOp .lss t a b t', ty, pos, aft, gd⟩, zz) :: restQ) N ⟨l, ds⟩ h := q_gB hw (x_lt (e_any ha) (e_any hb)) h1' h2'
theorem sLe  (h1' : (decide (x ≤ y)) = true → wkO P ops rest N (Fr.put ⟨l, ds⟩ d (.v (.bool true))) (h)) (h2' : (decide (x ≤ y)) = false → wkO P ops rest N (Fr.put ⟨l, ds⟩ d (.v (.bool false))) (h)) (hw : wantA ops ⟨l, ds⟩ ⟨d, .binOp .leq t a b t', ty, pos, aft, gd⟩ = true := by rfl) (ha : evS l a = some (.v (.int k x)) := by rfl) (hb : evS l b = some (.v (.int k y)) := by rfl) : wkO P ops (⟨d, .binOp .leq t a b t', ty, pos, aft, gd⟩ :: rest) N ⟨l, ds⟩ h := s_gB hw (x_le (e_any ha) (e_any hb)) h1' h2'
theorem sGt  (h1' : (decide (y < x)) = true → wkO P ops rest N (Fr.put ⟨l, ds⟩ d (.v (.bool true))) (h)) (h2' : (decide (y < x)) = false → wkO P ops rest N (Fr.put ⟨l, ds⟩ d (.v (.bool false))) (h)) (hw : wantA ops ⟨l, ds⟩ ⟨d, .binOp .gtr t a b t', ty, pos, aft, gd⟩ = true := by rfl) (ha : evS l a = some (.v (.int k x)) := by rfl) (hb : evS l b = some (.v (.int k y)) := by rfl) : wkO P ops (⟨d, .binOp .gtr t a b t', ty, pos, aft, gd⟩ :: rest) N ⟨l, ds⟩ h := s_gB hw (x_gt (e_any ha) (e_any hb)) h1' h2'
theorem qGt  (h1' : (decide (y < x)) = true → wkQ P ops restQ N (Fr.put ⟨l, ds⟩ d (.v (.bool true))) (h)) (h2' : (decide (y < x)) = false → wkQ P ops restQ N (Fr.put ⟨l, ds⟩ d (.v (.bool false))) (h)) (hw : wantA ops ⟨l, ds⟩ ⟨d, .binOp .gtr t a b t', ty, pos, aft, gd⟩ = true := by rfl) (ha : evS l a = some (.v (.int k x)) := by rfl) (hb : evS l b = some (.v (.int k y)) := by rfl) : wkQ P ops ((⟨d, .binOp .gtr t a b t', ty, pos, aft, gd⟩, zz) :: restQ) N ⟨l, ds⟩ h := q_gB hw (x_gt (e_any ha) (e_any hb)) h1' h2'
theorem sGe  (h1' : (decide (y ≤ x)) = true → wkO P ops rest N (Fr.put ⟨l, ds⟩ d (.v (.bool true))) (h)) (h2' : (decide (y ≤ x)) = false → wkO P ops rest N (Fr.put ⟨l, ds⟩ d (.v (.bool false))) (h)) (hw : wantA ops ⟨l, ds⟩ ⟨d, .binOp .geq t a b t', ty, pos, aft, gd⟩ = true := by rfl) (ha : evS l a = some (.v (.int k x)) := by rfl) (hb : evS l b = some (.v (.int k y)) := by rfl) : wkO P ops (⟨d, .binOp .geq t a b t', ty, pos, aft, gd⟩ :: rest) N ⟨l, ds⟩ h := s_gB hw (x_ge (e_any ha) (e_any hb)) h1' h2'
theorem qGe  (h1' : (decide (y ≤ x)) = true → wkQ P ops restQ N (Fr.put ⟨l, ds⟩ d (.v (.bool true))) (h)) (h2' : (decide (y ≤ x)) = false → wkQ P ops restQ N (Fr.put ⟨l, ds⟩ d (.v (.bool false))) (h)) (hw : wantA ops ⟨l, ds⟩ ⟨d, .binOp .geq t a b t', ty, pos, aft, gd⟩ = true := by rfl) (ha : evS l a = some (.v (.int k x)) := by rfl) (hb : evS l b = some (.v (.int k y)) := by rfl) : wkQ P ops ((⟨d, .binOp .geq t a b t', ty, pos, aft, gd⟩, zz) :: restQ) N ⟨l, ds⟩ h := q_gB hw (x_ge (e_any ha) (e_any hb)) h1' h2'
theorem sneB {x1 x2 : Bool} (h1' : (!(x1 == x2)) = true → wkO P ops rest N (Fr.put ⟨l, ds⟩ d (.v (.bool true))) (h)) (h2' : (!(x1 == x2)) = false → wkO P ops rest N (Fr.put ⟨l, ds⟩ d (.v (.bool false))) (h)) (hw : wantA ops ⟨l, ds⟩ ⟨d, .binOp .neq t a b t', ty, pos, aft, gd⟩ = true := by rfl) (hs : CB P t := by infer_instance) (ha : evS l a = some (.v (.bool x1)) := by rfl) (hb : evS l b = some (.v (.bool x2)) := by rfl) : wkO P ops (⟨d, .binOp .neq t a b t', ty, pos, aft, gd⟩ :: rest) N ⟨l, ds⟩ h := s_gB hw (x_neB hs.p (e_any ha) (e_any hb)) h1' h2'
theorem sbn {bo : BinOp} {u1 u2 : AV} {bb : Bool} (h1' : (bb) = true → wkO P ops rest N (Fr.put ⟨l, ds⟩ d (.v (.bool true))) (h)) (h2' : (bb) = false → wkO P ops rest N (Fr.put ⟨l, ds⟩ d (.v (.bool false))) (h)) (hw : wantA ops ⟨l, ds⟩ ⟨d, .binOp bo t a b t', ty, pos, aft, gd⟩ = true := by rfl) (ha : evS l a = some (u1) := by rfl) (hb : evS l b = some (u2) := by rfl) (hr : BN P bo t u1 u2 bb := by infer_instance) : wkO P ops (⟨d, .binOp bo t a b t', ty, pos, aft, gd⟩ :: rest) N ⟨l, ds⟩ h := s_gB hw (x_bin (e_any ha) (e_any hb) hr.p) h1' h2'
theorem qbn {bo : BinOp} {u1 u2 : AV} {bb : Bool} (h1' : (bb) = true → wkQ P ops restQ N (Fr.put ⟨l, ds⟩ d (.v (.bool true))) (h)) (h2' : (bb) = false → wkQ P ops restQ N (Fr.put ⟨l, ds⟩ d (.v (.bool false))) (h)) (hw : wantA ops ⟨l, ds⟩ ⟨d, .binOp bo t a b t', ty, pos, aft, gd⟩ = true := by rfl) (ha : evS l a = some (u1) := by rfl) (hb : evS l b = some (u2) := by rfl) (hr : BN P bo t u1 u2 bb := by infer_instance) : wkQ P ops ((⟨d, .binOp bo t a b t', ty, pos, aft, gd⟩, zz) :: restQ) N ⟨l, ds⟩ h := q_gB hw (x_bin (e_any ha) (e_any hb) hr.p) h1' h2'
theorem salloc  (hk : wkO P ops rest N (Fr.put ⟨l, ds⟩ d (.ptr h.length 0)) (h ++ [.cells vs t true])) (hw : wantA ops ⟨l, ds⟩ ⟨d, .alloc t, ty, pos, aft, gd⟩ = true := by rfl) (hz : CZ P t vs := by infer_instance) : wkO P ops (⟨d, .alloc t, ty, pos, aft, gd⟩ :: rest) N ⟨l, ds⟩ h := s_gH hw (x_alloc hz.p) hk
theorem sboxA  (hk : wkO P ops rest N (Fr.put ⟨l, ds⟩ d (.ptr h.length 0)) (h ++ [.cells vs t true])) (hw : wantA ops ⟨l, ds⟩ ⟨d, .box t a, ty, pos, aft, gd⟩ = true := by rfl) (hs : CA P t m := by infer_instance) (ha : evS l a = some (.agg vs) := by rfl) (hp : allOne vs = true := by first | rfl | exact AllP.p) (hv : vs.length = m := by rfl) : wkO P ops (⟨d, .box t a, ty, pos, aft, gd⟩ :: rest) N ⟨l, ds⟩ h := s_gH hw (x_boxA hs.p (e_any ha) hp hv) hk
theorem sstore1  (hk : wkO P ops rest N (Fr.put ⟨l, ds⟩ d (.v undef)) (h.set i (.cells (cs.set o v) tt true))) (hw : wantA ops ⟨l, ds⟩ ⟨d, .store t a b, ty, pos, aft, gd⟩ = true := by rfl) (hs : C1 P t := by infer_instance) (ha : evS l a = some (.ptr i o) := by rfl) (hb : evS l b = some (v) := by rfl) (hp : v.plain = true := by first | rfl | exact PlC.p) (hi : HA h i (.cells cs tt true) := by infer_instance) (hl : o < cs.length := by first | exact Nat.le_refl _ | decide | (simp; done) | (simp only [List.length_cons, List.length_nil, List.length_set]; omega)) : wkO P ops (⟨d, .store t a b, ty, pos, aft, gd⟩ :: rest) N ⟨l, ds⟩ h := s_gH hw (x_store1 hs.p (e_any ha) (e_any hb) hp hi.p hl) hk
theorem sstoreF  (hk : wkO P ops rest N (Fr.put ⟨l, ds⟩ d (.v undef)) (h.set i (.cells vs tt true))) (hw : wantA ops ⟨l, ds⟩ ⟨d, .store t a b, ty, pos, aft, gd⟩ = true := by rfl) (hs : CA P t m := by infer_instance) (ha : evS l a = some (.ptr i 0) := by rfl) (hb : evS l b = some (.agg vs) := by rfl) (hp : allOne vs = true := by first | rfl | exact AllP.p) (hv : vs.length = m := by rfl) (hi : HA h i (.cells cs tt true) := by infer_instance) (hl : cs.length = m := by rfl) : wkO P ops (⟨d, .store t a b, ty, pos, aft, gd⟩ :: rest) N ⟨l, ds⟩ h := s_gH hw (x_storeF hs.p (e_any ha) (e_any hb) hp hv hi.p hl) hk
theorem ustoreF  (hk : wkX P ops X pd N (Fr.put ⟨l, ds⟩ d (.v undef)) (h.set i (.cells vs tt true))) (hw : wantA ops ⟨l, ds⟩ ⟨d, .store t a b, ty, pos, aft, gd⟩ = true := by rfl) (hs : CA P t m := by infer_instance) (ha : evS l a = some (.ptr i 0) := by rfl) (hb : evS l b = some (.agg vs) := by rfl) (hp : allOne vs = true := by first | rfl | exact AllP.p) (hv : vs.length = m := by rfl) (hi : HA h i (.cells cs tt true) := by infer_instance) (hl : cs.length = m := by rfl) (hst : stayG gone pd h (h.set i (.cells vs tt true)) := by repeat' first | exact trivial | refine ⟨.inl rfl, ?_⟩ | refine ⟨.inr (by first | rfl | exact List.getElem?_set_ne (by omega) | exact ha_same inferInstance inferInstance | (simp; done)), ?_⟩) : wkX P ops (.alt ⟨d, .store t a b, ty, pos, aft, gd⟩ ii gone X .no) pd N ⟨l, ds⟩ h := u_gH hw (x_storeF hs.p (e_any ha) (e_any hb) hp hv hi.p hl) hst hk
theorem sbsl {ps : List (Nat × AV)} {parts : Array (Nat × Operand)} {len : Nat} (hk : wkO P ops rest N (Fr.put ⟨l, ds⟩ d (.sl h.length 0 len len false)) (h ++ [.cells cs e true])) (hw : wantA ops ⟨l, ds⟩ ⟨d, .buildSlice t len parts, ty, pos, aft, gd⟩ = true := by rfl) (hl : evP l parts.toList = some ps := by rfl) (hb : BS P t len ps e cs := by infer_instance) : wkO P ops (⟨d, .buildSlice t len parts, ty, pos, aft, gd⟩ :: rest) N ⟨l, ds⟩ h := s_gH hw (x_bsl (evP_eq hl) hb.p) hk
theorem sK {op : Op} {g : FuncId} {args : List AV} {rr : AV} (hc : ACalls P g args [] (fun r' _ => r' = rr ∧ r'.sc 0 = true)) (hk : wkO P ops rest N (Fr.put ⟨l, ds⟩ d (rr)) (h)) (hw : wantA ops ⟨l, ds⟩ ⟨d, op, ty, pos, aft, gd⟩ = true := by rfl) (hx : callOf ⟨l, ds⟩ op = some (g, args) := by rfl) (hg : CO P g := by infer_instance) (hs : AV.scs 0 args = true := by rfl) : wkO P ops (⟨d, op, ty, pos, aft, gd⟩ :: rest) N ⟨l, ds⟩ h := s_gK hw hx hg.p hs hc hk
theorem sM {op : Op} {g : FuncId} {args : List AV} {rr : AV} (hc : ACalls P g args h (fun r' h' => r' = rr ∧ h' = h)) (hk : wkO P ops rest N (Fr.put ⟨l, ds⟩ d (rr)) (h)) (hw : wantA ops ⟨l, ds⟩ ⟨d, op, ty, pos, aft, gd⟩ = true := by rfl) (hx : callOf ⟨l, ds⟩ op = some (g, args) := by rfl) (hg : CO P g := by infer_instance) : wkO P ops (⟨d, op, ty, pos, aft, gd⟩ :: rest) N ⟨l, ds⟩ h := s_gM hw hx hg.p hc hk
theorem sX {op : Op} {g : FuncId} {args : List AV} {rr : AV} {H' : Hp} (hc : ACalls P g args h (fun r' h' => r' = rr ∧ h' = H')) (hk : wkO P ops rest N (Fr.put ⟨l, ds⟩ d (rr)) (H')) (hw : wantA ops ⟨l, ds⟩ ⟨d, op, ty, pos, aft, gd⟩ = true := by rfl) (hx : callOf ⟨l, ds⟩ op = some (g, args) := by rfl) (hg : CO P g := by infer_instance) : wkO P ops (⟨d, op, ty, pos, aft, gd⟩ :: rest) N ⟨l, ds⟩ h := s_gX hw hx hg.p hc hk
theorem sC {op : Op} {g : FuncId} {args : List AV} (hc : ACalls P g args h (fun r' h' => wkO P ops rest N (Fr.put ⟨l, ds⟩ d r') h')) (hw : wantA ops ⟨l, ds⟩ ⟨d, op, ty, pos, aft, gd⟩ = true := by rfl) (hx : callOf ⟨l, ds⟩ op = some (g, args) := by rfl) (hg : CO P g := by infer_instance) : wkO P ops (⟨d, op, ty, pos, aft, gd⟩ :: rest) N ⟨l, ds⟩ h := s_gC hw hx hg.p hc
theorem qK {op : Op} {g : FuncId} {args : List AV} {rr : AV} (hc : ACalls P g args [] (fun r' _ => r' = rr ∧ r'.sc 0 = true)) (hk : wkQ P ops restQ N (Fr.put ⟨l, ds⟩ d (rr)) (h)) (hw : wantA ops ⟨l, ds⟩ ⟨d, op, ty, pos, aft, gd⟩ = true := by rfl) (hx : callOf ⟨l, ds⟩ op = some (g, args) := by rfl) (hg : CO P g := by infer_instance) (hs : AV.scs 0 args = true := by rfl) : wkQ P ops ((⟨d, op, ty, pos, aft, gd⟩, false) :: restQ) N ⟨l, ds⟩ h := q_gK hw hx hg.p hs hc hk
theorem qM {op : Op} {g : FuncId} {args : List AV} {rr : AV} (hc : ACalls P g args h (fun r' h' => r' = rr ∧ h' = h)) (hk : wkQ P ops restQ N (Fr.put ⟨l, ds⟩ d (rr)) (h)) (hw : wantA ops ⟨l, ds⟩ ⟨d, op, ty, pos, aft, gd⟩ = true := by rfl) (hx : callOf ⟨l, ds⟩ op = some (g, args) := by rfl) (hg : CO P g := by infer_instance) : wkQ P ops ((⟨d, op, ty, pos, aft, gd⟩, false) :: restQ) N ⟨l, ds⟩ h := q_gM hw hx hg.p hc hk
theorem sN {op : Op} {gg : Nat × Bool} (hk : wkO P ops rest N (Fr.put ⟨l, ds⟩ d (.v undef)) (h)) (hw : wantA ops ⟨l, ds⟩ ⟨d, op, ty, pos, aft, some gg⟩ = false := by rfl) : wkO P ops (⟨d, op, ty, pos, aft, some gg⟩ :: rest) N ⟨l, ds⟩ h := s_gN hw hk
theorem qN {op : Op} {gg : Nat × Bool} (hk : wkQ P ops restQ N (Fr.put ⟨l, ds⟩ d (.v undef)) (h)) (hw : wantA ops ⟨l, ds⟩ ⟨d, op, ty, pos, aft, some gg⟩ = false := by rfl) : wkQ P ops ((⟨d, op, ty, pos, aft, some gg⟩, zz) :: restQ) N ⟨l, ds⟩ h := q_gN hw hk
theorem sCT {m : Nat} {ro : Option Nat} {K : Exit → Fr → Hp → Prop} {cc dd : Code} (hk : wk P m ro cc K ⟨l, ds⟩ h) (hc : evS l a = some (.v (.bool true)) := by rfl) : wk P m ro (.cond a cc dd) K ⟨l, ds⟩ h := s_condT (e_any hc) hk
theorem sCF {m : Nat} {ro : Option Nat} {K : Exit → Fr → Hp → Prop} {cc dd : Code} (hk : wk P m ro dd K ⟨l, ds⟩ h) (hc : evS l a = some (.v (.bool false)) := by rfl) : wk P m ro (.cond a cc dd) K ⟨l, ds⟩ h := s_condF (e_any hc) hk
end
section
variable {P : Program} {h : Hp} {l : List AV} {t t' tt i o m : Nat} {cs : List AV} {ow : Bool} {r : AV} {fn : Func} {N : AV → Hp → Prop}
/-! Results. -/
class RV (P : Program) (l : List AV) (h : Hp) (v : ResultVar) (r : AV) : Prop where
  p : resOne P ⟨l, []⟩ h v = some r
end
end Go.Az
/-
  Slices of any elements that are passed in, alone or in a struct: what the statement's own memory says of them, as an abstract memory that is only read. Conditions: stated at each theorem.
-/
set_option linter.unusedSimpArgs false
set_option linter.unusedVariables false
namespace Go.Az
open Go Go.Chz Go.ChangeShapes

abbrev vEnc {α : Type} (encV : α → List Value) (x : α) : List AV := (encV x).map AV.v
structure RowX where
  a : Option Addr
  len : Nat
  cap : Nat
  cs : List Value
  t : TypeId
def RowX.obj (r : RowX) : AObj := .cells (r.cs.map AV.v) r.t false
def RowX.av (r : RowX) (i : Nat) : AV := match r.a with
  | none => .v (.slice none 0 0)
  | some _ => .sl i 0 r.len r.cap false
def RowX.place (r : RowX) : Place := match r.a with
  | none => ⟨0, 0, 0⟩
  | some ad => ⟨ad.block, ad.off, r.cap⟩
def rhoX (rs : List RowX) (i : Nat) : Place := match rs[i]? with
  | some r => r.place
  | none => ⟨0, 0, 0⟩
def RowX.ok (W : World) (r : RowX) : Prop := (r.a = none ∧ r.len = 0 ∧ r.cap = 0 ∧ r.cs = []) ∨ ∃ ad, r.a = some ad ∧ r.len ≤ r.cap ∧ ad.spot = none ∧ ∀ j v, r.cs[j]? = some v → W.cell? (ad.add j) = some v
theorem rowsX_hrel {P : Program} {W : World} {rs : List RowX} (h : ∀ r ∈ rs, r.ok W) : HRel P (rhoX rs) (rs.map RowX.obj) W := by
  refine ⟨?_, ?_, ?_⟩
  · intro i o hi
    rw [List.getElem?_map] at hi
    obtain ⟨r, hr, rfl⟩ := Option.map_eq_some_iff.1 hi
    refine ⟨?_, fun hf => by cases hf⟩
    intro j a hj
    rw [List.getElem?_map] at hj
    obtain ⟨x, hx, rfl⟩ := Option.map_eq_some_iff.1 hj
    rcases h r (List.mem_of_getElem? hr) with ⟨_, _, _, hz⟩ | ⟨ad, ha, _, hsp, hc⟩
    · rw [hz] at hx; cases hx
    · have h1 := hc j x hx
      have e1 : rhoX rs i = ⟨ad.block, ad.off, r.cap⟩ := by simp only [rhoX, hr, RowX.place, ha]
      have e2 : (⟨ad.block, ad.off + j, none⟩ : Addr) = ad.add j := by
        cases ad with
        | mk b o s => simp only at hsp; subst hsp; rw [add0]
      rw [e1]
      simp only [e2, h1, AV.real]
  · intro i o hi
    rw [List.getElem?_map] at hi
    obtain ⟨r, hr, rfl⟩ := Option.map_eq_some_iff.1 hi
    show AV.scs _ _ = true
    exact (scs_iff _ _).2 fun a ha => by
      obtain ⟨x, _, rfl⟩ := List.mem_map.1 ha
      rfl
  · intro i j o o' hi hj ho
    rw [List.getElem?_map] at hi
    obtain ⟨r, hr, rfl⟩ := Option.map_eq_some_iff.1 hi
    cases ho
theorem rowsX_own {rs : List RowX} : ∀ o ∈ rs.map RowX.obj, o.own = false := by
  intro o ho
  obtain ⟨r, _, rfl⟩ := List.mem_map.1 ho
  rfl
theorem rowX_real {W : World} {rs : List RowX} {i : Nat} {r : RowX} (hr : rs[i]? = some r) (h : r.ok W) : (r.av i).real (rhoX rs) = .slice r.a r.len r.cap := by
  rcases h with ⟨ha, hl, hc, _⟩ | ⟨ad, ha, _, hsp, _⟩
  · simp only [RowX.av, ha, AV.real, hl, hc]
  · simp only [RowX.av, ha, AV.real, rhoX, hr, RowX.place, Nat.add_zero, Bool.false_eq_true, if_false]
    cases ad with
    | mk b o s => simp only at hsp; subst hsp; rfl
theorem rowX_sc {rs : List RowX} {i : Nat} {r : RowX} (hr : rs[i]? = some r) : (r.av i).sc (rs.map RowX.obj).length = true := by
  unfold RowX.av
  split
  · rfl
  · have := (List.getElem?_eq_some_iff.1 hr).1
    simp [AV.sc, this]
/-- The slice value of the world W, and what its whole row holds. -/
def IsRowX {α : Type} (encV : α → List Value) (wf : α → Prop) (W : World) (a : Option Addr) (len cap : Nat) (zs : List α) : Prop :=
  (a = none ∧ len = 0 ∧ cap = 0 ∧ zs = []) ∨ ∃ ad, a = some ad ∧ len ≤ cap ∧ cap ≤ maxLen ∧ zs.length = cap ∧ ad.spot = none ∧ (∀ j v, (zs.flatMap encV)[j]? = some v → W.cell? (ad.add j) = some v) ∧ ∀ z ∈ zs, wf z
section
variable {α : Type} {encV : α → List Value} {wf : α → Prop} {W : World} {a : Option Addr} {len cap : Nat} {zs : List α} {t : TypeId} {q : Nat}
theorem IsRowX.ok (h : IsRowX encV wf W a len cap zs) (t : TypeId) : (RowX.mk a len cap (zs.flatMap encV) t).ok W := by
  rcases h with ⟨h1, h2, h3, h4⟩ | ⟨ad, h1, h2, h3, h4, h5, h6, h7⟩
  · exact .inl ⟨h1, h2, h3, by simp [h4]⟩
  · exact .inr ⟨ad, h1, h2, h5, h6⟩
theorem vflat (encV : α → List Value) : ∀ zs : List α, (zs.flatMap encV).map AV.v = zs.flatMap (vEnc encV)
  | [] => rfl
  | z :: r => by simp only [List.flatMap_cons, List.map_append, vflat encV r]
theorem rowX_elts {rs : List RowX} {i : Nat} (hE : EncOk (vEnc encV) q) (h : IsRowX encV wf W a len cap zs) (hr : rs[i]? = some (RowX.mk a len cap (zs.flatMap encV) t)) : Elts (vEnc encV) q (rs.map RowX.obj) ((RowX.mk a len cap (zs.flatMap encV) t).av i) (zs.take len) := by
  rcases h with ⟨h1, h2, h3, h4⟩ | ⟨ad, h1, h2, h3, h4, h5, h6, h7⟩
  · left; simp [RowX.av, h1, h4]
  · right
    have e : (zs.take len).length = len := by rw [List.length_take, Nat.min_eq_left (by omega)]
    refine ⟨i, 0, cap, false, (zs.flatMap encV).map AV.v, t, false, by simp only [RowX.av, h1, e], by rw [List.getElem?_map, hr]; rfl, ?_, ?_⟩
    · rw [e, vflat, flat_len hE]
      have := Nat.mul_le_mul_right q h2
      rw [h4]; omega
    · rw [e, List.drop_zero, vflat, flat_take hE]
end

/-! ### Out of the statement's memory -/
theorem cell_of_value {P : Program} {w : World} {r : Reach} {b : Nat} {t e : TypeId} {v : Value} (ht : P.underlying t = some (.slice e)) (h : Value.okWide P w r b t v) : Cell.okWide P w r b t v := by
  simpa only [Value.okWide, ht] using h
theorem cell_slice {P : Program} {w : World} {r : Reach} {b : Nat} {t e : TypeId} {v : Value} (ht : P.underlying t = some (.slice e)) (h : Cell.okWide P w r b t v) : ∃ a len cap, v = .slice a len cap ∧ (∀ ad, a = some ad → ad.spot = none) := by
  simp only [Cell.okWide, ht, Cell.ok] at h
  cases v with
  | slice a len cap =>
    cases a with
    | none => exact ⟨none, len, cap, rfl, fun ad h => by cases h⟩
    | some ad => exact ⟨some ad, len, cap, rfl, fun ad' h' => by injection h' with h'; subst h'; exact h.2.2.2.1⟩
  | _ => exact absurd h (by simp)
theorem add_add (ad : Addr) (h : ad.spot = none) (i j : Nat) : (ad.add i).add j = ad.add (i + j) := by
  cases ad with
  | mk b o s => simp only at h; subst h; rw [add0, add0, add0, Nat.add_assoc]
theorem open_rows {H : Type} {enc : TypeId × Value → H} {P : Program} {W : World} {α : Type} {encV : α → List Value} {wf : α → Prop} {t e : TypeId} {q fuel : Nat} {v : Value} {r : Reach} {b : Nat} {y : DataW H × List MemPlace} (ht : P.underlying t = some (.slice e)) (hq : P.cellsOf e = q)
    (hlen : ∀ x, (encV x).length = q)
    (el : ∀ n cs y, DataW.trod enc P W 0 (fun _ => true) true n e cs = some y → ∃ x : α, wf x ∧ cs = encV x)
    (hc : Cell.okWide P W r b t v) (h : DataW.trod enc P W 0 (fun _ => true) true fuel t [v] = some y) : ∃ a len cap zs, v = .slice a len cap ∧ IsRowX encV wf W a len cap zs := by
  obtain ⟨a, len, cap, rfl, hsp⟩ := cell_slice ht hc
  rcases DataW.trod_slice ht h with ⟨h0, _⟩ | ⟨ad, len', cap', elems, rest, n, _, h0, _, hb, hl, hm, hlen', hel, hspare, _⟩
  · simp only [List.cons.injEq, Value.slice.injEq, and_true] at h0
    obtain ⟨rfl, rfl, rfl⟩ := h0
    exact ⟨none, 0, 0, [], rfl, .inl ⟨rfl, rfl, rfl, rfl⟩⟩
  · simp only [List.cons.injEq, Value.slice.injEq, and_true] at h0
    obtain ⟨rfl, rfl, rfl⟩ := h0
    have hs := hsp ad rfl
    have each : ∀ i, i < cap → ∃ x : α, wf x ∧ ∀ j v, (encV x)[j]? = some v → W.cell? (ad.add (i * q + j)) = some v := by
      intro i hi
      obtain ⟨hrl, hr⟩ := hspare rfl
      have hb' : ∃ y, (W.cells? 0 (ad.add (i * P.cellsOf e)) (P.cellsOf e)).bind (DataW.trod enc P W 0 (fun _ => true) true n e) = some y := by
        by_cases hi2 : i < len
        · rw [hel i hi2, List.getElem?_eq_getElem (by omega)]; exact ⟨_, rfl⟩
        · have := hr (i - len) (by omega)
          rw [show len + (i - len) = i by omega] at this
          rw [this, List.getElem?_eq_getElem (by omega)]; exact ⟨_, rfl⟩
      obtain ⟨y, hy⟩ := hb'
      rw [hq, Option.bind_eq_some_iff] at hy
      obtain ⟨cs, hcs, hy⟩ := hy
      obtain ⟨x, hx, rfl⟩ := el n cs y hy
      refine ⟨x, hx, fun j v hj => ?_⟩
      have h3 := (World.cells?_some hcs).2.2 j (by have := (List.getElem?_eq_some_iff.1 hj).1; rw [hlen] at this; exact this)
      rw [add_add ad hs] at h3
      rw [h3, hj]
    have build : ∀ m, m ≤ cap → ∃ zs : List α, zs.length = m ∧ (∀ z ∈ zs, wf z) ∧ ∀ j v, (zs.flatMap encV)[j]? = some v → W.cell? (ad.add j) = some v := by
      intro m
      induction m with
      | zero => exact fun _ => ⟨[], rfl, fun z hz => (by cases hz), fun j v h => (by simp at h)⟩
      | succ m ih =>
        intro hm'
        obtain ⟨zs, h1, h2, h3⟩ := ih (by omega)
        obtain ⟨x, hx, hxc⟩ := each m (by omega)
        have hfl : ∀ zs : List α, (zs.flatMap encV).length = zs.length * q := by
          intro zs
          induction zs with
          | nil => simp
          | cons z r ih => rw [List.flatMap_cons, List.length_append, hlen, ih, List.length_cons, Nat.succ_mul]; omega
        refine ⟨zs ++ [x], by simp [h1], fun z hz => ?_, fun j v hj => ?_⟩
        · rcases List.mem_append.1 hz with h | h
          · exact h2 z h
          · simp at h; subst h; exact hx
        · rw [List.flatMap_append] at hj
          by_cases hlt : j < (zs.flatMap encV).length
          · rw [List.getElem?_append_left hlt] at hj
            exact h3 j v hj
          · rw [List.getElem?_append_right (by omega)] at hj
            rw [hfl, h1] at hj hlt
            have := hxc (j - m * q) v (by simpa using hj)
            rwa [show m * q + (j - m * q) = j by omega] at this
    obtain ⟨zs, h1, h2, h3⟩ := build cap (Nat.le_refl _)
    exact ⟨some ad, len, cap, zs, rfl, .inr ⟨ad, rfl, hl, hm, h1, hs, h3, h2⟩⟩
theorem el_int {H : Type} {enc : TypeId × Value → H} {P : Program} {W : World} {e : TypeId} {k : IntKind} (he : P.underlying e = some (.int k)) : ∀ n cs y, DataW.trod enc P W 0 (fun _ => true) true n e cs = some y → ∃ x : Int, (k.min ≤ x ∧ x ≤ k.max) ∧ cs = [.int k x] := by
  intro n cs y h
  obtain ⟨m, rfl, rfl, hw⟩ := DataW.trod_int he h
  simp only [Lit.wf, Bool.and_eq_true, decide_eq_true_eq] at hw
  exact ⟨m, hw, rfl⟩
end Go.Az
/-
  Short names for the equations that bring a walk's frame into its plain form. Conditions: stated at each theorem.
-/
set_option linter.unusedSimpArgs false
set_option linter.unusedVariables false
namespace Go.Az
open Go Go.Chz
theorem pu' {l : List AV} {ds : List Nat} {d : Tmp} {v : AV} : Fr.put ⟨l, ds⟩ (some d) v = ⟨l.set d v, ds⟩ := rfl
theorem p0' {l : List AV} {ds : List Nat} {v : AV} : Fr.put ⟨l, ds⟩ none v = ⟨l, ds⟩ := rfl
theorem c1' {α : Type} {l : List α} {a b : α} {n : Nat} : (a :: l).set (n + 1) b = a :: l.set n b := rfl
theorem c0' {α : Type} {l : List α} {a b : α} : (a :: l).set 0 b = b :: l := rfl
theorem i1' {n : Nat} : ((n : Nat) : Int).toNat = n := rfl
theorem z0' {n : Nat} : 0 + n = n := Nat.zero_add n
theorem a0' {α : Type} {l k m : List α} : l ++ k ++ m = l ++ (k ++ m) := List.append_assoc l k m
theorem a1' {α : Type} {l k : List α} {a : α} : a :: l ++ k = a :: (l ++ k) := rfl
theorem a2' {α : Type} {l : List α} : [] ++ l = l := rfl
theorem n0' {α : Type} {l k : List α} : (l ++ k).length = l.length + k.length := List.length_append
theorem n1' {α : Type} {l : List α} {a : α} : (a :: l).length = l.length + 1 := rfl
theorem n2' {α : Type} : ([] : List α).length = 0 := rfl
theorem n3' {α : Type} {l : List α} {a : α} {n : Nat} : (l.set n a).length = l.length := List.length_set
theorem n4' {α : Type} {a : α} {n : Nat} : (List.replicate n a).length = n := List.length_replicate
theorem n5' {a b c : Nat} : a + b + c = a + (b + c) := Nat.add_assoc a b c
theorem dT' {p : Prop} [Decidable p] (h : decide p = true) : p := of_decide_eq_true h
theorem dF' {p : Prop} [Decidable p] (h : decide p = false) : ¬ p := of_decide_eq_false h
theorem bX' {b : Bool} {p : Prop} (h1 : b = true) (h2 : b = false) : p := by rw [h1] at h2; cases h2

instance {H r : Hp} {i : Nat} {o : AObj} [x : HA H i o] : HA (H ++ r) i o := ⟨by
  have h := x.p
  have hi : i < H.length := by
    rcases Nat.lt_or_ge i H.length with h1 | h1
    · exact h1
    · rw [List.getElem?_eq_none h1] at h; cases h
  rw [List.getElem?_append_left hi]; exact h⟩

/-! ### Cuts: what follows is walked once -/
section
variable {P : Program} {m : Nat} {ro : Option Nat} {ops : Array Oper}
theorem wkL_mono {K K' : Fr → Hp → Prop} (hn : ∀ f h, K f h → K' f h) : ∀ (l : List Nat) (f : Fr) (h : Hp), wkL P ops l K f h → wkL P ops l K' f h
  | [], f, h, hk => hn f h hk
  | i :: r, f, h, hk => by
    simp only [wkL] at hk ⊢
    cases ho : ops[i]? with
    | none => simp only [ho] at hk ⊢; exact wkL_mono hn r f h hk
    | some o =>
      simp only [ho] at hk ⊢
      split
      · rename_i hw; rw [if_pos hw] at hk
        exact wop_mono (fun v h' hh => wkL_mono hn r _ h' hh) hk
      · rename_i hw; rw [if_neg hw] at hk
        exact wkL_mono hn r _ h hk
theorem wkD_mono {K K' : Fr → Hp → Prop} {h0 : Hp} (hn : ∀ f h, K f h → K' f h) : ∀ (l : List (Nat × Bool)) (f : Fr) (h : Hp), wkD P ops h0 l K f h → wkD P ops h0 l K' f h
  | [], f, h, hk => hn f h hk
  | (i, true) :: r, f, h, hk => by
    simp only [wkD] at hk ⊢
    cases ho : ops[i]? with
    | none => simp only [ho] at hk
    | some o =>
      simp only [ho] at hk ⊢
      split
      · rename_i hw; rw [if_pos hw] at hk
        obtain ⟨v, hv, hk⟩ := hk
        exact ⟨v, hv, wkD_mono hn r _ h hk⟩
      · rename_i hw; rw [if_neg hw] at hk
        exact wkD_mono hn r _ h hk
  | (i, false) :: r, f, h, hk => by
    simp only [wkD] at hk ⊢
    cases ho : ops[i]? with
    | none => simp only [ho] at hk
    | some o =>
      simp only [ho] at hk ⊢
      split
      · rename_i hw; rw [if_pos hw] at hk
        exact wop_mono (fun v h' hh => ⟨hh.1, wkD_mono hn r _ h' hh.2⟩) hk
      · rename_i hw; rw [if_neg hw] at hk
        exact wkD_mono hn r _ h hk
theorem wkT_mono {K K' : Fr → Hp → Prop} (hn : ∀ f h, K f h → K' f h) : ∀ (T : Ord) (pd : List (Nat × Nat)) (f : Fr) (h : Hp), wkT P ops T pd K f h → wkT P ops T pd K' f h
  | .done, pd, f, h, hk => hn f h hk
  | .no, pd, f, h, hk => trivial
  | .light i r, pd, f, h, hk => by
    simp only [wkT] at hk ⊢
    cases ho : ops[i]? with
    | none => simp only [ho] at hk
    | some o =>
      simp only [ho] at hk ⊢
      split
      · rename_i hw; rw [if_pos hw] at hk
        obtain ⟨v, hv, hk⟩ := hk
        exact ⟨v, hv, wkT_mono hn r _ _ h hk⟩
      · rename_i hw; rw [if_neg hw] at hk
        exact wkT_mono hn r _ _ h hk
  | .alt i gone r rest, pd, f, h, hk => by
    simp only [wkT] at hk ⊢
    cases ho : ops[i]? with
    | none => simp only [ho] at hk; exact hk.1.elim
    | some o =>
      simp only [ho] at hk ⊢
      refine ⟨?_, wkT_mono hn rest pd f h hk.2⟩
      replace hk := hk.1
      split
      · rename_i hw; rw [if_pos hw] at hk
        exact wop_mono (fun v h' hh => ⟨hh.1, wkT_mono hn r _ _ h' hh.2⟩) hk
      · rename_i hw; rw [if_neg hw] at hk
        exact wkT_mono hn r _ _ h hk
theorem wk_mono : ∀ (c : Code) {K K' : Exit → Fr → Hp → Prop} (f : Fr) (h : Hp), (∀ e f h, K e f h → K' e f h) → wk P m ro c K f h → wk P m ro c K' f h
  | .skip, K, K', f, h, hn, hk => hn _ _ _ hk
  | .region _ ops false, K, K', f, h, hn, hk => wkL_mono (fun f h => hn _ f h) _ f h hk
  | .region _ ops true, K, K', f, h, hn, hk => by
    rcases hk with ⟨l, h0, a, b, c, hk⟩ | ⟨T, hv, a, hk⟩
    · exact .inl ⟨l, h0, a, b, c, wkD_mono (fun f h => hn _ f h) l f h hk⟩
    · exact .inr ⟨T, hv, a, wkT_mono (fun f h => hn _ f h) T [] f h hk⟩
  | .seq a b, K, K', f, h, hn, hk => wk_mono a f h (fun e f h hk => by
      cases e with
      | normal => exact wk_mono b f h hn hk
      | _ => exact hn _ _ _ hk) hk
  | .cond c a b, K, K', f, h, hn, ⟨t, h1, h2, h3⟩ => ⟨t, h1, fun ht => wk_mono a f h hn (h2 ht), fun ht => wk_mono b f h hn (h3 ht)⟩
  | .block id b, K, K', f, h, hn, hk => wk_mono b f h (fun e f h hk => by
      cases e with
      | exit i =>
        show (if _ then _ else _)
        have hk' : (if i = id then K .normal f h else K (.exit i) f h) := hk
        split
        · rename_i hi; rw [if_pos hi] at hk'; exact hn _ _ _ hk'
        · rename_i hi; rw [if_neg hi] at hk'; exact hn _ _ _ hk'
      | _ => exact hn _ _ _ hk) hk
  | .exit id, K, K', f, h, hn, hk => hn _ _ _ hk
  | .label _, K, K', f, h, hn, hk => hn _ _ _ hk
  | .ret, K, K', f, h, hn, hk => hn _ _ _ hk
  | .loop _, K, K', f, h, hn, hk => AW.mono hk hn
  | .rangeFunc .., K, K', f, h, hn, hk => AW.mono hk hn
  | .scope _, K, K', f, h, hn, hk => AW.mono hk hn
  | .goto _, K, K', f, h, hn, hk => AW.mono hk hn
  | .refuse _, K, K', f, h, hn, hk => AW.mono hk hn
/-- What is so behind a piece of code, however it was reached. -/
def At {β : Type} (F : β → (Nat → AV) → List AV) (H : β → Hp) (ok : β → Prop) (ds : List Nat) : Fr → Hp → Prop := fun f h => ∃ b s, ok b ∧ f = ⟨F b s, ds⟩ ∧ h = H b
theorem at_in {β : Type} {F : β → (Nat → AV) → List AV} {H : β → Hp} {ok : β → Prop} {ds : List Nat} {l : List AV} {h : Hp} (b : β) (h1 : ok b) (h3 : l = F b fun k => l.getD k (.v undef)) (h4 : h = H b) : At F H ok ds ⟨l, ds⟩ h := ⟨b, _, h1, congrArg (Fr.mk · ds) h3, h4⟩
/-- A cut where a piece of code ends normally. -/
theorem s_cut {β : Type} (F : β → (Nat → AV) → List AV) (H : β → Hp) (ok : β → Prop) {c : Code} {N : Fr → Hp → Prop} {K : Exit → Fr → Hp → Prop} {ds : List Nat} {l : List AV} {h : Hp} (hk : wk P m ro c (thenK (At F H ok ds) K) ⟨l, ds⟩ h) (hn : ∀ b s, ok b → N ⟨F b s, ds⟩ (H b)) : wk P m ro c (thenK N K) ⟨l, ds⟩ h :=
  wk_mono c _ _ (fun e f h hh => by
    cases e with
    | normal => obtain ⟨b, s, h1, rfl, rfl⟩ := hh; exact hn b s h1
    | _ => exact hh) hk
end
section
variable {P : Program} {l : List AV} {ds : List Nat} {h : Hp} {ops : Array Oper} {N : Fr → Hp → Prop} {d : Option Tmp} {ty : TypeId} {pos : String} {aft : Array Edge} {gd : Option (Nat × Bool)} {X : OrdX} {pd : List (Nat × Nat)} {ii : Nat} {gone : List Nat}
end
theorem elts_at {α : Type} {enc : α → List AV} {q : Nat} (hE : EncOk enc q) {h : Hp} {i c : Nat} {u : Bool} {cs : List AV} {t : TypeId} {ow : Bool} {l : List α} (hi : HA h i (.cells cs t ow)) (hc : cs = l.flatMap enc) : Elts enc q h (.sl i 0 l.length c u) l := by
  refine .inr ⟨i, 0, c, u, cs, t, ow, rfl, hi.p, ?_, ?_⟩
  · rw [hc, flat_len hE]; omega
  · rw [hc, List.drop_zero, List.take_of_length_le (by rw [flat_len hE]; omega)]
theorem s_scope {P : Program} {m : Nat} {ro : Option Nat} (hm : P.follows .mixedOrders = true) {b : Code} {K : Exit → Fr → Hp → Prop} {f : Fr} {h : Hp} (hk : wk P m ro b (noGo K) f h) : wk P m ro (.scope b) K f h := aw_scope (wk_ok hm b _ f h hk)
theorem s_ngR {K : Exit → Fr → Hp → Prop} {f : Fr} {h : Hp} (hk : K .ret f h) : noGo K .ret f h := hk
theorem tmod_lo {n m : Int} (hm : 0 < m) (h : n.tmod m < 0) : n.tmod m + m = n % m := by
  have := Int.tmod_eq_emod (a := n) (b := m)
  have h2 := Int.emod_nonneg n (show m ≠ 0 by omega)
  rw [this] at h ⊢
  split at h
  · omega
  · rename_i hc
    rw [if_neg hc]; omega
theorem tmod_hi {n m : Int} (hm : 0 < m) (h : ¬ n.tmod m < 0) : n.tmod m = n % m := by
  have := Int.tmod_eq_emod (a := n) (b := m)
  have h2 := Int.emod_lt_of_pos n hm
  rw [this] at h ⊢
  split at h
  · rename_i hc
    rw [if_pos hc]; omega
  · omega
end Go.Az
/-
  Memory in pieces that lie apart; ranges over functions. Conditions: stated at each theorem.
-/
set_option linter.unusedSimpArgs false
set_option linter.unusedVariables false
namespace Go.Az
open Go Go.Chz

/-! ### Pieces -/
structure Pc where
  foot : Option Nat
  ok : Hp → Prop
  loc : ∀ {H H' : Hp} {o : Option Nat}, Oth o H H' → (∀ i, foot = some i → o ≠ some i) → ok H → ok H'
  lt : ∀ {H : Hp} {i : Nat}, foot = some i → ok H → i < H.length
/-- A cell. -/
def pcC (i : Nat) (o : AObj) : Pc where
  foot := some i
  ok := fun H => H[i]? = some o
  loc := fun x hne hi => x.get hi (hne i rfl)
  lt := fun h hi => by injection h with h; subst h; exact (List.getElem?_eq_some_iff.1 hi).1
/-- A slice of the call's own. -/
def pcW {α : Type} (enc : α → List AV) (q : Nat) (e : TypeId) (s : AV) (l : List α) : Pc where
  foot := objOf s
  ok := fun H => Own enc q e H s l
  loc := fun x hne hO => hO.oth x hne
  lt := fun h hO => hO.lt h
class Sep (h : outParam Hp) (Y : Hp) (L : outParam (List Pc)) : Prop where
  ext : Ext h Y
  all : ∀ p ∈ L, p.ok Y
  low : ∀ p ∈ L, ∀ i, p.foot = some i → h.length ≤ i
  dis : L.Pairwise fun p q => ∀ i, p.foot = some i → q.foot ≠ some i
class MemC (L : List Pc) (i : Nat) (o : outParam AObj) : Prop where
  p : pcC i o ∈ L
class SetC (L : List Pc) (i : Nat) (o' : AObj) (L' : outParam (List Pc)) : Prop where
  p : ∃ k o, L[k]? = some (pcC i o) ∧ L' = L.set k (pcC i o')
instance {i : Nat} {o : AObj} {L : List Pc} : MemC (pcC i o :: L) i o := ⟨by simp⟩
instance (priority := low) {i : Nat} {o : AObj} {p : Pc} {L : List Pc} [x : MemC L i o] : MemC (p :: L) i o := ⟨by simp [x.p]⟩
instance {i : Nat} {o o' : AObj} {L : List Pc} : SetC (pcC i o :: L) i o' (pcC i o' :: L) := ⟨⟨0, o, rfl, rfl⟩⟩
instance (priority := low) {i : Nat} {o' : AObj} {p : Pc} {L L' : List Pc} [x : SetC L i o' L'] : SetC (p :: L) i o' (p :: L') := ⟨by
  obtain ⟨k, o, h1, h2⟩ := x.p
  exact ⟨k + 1, o, h1, by rw [h2]; rfl⟩⟩
instance (priority := low) {i : Nat} {o : AObj} {E L : List Pc} [x : MemC L i o] : MemC (E ++ L) i o := ⟨List.mem_append_right _ x.p⟩
instance (priority := low) {i : Nat} {o : AObj} {E L : List Pc} [x : MemC L i o] : MemC (L ++ E) i o := ⟨List.mem_append_left _ x.p⟩
instance (priority := low) {i : Nat} {o' : AObj} {L L' E : List Pc} [x : SetC L i o' L'] : SetC (L ++ E) i o' (L' ++ E) := ⟨by
  obtain ⟨k, o, h1, h2⟩ := x.p
  have hk := (List.getElem?_eq_some_iff.1 h1).1
  exact ⟨k, o, by rw [List.getElem?_append_left hk]; exact h1, by rw [h2, List.set_append_left _ _ hk]⟩⟩
theorem ha_lt {h : Hp} {i : Nat} {o : AObj} (a : HA h i o) : i < h.length := (List.getElem?_eq_some_iff.1 a.p).1
theorem wk_gen {P : Program} {m : Nat} {ro : Option Nat} {c : Code} {K : Exit → Fr → Hp → Prop} {f : Fr} {h Y0 : Hp} {L : List Pc} (s : Sep h Y0 L) (hk : ∀ Y, Sep h Y L → wk P m ro c K f Y) : wk P m ro c K f Y0 := hk Y0 s
section
variable {h Y Y' : Hp} {L L' : List Pc} {p p' : Pc} {i k : Nat} {o : AObj}
instance [s : Sep h Y L] [m : MemC L i o] : HA Y i o := ⟨s.all _ m.p⟩
theorem Sep.nil (h : Hp) : Sep h h [] := ⟨Ext.refl h, by simp, by simp, by simp⟩
theorem Sep.sub {h Y : Hp} {L L' : List Pc} (s : Sep h Y L) (hl : L'.Sublist L) : Sep h Y L' := ⟨s.ext, fun p hp => s.all p (hl.subset hp), fun p hp => s.low p (hl.subset hp), s.dis.sublist hl⟩
theorem Sep.more {h Y : Hp} {L : List Pc} (s : Sep h Y L) (x : Ext Y Y') : Sep h Y' L := ⟨s.ext.trans x, fun p hp => p.loc (o := none) (Oth.of_ext x) (fun _ _ => by simp) (s.all p hp), s.low, s.dis⟩
theorem Sep.push {h Y : Hp} {L : List Pc} (s : Sep h Y L) (o : AObj) : Sep h (Y ++ [o]) (L ++ [pcC Y.length o]) := by
  have t := s.more (Y' := Y ++ [o]) (ext_app _ _)
  refine ⟨t.ext, ?_, ?_, ?_⟩
  · intro p hp
    rcases List.mem_append.1 hp with hp | hp
    · exact t.all p hp
    · simp only [List.mem_singleton] at hp; subst hp
      show (Y ++ [o])[Y.length]? = some o
      simp
  · intro p hp i hi
    rcases List.mem_append.1 hp with hp | hp
    · exact t.low p hp i hi
    · simp only [List.mem_singleton] at hp; subst hp
      injection hi with hi; subst hi; exact s.ext.1
  · refine List.pairwise_append.2 ⟨t.dis, by simp, ?_⟩
    intro p hp q hq i hi hqi
    simp only [List.mem_singleton] at hq; subst hq
    injection hqi with hqi; subst hqi
    have := p.lt hi (s.all p hp)
    omega
def litP (n : Nat) (L : List AObj) : List Pc := (List.range L.length).map fun j => pcC (n + j) (L.getD j .gone)
theorem litP_snoc (n : Nat) (L : List AObj) (o : AObj) : litP n (L ++ [o]) = litP n L ++ [pcC (n + L.length) o] := by
  have e1 : (List.range L.length).map (fun j => pcC (n + j) ((L ++ [o]).getD j .gone)) = (List.range L.length).map (fun j => pcC (n + j) (L.getD j .gone)) := by
    refine List.map_congr_left fun j hj => ?_
    rw [List.mem_range] at hj
    simp [List.getD_eq_getElem?_getD, List.getElem?_append_left hj]
  have e2 : (L ++ [o]).getD L.length .gone = o := by simp [List.getD_eq_getElem?_getD]
  simp only [litP, List.length_append, List.length_singleton, List.range_succ, List.map_append, List.map_cons, List.map_nil, e1, e2]
theorem Sep.litsA (h : Hp) : ∀ (L2 L1 : List AObj), Sep h (h ++ L1) (litP h.length L1) → Sep h (h ++ (L1 ++ L2)) (litP h.length (L1 ++ L2))
  | [], L1, s => by rw [List.append_nil]; exact s
  | o :: L2, L1, s => by
    have := Sep.litsA h L2 (L1 ++ [o]) (by
      have := s.push o
      rw [litP_snoc, ← List.append_assoc]
      simpa only [List.length_append] using this)
    simpa only [List.append_assoc, List.singleton_append] using this
theorem Sep.lits (h : Hp) (L : List AObj) : Sep h (h ++ L) (litP h.length L) := Sep.litsA h L [] (by rw [List.append_nil]; exact Sep.nil h)
/-- One piece is turned into another. -/
theorem Sep.turn {h Y Y' : Hp} {L : List Pc} (s : Sep h Y L) {k : Nat} {p p' : Pc} (hk : L[k]? = some p) (x : Oth p.foot Y Y') (hp' : p'.ok Y') (hf : ∀ i, p'.foot = some i → p.foot = some i ∨ Y.length ≤ i) : Sep h Y' (L.set k p') := by
  have hkl : k < L.length := (List.getElem?_eq_some_iff.1 hk).1
  have hke : L[k] = p := (List.getElem?_eq_some_iff.1 hk).2
  have hpL : p ∈ L := List.mem_of_getElem? hk
  have hne : ∀ j (hj : j < L.length), j ≠ k → ∀ i, L[j].foot = some i → p.foot ≠ some i := by
    intro j hj hjk i hi hpi
    have hd := List.pairwise_iff_getElem.1 s.dis
    rcases Nat.lt_or_gt_of_ne hjk with hlt | hgt
    · exact hd j k hj hkl hlt i hi (by rw [hke]; exact hpi)
    · exact hd k j hkl hj hgt i (by rw [hke]; exact hpi) hi
  have hall : ∀ j (hj : j < L.length), j ≠ k → L[j].ok Y' := fun j hj hjk => L[j].loc x (hne j hj hjk) (s.all _ (List.getElem_mem hj))
  refine ⟨⟨Nat.le_trans s.ext.1 x.1, fun i hi => ?_⟩, ?_, ?_, ?_⟩
  · rw [x.2 i (Nat.lt_of_lt_of_le hi s.ext.1) (fun e => by have := s.low p hpL i e; omega)]
    exact s.ext.2 i hi
  · intro q hq
    obtain ⟨j, hj, hjq⟩ := List.getElem_of_mem hq
    rw [List.length_set] at hj
    by_cases hjk : j = k
    · subst hjk; rw [List.getElem_set_self] at hjq; subst hjq; exact hp'
    · rw [List.getElem_set_ne (fun e => hjk e.symm)] at hjq; subst hjq; exact hall j hj hjk
  · intro q hq i hi
    obtain ⟨j, hj, hjq⟩ := List.getElem_of_mem hq
    rw [List.length_set] at hj
    by_cases hjk : j = k
    · subst hjk; rw [List.getElem_set_self] at hjq; subst hjq
      rcases hf i hi with h1 | h1
      · exact s.low p hpL i h1
      · exact Nat.le_trans s.ext.1 h1
    · rw [List.getElem_set_ne (fun e => hjk e.symm)] at hjq; subst hjq; exact s.low _ (List.getElem_mem hj) i hi
  · refine List.pairwise_iff_getElem.2 fun a b ha hb hab i hi hbi => ?_
    rw [List.length_set] at ha hb
    have hd := List.pairwise_iff_getElem.1 s.dis a b ha hb hab
    by_cases hak : a = k
    · subst hak
      rw [List.getElem_set_self] at hi
      rw [List.getElem_set_ne (by omega)] at hbi
      rcases hf i hi with h1 | h1
      · exact hd i (by rw [hke]; exact h1) hbi
      · have := L[b].lt hbi (s.all _ (List.getElem_mem (by simpa using hb))); omega
    · rw [List.getElem_set_ne (fun e => hak e.symm)] at hi
      by_cases hbk : b = k
      · subst hbk
        rw [List.getElem_set_self] at hbi
        rcases hf i hbi with h1 | h1
        · exact hd i hi (by rw [hke]; exact h1)
        · have := L[a].lt hi (s.all _ (List.getElem_mem (by simpa using ha))); omega
      · rw [List.getElem_set_ne (fun e => hbk e.symm)] at hbi
        exact hd i hi hbi
theorem oth_set {Y : Hp} {i : Nat} {o : AObj} : Oth (some i) Y (Y.set i o) := ⟨by rw [List.length_set]; exact Nat.le_refl _, fun j hj hne => List.getElem?_set_ne (fun e => hne (by rw [e]))⟩
theorem Sep.put {h Y : Hp} {L L' : List Pc} (s : Sep h Y L) {i : Nat} {o' : AObj} (u : SetC L i o' L') : Sep h (Y.set i o') L' := by
  obtain ⟨k, o, h1, h2⟩ := u.p
  have hi : i < Y.length := (pcC i o).lt rfl (s.all _ (List.mem_of_getElem? h1))
  rw [h2]
  refine s.turn h1 oth_set ?_ (fun j hj => .inl hj)
  show (Y.set i o')[i]? = some o'
  exact List.getElem?_set_self hi
instance [s : Sep h Y L] {o' : AObj} [u : SetC L i o' L'] : Sep h (Y.set i o') L' := s.put u
theorem Sep.own {h Y : Hp} {L : List Pc} (s : Sep h Y L) (k : Nat) {α : Type} {enc : α → List AV} {q : Nat} {e : TypeId} {z : AV} {l : List α} (hk : L[k]? = some (pcW enc q e z l)) : Own enc q e Y z l := s.all _ (List.mem_of_getElem? hk)
/-- Appended to. -/
theorem Sep.app {h Y : Hp} {L : List Pc} (s : Sep h Y L) (k : Nat) {α : Type} {enc : α → List AV} {q : Nat} {e : TypeId} {z u : AV} {l l2 : List α} (hk : L[k]? = some (pcW enc q e z l)) {P : Program} {t : TypeId} (hE : EncOk enc q) (hu : CS P t e q) (he : CE P e q) (hS : Elts enc q Y u l2) (hlen : l.length + l2.length ≤ 1099511627776) :
    ∃ z' Y', app P Y [t, t] z u = some (z', Y') ∧ Sep h Y' (L.set k (pcW enc q e z' (l ++ l2))) ∧ Oth (objOf z) Y Y' := by
  obtain ⟨z', Y', e1, e2, e3, e4, _⟩ := app_own' hE hu.p he.p (s.own k hk) hS hlen
  exact ⟨z', Y', e1, s.turn hk e3 e2 e4, e3⟩
theorem Sep.addNil {h Y : Hp} {L : List Pc} (s : Sep h Y L) {α : Type} (enc : α → List AV) (q : Nat) (e : TypeId) : Sep h Y (L ++ [pcW enc q e (.v (.slice none 0 0)) []]) := by
  refine ⟨s.ext, ?_, ?_, List.pairwise_append.2 ⟨s.dis, by simp, ?_⟩⟩
  · intro p hp
    rcases List.mem_append.1 hp with hp | hp
    · exact s.all p hp
    · simp only [List.mem_singleton] at hp; subst hp; exact .inl ⟨rfl, rfl⟩
  · intro p hp i hi
    rcases List.mem_append.1 hp with hp | hp
    · exact s.low p hp i hi
    · simp only [List.mem_singleton] at hp; subst hp; cases hi
  · intro p hp q hq i hi hqi
    simp only [List.mem_singleton] at hq; subst hq; cases hqi
instance [s : Sep h Y L] : Sep h (Y ++ [o]) (L ++ [pcC Y.length o]) := s.push o
end

/-! ### Ranges over functions -/
section
variable {P : Program} {ops : Array Oper} {d : Option Tmp} {ty : TypeId} {pos : String} {aft : Array Edge} {gd : Option (Nat × Bool)} {rest : List Oper} {N : Fr → Hp → Prop} {l : List AV} {ds : List Nat} {h : Hp} {X : OrdX} {pd : List (Nat × Nat)} {gone : List Nat} {ii : Nat} {m : Nat} {ro : Option Nat} {K : Exit → Fr → Hp → Prop} {f : Fr}
theorem sY {op : Op} {i : Nat} {args : List AV} (hc : AYld P i args h (fun r' h' => wkO P ops rest N (Fr.put ⟨l, ds⟩ d r') h')) (hw : wantA ops ⟨l, ds⟩ ⟨d, op, ty, pos, aft, gd⟩ = true := by rfl) (hx : yldOf ⟨l, ds⟩ op = some (i, args) := by rfl) : wkO P ops (⟨d, op, ty, pos, aft, gd⟩ :: rest) N ⟨l, ds⟩ h := by
  show (if _ then _ else _)
  rw [if_pos hw]; exact .inr (.inr (.inr (.inl ⟨i, args, hx, hc⟩)))
theorem AYld.mono {i : Nat} {args : List AV} {N N' : AV → Hp → Prop} (hc : AYld P i args h N) (hn : ∀ r h', h.length ≤ h'.length → N r h' → N' r h') : AYld P i args h N' := by
  obtain ⟨st, pe, tm, ps, asg, bd, d, h1, h2, h3⟩ := hc
  refine ⟨st, pe, tm, ps, asg, bd, d, h1, h2, fun fn ρ w H hs => ?_⟩
  exact (h3 fn ρ w H hs).mono fun _ _ hp => hp.mono fun r h' hl _ => hn r h' hl
theorem s_range {g : Operand} {ps : Array Tmp} {asg bd : Code} {gf : FuncId} {cs : List AV}
    (hc : ACalls P gf (.yld (h.length + 1) :: cs) (h ++ [.dfr, .loop .ready none l ps asg bd h.length]) (fun _ h' => behA P m (h.length + 1) K ⟨l, h.length :: ds⟩ h')) (hg : evS l g = some (.fn (.func gf) cs) := by rfl) (ok : CO P gf := by infer_instance) :
    wk P m none (.rangeFunc g ps asg bd) K ⟨l, ds⟩ h := by
  refine aw_range (f := ⟨l, ds⟩) (e_any hg) ok.p ?_
  rw [List.append_assoc]
  exact hc
theorem beh_n {i : Nat} {tm : List AV} {ps : Array Tmp} {asg bd : Code} {d : Nat} {st : LoopState} (hk : K .normal f (h.set i .gone)) (a : HA h i (.loop st none tm ps asg bd d)) (hst : (st == .busy) = false) : behA P m i K f h := ⟨st, none, tm, ps, asg, bd, d, a.p, hst, hk⟩
theorem resAll_ds (P : Program) (h : Hp) (l : List AV) (a b : List Nat) : ∀ rs, resAll P ⟨l, a⟩ h rs = resAll P ⟨l, b⟩ h rs
  | [] => rfl
  | r :: rs => by
    have e : resOne P ⟨l, a⟩ h r = resOne P ⟨l, b⟩ h r := by cases r <;> rfl
    simp only [resAll, e, resAll_ds P h l a b rs]
theorem rk_dfr {fn : Func} {N : AV → Hp → Prop} {d : Nat} (hk : RK P fn N .ret ⟨l, ds⟩ (h.set d .gone)) (a : HA h d .dfr) : RK P fn N .ret ⟨l, d :: ds⟩ h := by
  obtain ⟨h', r, h1, h2, h3⟩ := hk
  refine ⟨h', r, ?_, by rw [resA, resAll_ds P h' l (d :: ds) ds]; exact h2, h3⟩
  show (match h[d]? with | some .dfr => dropAll (h.set d .gone) ds | _ => none) = _
  rw [a.p]; exact h1
theorem ayld_at {i : Nat} {args : List AV} {N : AV → Hp → Prop} {st : LoopState} {pe : Option Code} {tm : List AV} {ps : Array Tmp} {asg bd : Code} {d : Nat} (hm : P.follows .mixedOrders = true) (a : HA h i (.loop st pe tm ps asg bd d)) (hl : args.length = ps.size)
    (hk : wk P h.length (some i) asg (asgK P h.length i bd N) ⟨setAll tm (ps.toList.zip args), []⟩ h) : AYld P i args h N := ayld_of_aw a.p hl (wk_ok hm _ _ _ _ hk)
theorem ayld_at2 {i : Nat} {v v2 : AV} {N : AV → Hp → Prop} {st : LoopState} {pe : Option Code} {tm : List AV} {p p2 : Tmp} {asg bd : Code} {d : Nat} (hm : P.follows .mixedOrders = true) (a : HA h i (.loop st pe tm #[p, p2] asg bd d))
    (hk : wk P h.length (some i) asg (asgK P h.length i bd N) ⟨(tm.set p v).set p2 v2, []⟩ h) : AYld P i [v, v2] h N := ayld_at hm a rfl hk
theorem asg_n (hm : P.follows .mixedOrders = true) {i : Nat} {bd : Code} {N : AV → Hp → Prop} {pe : Option Code} {tm : List AV} {ps : Array Tmp} {asg bd' : Code} {d : Nat} (a : HA h i (.loop .ready pe tm ps asg bd' d)) (hk : wk P m (some i) bd (roundK i N) f (h.set i (.loop .busy pe tm ps asg bd' d))) : asgK P m i bd N .normal f h :=
  ⟨_, by unfold begA; rw [a.p], wk_ok hm _ _ _ _ hk⟩
theorem rnd_n {i : Nat} {N : AV → Hp → Prop} {st : LoopState} {pe : Option Code} {tm : List AV} {ps : Array Tmp} {asg bd : Code} {d : Nat} (a : HA h i (.loop st pe tm ps asg bd d)) (hk : N (.v (.bool true)) (h.set i (.loop .ready none tm ps asg bd d))) : roundK i N .normal f h := ⟨_, by unfold endA; rw [a.p]; rfl, hk⟩
end

/-! ### Appended to, as a step -/
section
variable {P : Program} {ops : Array Oper} {d : Option Tmp} {ty : TypeId} {pos : String} {aft : Array Edge} {gd : Option (Nat × Bool)} {rest : List Oper} {N : Fr → Hp → Prop} {l : List AV} {ds : List Nat} {h0 Y : Hp} {X : OrdX} {pd : List (Nat × Nat)} {gone : List Nat} {ii : Nat} {L : List Pc} {α : Type} {enc : α → List AV} {q : Nat} {e : TypeId} {z u : AV} {ks l2 : List α} {t : TypeId} {a b : Operand}
theorem s_app (k : Nat) (hk : ∀ z' Y', Sep h0 Y' (L.set k (pcW enc q e z' (ks ++ l2))) → Oth (objOf z) Y Y' → wkO P ops rest N (Fr.put ⟨l, ds⟩ d z') Y') (s : Sep h0 Y L) (hp : L[k]? = some (pcW enc q e z ks)) (hE : EncOk enc q) (hS : Elts enc q Y u l2) (hlen : ks.length + l2.length ≤ 1099511627776) (hu : CS P t e q) (he : CE P e q)
    (hw : wantA ops ⟨l, ds⟩ ⟨d, .call ⟨.builtin .append, #[a, b], #[t, t]⟩, ty, pos, aft, gd⟩ = true := by rfl) (ha : evS l a = some z := by rfl) (hb : evS l b = some u := by rfl) : wkO P ops (⟨d, .call ⟨.builtin .append, #[a, b], #[t, t]⟩, ty, pos, aft, gd⟩ :: rest) N ⟨l, ds⟩ Y := by
  obtain ⟨z', Y', e1, e2, e3⟩ := s.app k hp hE hu he hS hlen
  exact s_gH hw (x_app (e_any ha) (e_any hb) e1) (hk z' Y' e2 e3)
end
end Go.Az
/-
  Pieces of memory: joined, and read as lists without a word. Conditions: stated at each theorem.
-/
set_option linter.unusedSimpArgs false
set_option linter.unusedVariables false
namespace Go.Az
open Go Go.Chz
theorem Sep.join {h X Y : Hp} {L L2 : List Pc} (s : Sep h X L) (t : Sep X Y L2) : Sep h Y (L ++ L2) := by
  have m := s.more t.ext
  refine ⟨m.ext, fun p hp => ?_, fun p hp i hi => ?_, List.pairwise_append.2 ⟨s.dis, t.dis, fun p hp q hq i hi hqi => ?_⟩⟩
  · rcases List.mem_append.1 hp with hp | hp
    · exact m.all p hp
    · exact t.all p hp
  · rcases List.mem_append.1 hp with hp | hp
    · exact s.low p hp i hi
    · exact Nat.le_trans s.ext.1 (t.low p hp i hi)
  · have h1 := p.lt hi (s.all p hp)
    have h2 := t.low q hq i hqi
    omega
class EncC {α : Type} (enc : α → List AV) (q : outParam Nat) (d : outParam α) : Prop where
  ok : EncOk enc q
instance {k : IntKind} : EncC (encI k) 1 0 := ⟨encI_ok k⟩
class MemW (α : outParam Type) (L : List Pc) (z : AV) (enc : outParam (α → List AV)) (q : outParam Nat) (e : outParam TypeId) (l : outParam (List α)) : Prop where
  p : pcW enc q e z l ∈ L
/-- A list that lies in memory before the call, or in a piece. -/
class EP (α : outParam Type) (enc : outParam (α → List AV)) (q : outParam Nat) (d : outParam α) (h : Hp) (L : List Pc) (s : AV) (l : outParam (List α)) : Prop where
  ok : EncOk enc q
  p : Elts enc q h s l ∨ ∃ e, pcW enc q e s l ∈ L
instance (priority := 100) {α : Type} {enc : α → List AV} {q : Nat} {d : α} {h : Hp} {L : List Pc} {s : AV} {l : List α} [x : EL α enc q d h s l] : EP α enc q d h L s l := ⟨x.ok, .inl x.p⟩
instance {α : Type} {enc : α → List AV} {q : Nat} {d : α} {e : TypeId} {h : Hp} {L : List Pc} {s : AV} {l : List α} [c : EncC enc q d] : EP α enc q d h (pcW enc q e s l :: L) s l := ⟨c.ok, .inr ⟨e, by simp⟩⟩
instance (priority := 500) {α : Type} {enc : α → List AV} {q : Nat} {d : α} {h : Hp} {L : List Pc} {p : Pc} {s : AV} {l : List α} [x : EP α enc q d h L s l] : EP α enc q d h (p :: L) s l := ⟨x.ok, x.p.imp_right fun ⟨e, he⟩ => ⟨e, List.mem_cons_of_mem _ he⟩⟩
instance (priority := 500) {α : Type} {enc : α → List AV} {q : Nat} {d : α} {h : Hp} {L E : List Pc} {s : AV} {l : List α} [x : EP α enc q d h L s l] : EP α enc q d h (E ++ L) s l := ⟨x.ok, x.p.imp_right fun ⟨e, he⟩ => ⟨e, List.mem_append_right _ he⟩⟩
instance (priority := 500) {α : Type} {enc : α → List AV} {q : Nat} {d : α} {h : Hp} {L E : List Pc} {s : AV} {l : List α} [x : EP α enc q d h L s l] : EP α enc q d h (L ++ E) s l := ⟨x.ok, x.p.imp_right fun ⟨e, he⟩ => ⟨e, List.mem_append_left _ he⟩⟩
instance (priority := low) {α : Type} {enc : α → List AV} {q : Nat} {d : α} {h Y : Hp} {L : List Pc} {z : AV} {l : List α} [s : Sep h Y L] [x : EP α enc q d h L z l] : EL α enc q d Y z l := ⟨x.ok, by
  rcases x.p with h1 | ⟨e, h1⟩
  · exact h1.ext s.ext
  · exact Own.elts (s.all _ h1)⟩
instance (priority := low) {i : Nat} {o' : AObj} {L L' E : List Pc} [x : SetC L i o' L'] : SetC (E ++ L) i o' (E ++ L') := ⟨by
  obtain ⟨k, o, h1, h2⟩ := x.p
  exact ⟨E.length + k, o, by rw [List.getElem?_append_right (by omega), show E.length + k - E.length = k by omega]; exact h1, by rw [h2, List.set_append_right _ _ (by omega), show E.length + k - E.length = k by omega]⟩⟩
theorem Elts.sl {α : Type} {enc : α → List AV} {q : Nat} {h : Hp} {s : AV} {l : List α} (x : Elts enc q h s l) : SlC s := by
  rcases x with ⟨rfl, _⟩ | ⟨i, o, c, u, cs, t, ow, rfl, _⟩
  · exact ⟨.inl rfl⟩
  · exact ⟨.inr ⟨_, _, _, _, _, rfl⟩⟩
theorem Own.sl {α : Type} {enc : α → List AV} {q : Nat} {e : TypeId} {h : Hp} {s : AV} {l : List α} (x : Own enc q e h s l) : SlC s := x.elts.sl
theorem Sep.sl {h Y : Hp} {L : List Pc} (s : Sep h Y L) (k : Nat) {α : Type} {enc : α → List AV} {q : Nat} {e : TypeId} {z : AV} {l : List α} (hk : L[k]? = some (pcW enc q e z l)) : SlC z := (s.own k hk).sl
theorem Sep.perm {h Y : Hp} {L L' : List Pc} (s : Sep h Y L) (hp : L.Perm L') : Sep h Y L' :=
  ⟨s.ext, fun p hq => s.all p (hp.mem_iff.2 hq), fun p hq => s.low p (hp.mem_iff.2 hq), s.dis.perm hp fun {p q} hh i hi hqi => hh i hqi hi⟩
theorem Sep.pushL {h Y : Hp} {L : List Pc} (s : Sep h Y L) (os : List AObj) : Sep h (Y ++ os) (L ++ litP Y.length os) := s.join (Sep.lits Y os)
/-- A piece is taken out of the others. -/
class TakeW (α : outParam Type) (L : List Pc) (z : AV) (enc : outParam (α → List AV)) (q : outParam Nat) (e : outParam TypeId) (l : outParam (List α)) (L' : outParam (List Pc)) : Prop where
  p : L.Perm (pcW enc q e z l :: L')
theorem Sep.take {h Y : Hp} {L L' : List Pc} {α : Type} {enc : α → List AV} {q : Nat} {e : TypeId} {z : AV} {l : List α} (s : Sep h Y L) (t : TakeW α L z enc q e l L') : Sep h Y (pcW enc q e z l :: L') := s.perm t.p
instance {h Y : Hp} {L : List Pc} {o0 o1 o2 o3 : AObj} [s : Sep h Y L] : Sep h (Y ++ [o0, o1, o2, o3]) (L ++ [pcC Y.length o0, pcC (Y.length + 1) o1, pcC (Y.length + 2) o2, pcC (Y.length + 3) o3]) := s.pushL [o0, o1, o2, o3]
end Go.Az
/-
  Elements of pieces are set; slices are made. Conditions: stated at each theorem.
-/
set_option linter.unusedSimpArgs false
set_option linter.unusedVariables false
namespace Go.Az
open Go Go.Chz
theorem setMany_1 {cs : List AV} {p : Nat} {v : AV} (h : p < cs.length) : setMany cs p [v] = cs.set p v := by
  refine List.ext_getElem? fun j => ?_
  rw [setMany_get (by simp only [List.length_singleton]; omega), List.getElem?_set]
  simp only [List.length_singleton]
  by_cases h1 : j < p
  · rw [if_pos h1, if_neg (by omega)]
  · rw [if_neg h1]
    by_cases h2 : j < p + 1
    · have : j = p := by omega
      subst this
      rw [if_pos h2, if_pos rfl, if_pos h]; simp
    · rw [if_neg h2, if_neg (by omega)]
section
variable {α : Type} {enc : α → List AV} {q : Nat} {e : TypeId} {z : AV} {l : List α} {h0 Y : Hp} {L : List Pc}
/-- An element of a piece is set. -/
theorem Sep.elt (S : Sep h0 Y L) (k : Nat) (hp : L[k]? = some (pcW enc q e z l)) (hE : EncOk enc q) {n off : Nat} (hn : n < l.length) (d : α) {vs : List AV} (y : α) (hy : setMany (enc (l.getD n d)) off vs = enc y) (hv : off + vs.length ≤ q) :
    ∃ i p cs, elP z q n = .ptr i (p - off) ∧ elF z q n off = .ptr i p ∧ off ≤ p ∧ Y[i]? = some (.cells cs e true) ∧ p + vs.length ≤ cs.length ∧ Sep h0 (Y.set i (.cells (setMany cs p vs) e true)) (L.set k (pcW enc q e z (l.set n y))) := by
  obtain ⟨i, o, cs, ⟨c, u, hz⟩, g1, g2, g3, g4⟩ := set_own (e := e) hE (S.own k hp) hn d hy hv
  refine ⟨i, o + n * q + off, cs, ?_, ?_, by omega, g1, g2, S.turn hp g4 g3 (fun j hj => .inl hj)⟩
  · rw [hz, elP_sl, Int.toNat_natCast]; congr 1; omega
  · rw [hz, elF_sl, Int.toNat_natCast]
end
section
variable {P : Program} {ops : Array Oper} {dd : Option Tmp} {ty : TypeId} {pos : String} {aft : Array Edge} {gd : Option (Nat × Bool)} {rest : List Oper} {N : Fr → Hp → Prop} {fl : List AV} {ds : List Nat} {h0 Y : Hp} {X : OrdX} {pd : List (Nat × Nat)} {gone : List Nat} {ii : Nat} {L : List Pc} {α : Type} {enc : α → List AV} {q : Nat} {e : TypeId} {z v : AV} {l : List α} {t : TypeId} {a b : Operand} {x : Int} {vs : List AV}
/-- A number, truth value or slice is stored into a list's element (of one cell). -/
theorem s_stE (k : Nat) (y : α) (d : α) (hk : ∀ Y', Sep h0 Y' (L.set k (pcW enc 1 e z (l.set x.toNat y))) → wkO P ops rest N (Fr.put ⟨fl, ds⟩ dd (.v undef)) Y') (S : Sep h0 Y L) (hp : L[k]? = some (pcW enc 1 e z l)) (hE : EncOk enc 1) (hs : C1 P t) (hx0 : 0 ≤ x) (hx1 : x < l.length) (hy : (enc (l.getD x.toNat d)).set 0 v = enc y) (hv : PlC v)
    (hw : wantA ops ⟨fl, ds⟩ ⟨dd, .store t a b, ty, pos, aft, gd⟩ = true := by rfl) (ha : evS fl a = some (elP z 1 x) := by rfl) (hb : evS fl b = some v := by rfl) : wkO P ops (⟨dd, .store t a b, ty, pos, aft, gd⟩ :: rest) N ⟨fl, ds⟩ Y := by
  have hx : ((x.toNat : Nat) : Int) = x := Int.toNat_of_nonneg hx0
  have hl : (enc (l.getD x.toNat d)).length = 1 := (hE _).1
  obtain ⟨i, p, cs, e1, e2, e0, e3, e4, e5⟩ := S.elt k hp hE (n := x.toNat) (off := 0) (by omega) d (vs := [v]) y (by rw [setMany_1 (by omega)]; exact hy) (by simp)
  rw [hx, Nat.sub_zero] at e1
  simp only [List.length_singleton] at e4
  rw [setMany_1 (by omega)] at e5
  exact s_gH hw (x_store1 hs.p ((e_any ha).trans e1) (e_any hb) hv.p e3 (by omega)) (hk _ e5)
end
/-! ### Slices are made -/
def mkOf (P : Program) (t : TypeId) : Option (TypeId × List AV × Nat) := match P.underlying t with
  | some (.slice e) => match tab P e with
    | some x => if (Nat.blt 0 x.size && Nat.beq x.zc.length x.size) = true then some (e, x.zc.map .v, x.bytes) else none
    | none => none
  | _ => none
class CM (P : Program) (t : TypeId) (e : outParam TypeId) (zs : outParam (List AV)) (by' : outParam Nat) : Prop where
  p : mkOf P t = some (e, zs, by')
theorem zrow_flat {α : Type} {enc : α → List AV} (x : TI) (d : α) (hz : x.zc.map AV.v = enc d) (hs : 0 < x.size) (hl : x.zc.length = x.size) : ∀ n, zrow x (n * x.size) = (List.replicate n d).flatMap enc
  | 0 => by simp [zrow]
  | n + 1 => by
    have ih := zrow_flat x d hz hs hl n
    rw [List.replicate_succ', List.flatMap_append, ← ih, Nat.succ_mul]
    simp only [zrow, List.range_add, List.map_append, List.map_map, List.flatMap_singleton, List.flatMap_cons, List.flatMap_nil, List.append_nil]
    congr 1
    rw [← hz]
    refine List.ext_getElem? fun j => ?_
    by_cases hj : j < x.size
    · rw [List.getElem?_map, List.getElem?_range hj, List.getElem?_map, List.getElem?_eq_getElem (by omega)]
      simp only [Option.map_some, Function.comp]
      rw [Nat.add_comm, Nat.add_mul_mod_self_right, Nat.mod_eq_of_lt hj, List.getD_eq_getElem?_getD, List.getElem?_eq_getElem (by omega)]
      rfl
    · rw [List.getElem?_eq_none (by simp; omega), List.getElem?_eq_none (by simp; omega)]
theorem x_mks {P : Program} {t e : TypeId} {zs : List AV} {by' : Nat} {f : Fr} {h : Hp} {a b : Operand} {n : Int} {k k' : IntKind} {α : Type} {enc : α → List AV} (d : α) (hu : mkOf P t = some (e, zs, by')) (hd : zs = enc d) (ha : ev f a = .v (.int k n)) (hb : ev f b = .v (.int k' n)) (h0 : 0 ≤ n) (h1 : n ≤ 1000000) (h2 : by' ≤ 1000) :
    exH P f h (.makeSlice t a b) = some (.sl h.length 0 n.toNat n.toNat false, h ++ [.cells ((List.replicate n.toNat d).flatMap enc) e true]) := by
  simp only [mkOf] at hu
  cases hx : P.underlying t with
  | none => simp only [hx] at hu; cases hu
  | some dsc =>
    simp only [hx] at hu
    cases dsc with
    | slice e0 =>
      simp only [] at hu
      cases ht : tab P e0 with
      | none => simp only [ht] at hu; cases hu
      | some x =>
        simp only [ht] at hu
        split at hu
        · rename_i hc
          simp only [Bool.and_eq_true, Nat.blt_eq, Nat.beq_eq] at hc
          injection hu with hu
          injection hu with he hu
          injection hu with hz hb'
          subst he hb'
          simp only [exH, ha, hb, msl, hx, intOf?, ht]
          have hbn : (x.bytes : Int) * n ≤ 281474976710656 := by
            have : (x.bytes : Int) * n ≤ 1000 * 1000000 := Int.mul_le_mul (by omega) (by omega) h0 (by omega)
            omega
          rw [if_pos ⟨h0, Int.le_refl _, by omega, hbn, hc.1⟩, zrow_flat x d (hz.trans hd) hc.1 hc.2]
        · cases hu
    | _ => simp only [] at hu; cases hu
section
variable {P : Program} {ops : Array Oper} {dd : Option Tmp} {ty : TypeId} {pos : String} {aft : Array Edge} {gd : Option (Nat × Bool)} {rest : List Oper} {N : Fr → Hp → Prop} {fl : List AV} {ds : List Nat} {h0 Y : Hp} {X : OrdX} {pd : List (Nat × Nat)} {gone : List Nat} {ii : Nat} {L : List Pc} {α : Type} {q : Nat} {e : TypeId} {t : TypeId} {a b : Operand} {n : Int} {zs : List AV} {by' : Nat} {k k' : IntKind}
theorem Sep.made (S : Sep h0 Y L) (enc : α → List AV) (hE : EncOk enc q) (d : α) (n : Nat) : Sep h0 (Y ++ [.cells ((List.replicate n d).flatMap enc) e true]) (L ++ [pcW enc q e (.sl Y.length 0 n n false) (List.replicate n d)]) := by
  refine S.join ⟨ext_app _ _, ?_, ?_, by simp⟩
  · intro p hp
    rw [List.mem_singleton.1 hp]
    refine .inr ⟨Y.length, 0, n, false, (List.replicate n d).flatMap enc, by simp, by simp, ?_, ?_, (fun h => by cases h), fun _ => ?_⟩
    · rw [flat_len hE]; simp
    · rw [List.drop_zero, List.take_of_length_le (by rw [flat_len hE]; simp)]
    · rw [flat_len hE]; simp
  · intro p hp i hi
    rw [List.mem_singleton.1 hp] at hi
    injection hi with hi; omega
theorem s_mks (enc : α → List AV) (d : α) (hk : ∀ z Y', SlC z → Sep h0 Y' (L ++ [pcW enc q e z (List.replicate n.toNat d)]) → wkO P ops rest N (Fr.put ⟨fl, ds⟩ dd z) Y') (S : Sep h0 Y L) (hE : EncOk enc q) (hu : CM P t e zs by') (hd : zs = enc d) (h0' : 0 ≤ n) (h1 : n ≤ 1000000) (h2 : by' ≤ 1000)
    (hw : wantA ops ⟨fl, ds⟩ ⟨dd, .makeSlice t a b, ty, pos, aft, gd⟩ = true := by rfl) (ha : evS fl a = some (.v (.int k n)) := by rfl) (hb : evS fl b = some (.v (.int k' n)) := by rfl) : wkO P ops (⟨dd, .makeSlice t a b, ty, pos, aft, gd⟩ :: rest) N ⟨fl, ds⟩ Y :=
  s_gH hw (x_mks d hu.p hd (e_any ha) (e_any hb) h0' h1 h2) (hk _ _ inferInstance (S.made enc hE d _))
end
/-! ### Pieces are brought into order -/
class TakeP (L : List Pc) (p : Pc) (L' : outParam (List Pc)) : Prop where
  p : L.Perm (p :: L')
class TakeC (L : List Pc) (i : Nat) (o : outParam AObj) (L' : outParam (List Pc)) : Prop where
  p : L.Perm (pcC i o :: L')
section
variable {h Y : Hp} {L L1 L2 L3 L4 L5 L6 : List Pc} {p1 p2 p3 p4 p5 p6 : Pc}
end
end Go.Az
/-
  Appended to a new, empty slice. Conditions: stated at each theorem.
-/
set_option linter.unusedSimpArgs false
set_option linter.unusedVariables false
namespace Go.Az
open Go Go.Chz
/-! ### Appended to a new, empty slice -/
section
variable {P : Program} {ops : Array Oper} {dd : Option Tmp} {ty : TypeId} {pos : String} {aft : Array Edge} {gd : Option (Nat × Bool)} {rest : List Oper} {N : Fr → Hp → Prop} {fl : List AV} {ds : List Nat} {h0 Y : Hp} {X : OrdX} {pd : List (Nat × Nat)} {gone : List Nat} {ii : Nat} {L L' : List Pc} {α : Type} {enc : α → List AV} {q : Nat} {e : TypeId} {u : AV} {l2 : List α} {t : TypeId} {a b : Operand} {i : Nat}
end
end Go.Az
/-
  Maps whose keys are numbers. Conditions: stated at each theorem.
-/
set_option linter.unusedSimpArgs false
set_option linter.unusedVariables false
namespace Go.Az
open Go Go.Chz
def imE : List (Int × AV) → Nat → List (Value × AV × Nat)
  | [], _ => []
  | e :: r, j => (.int .i64 e.1, e.2, j) :: imE r (j + 1)
/-- A map with these entries, in the order in which they came. -/
def mpO (m : List (Int × AV)) : AObj := .map (imE m 0) m.length
def imGet : List (Int × AV) → Int → Option AV
  | [], _ => none
  | e :: r, k => if k = e.1 then some e.2 else imGet r k
def imSet : List (Int × AV) → Int → AV → List (Int × AV)
  | [], k, v => [(k, v)]
  | e :: r, k, v => if k = e.1 then (k, v) :: r else e :: imSet r k v
theorem same_i (a b : Int) : Instr.sameNow (.int .i64) (.int .i64 a) (.int .i64 b) = some (decide (a = b)) := by
  have : (a == b) = decide (a = b) := rfl
  simp only [Instr.sameNow, if_true, this]
theorem mfind_i (k : Int) : ∀ (m : List (Int × AV)) (j : Nat), mfind (.int .i64) (.int .i64 k) (imE m j) = some (imGet m k)
  | [], j => rfl
  | e :: r, j => by
    rw [imE, mfind, same_i, imGet]
    by_cases h : k = e.1
    · rw [if_pos h, decide_eq_true h]
    · rw [if_neg h, decide_eq_false h]; exact mfind_i k r (j + 1)
theorem imE_app : ∀ (m l : List (Int × AV)) (j : Nat), imE (m ++ l) j = imE m j ++ imE l (j + m.length)
  | [], l, j => by simp [imE]
  | e :: r, l, j => by
    rw [List.cons_append, imE, imE, imE_app r l (j + 1), List.cons_append, List.length_cons, show j + 1 + r.length = j + (r.length + 1) by omega]
/-- The number of a key's entry. -/
def imIdx : List (Int × AV) → Int → Nat → Option Nat
  | [], _, _ => none
  | e :: r, k, i => if k = e.1 then some i else imIdx r k (i + 1)
theorem midx_i (k : Int) : ∀ (m : List (Int × AV)) (j i : Nat), midx (.int .i64) (.int .i64 k) (imE m j) i = some (imIdx m k i)
  | [], j, i => rfl
  | e :: r, j, i => by
    rw [imE, midx, same_i, imIdx]
    by_cases h : k = e.1
    · rw [if_pos h, decide_eq_true h]
    · rw [if_neg h, decide_eq_false h]; exact midx_i k r (j + 1) (i + 1)
theorem mset_cons (a b : Value × AV × Nat) (es : List (Value × AV × Nat)) (i : Nat) (k : Value) (v : AV) : mset (a :: es) (i + 1) k v = a :: mset es i k v := by
  unfold mset
  simp only [List.getElem?_cons_succ]
  cases es[i]? <;> rfl
theorem imSet_some (k : Int) (v : AV) : ∀ (m : List (Int × AV)) (j i i' : Nat), imIdx m k i = some i' → i ≤ i' ∧ mset (imE m j) (i' - i) (.int .i64 k) v = imE (imSet m k v) j ∧ (imSet m k v).length = m.length
  | [], j, i, i', h => by simp [imIdx] at h
  | e :: r, j, i, i', h => by
    rw [imIdx] at h
    by_cases hk : k = e.1
    · rw [if_pos hk] at h
      injection h with h
      subst h
      rw [Nat.sub_self, imE, imSet, if_pos hk, imE]
      exact ⟨Nat.le_refl _, rfl, rfl⟩
    · rw [if_neg hk] at h
      obtain ⟨h1, h2, h3⟩ := imSet_some k v r (j + 1) (i + 1) i' h
      refine ⟨by omega, ?_, by rw [imSet, if_neg hk, List.length_cons, List.length_cons, h3]⟩
      rw [show i' - i = (i' - (i + 1)) + 1 by omega, imE, mset_cons _ (.int .i64 0, v, 0), h2, imSet, if_neg hk, imE]
theorem imSet_none (k : Int) (v : AV) : ∀ (m : List (Int × AV)) (i : Nat), imIdx m k i = none → imSet m k v = m ++ [(k, v)]
  | [], i, _ => rfl
  | e :: r, i, h => by
    rw [imIdx] at h
    by_cases hk : k = e.1
    · rw [if_pos hk] at h; cases h
    · rw [if_neg hk] at h
      rw [imSet, if_neg hk, imSet_none k v r (i + 1) h]; rfl
class CMP (P : Program) (t : TypeId) (z : outParam AV) : Prop where
  p : ∃ kt et x, P.underlying t = some (.map kt et) ∧ P.underlying kt = some (.int .i64) ∧ tab P et = some x ∧ zAV x = z
def cmpOf (P : Program) (t : TypeId) : Option AV := match P.underlying t with
  | some (.map kt et) => match P.underlying kt with
    | some (.int .i64) => match tab P et with
      | some x => some (zAV x)
      | none => none
    | _ => none
  | _ => none
theorem cmp_of {P : Program} {t : TypeId} {z : AV} (h : cmpOf P t = some z) : CMP P t z := by
  unfold cmpOf at h
  split at h
  · rename_i kt et h1
    split at h
    · rename_i h2
      split at h
      · rename_i x h3
        exact ⟨kt, et, x, h1, h2, h3, by injection h⟩
      · cases h
    · cases h
  · cases h
section
variable {P : Program} {t : TypeId} {z : AV} {h : Hp} {i : Nat} {k : Int} {v : AV} {m : List (Int × AV)} {ok : Bool}
theorem lkp_i (hu : CMP P t z) (hi : h[i]? = some (mpO m)) : lkp P h t (.mp i) (.v (.int .i64 k)) ok = some (okd ok ((imGet m k).getD z) (imGet m k).isSome) := by
  obtain ⟨kt, et, x, h1, h2, h3, h4⟩ := hu.p
  unfold lkp
  simp only [h1, hi, mpO, h2, h3, show keyD (.int .i64) = true from rfl, if_true, mfind_i]
  cases imGet m k with
  | none => simp only [h4]; rfl
  | some w => rfl
theorem mpu_i (hu : CMP P t z) (hi : h[i]? = some (mpO m)) : mpu P h t (.mp i) (.v (.int .i64 k)) v = some (h.set i (mpO (imSet m k v))) := by
  obtain ⟨kt, et, x, h1, h2, h3, h4⟩ := hu.p
  unfold mpu
  simp only [h1, hi, mpO, h2, show keyD (.int .i64) = true from rfl, if_true, midx_i]
  cases hx : imIdx m k 0 with
  | none =>
    have := imSet_none k v m 0 hx
    simp only [this, imE_app, List.length_append, List.length_singleton, Nat.zero_add]
    rfl
  | some j =>
    obtain ⟨_, a2, a3⟩ := imSet_some k v m 0 0 j hx
    rw [Nat.sub_zero] at a2
    simp only [a2, a3]
end
section
variable {P : Program} {ops : Array Oper} {d : Option Tmp} {ty : TypeId} {pos : String} {aft : Array Edge} {gd : Option (Nat × Bool)} {rest : List Oper} {N : Fr → Hp → Prop} {l : List AV} {ds : List Nat} {Y : Hp} {X : OrdX} {pd : List (Nat × Nat)} {gone : List Nat} {ii : Nat} {t : TypeId} {a b c : Operand} {z v : AV} {i : Nat} {k : Int} {m : List (Int × AV)} {ok bb : Bool}
/-- A map is made. -/
theorem s_mkm (hk : wkO P ops rest N (Fr.put ⟨l, ds⟩ d (.mp Y.length)) (Y ++ [mpO []])) (hw : wantA ops ⟨l, ds⟩ ⟨d, .makeMap t none, ty, pos, aft, gd⟩ = true := by rfl) : wkO P ops (⟨d, .makeMap t none, ty, pos, aft, gd⟩ :: rest) N ⟨l, ds⟩ Y :=
  s_gH hw (by rfl) hk
/-- An entry is set. -/
theorem s_mset (hu : CMP P t z) (g : HA Y i (mpO m)) (hk : wkO P ops rest N (Fr.put ⟨l, ds⟩ d (.v undef)) (Y.set i (mpO (imSet m k v)))) (hw : wantA ops ⟨l, ds⟩ ⟨d, .mapUpdate t a b c, ty, pos, aft, gd⟩ = true := by rfl) (ha : evS l a = some (.mp i) := by rfl) (hb : evS l b = some (.v (.int .i64 k)) := by rfl) (hc : evS l c = some v := by rfl) : wkO P ops (⟨d, .mapUpdate t a b c, ty, pos, aft, gd⟩ :: rest) N ⟨l, ds⟩ Y :=
  s_gH hw (by simp only [exH, e_any ha, e_any hb, e_any hc, mpu_i hu g.p]; rfl) hk
/-- A lookup. -/
theorem x_lkp {f : Fr} (hu : CMP P t z) (g : HA Y i (mpO m)) (ha : ev f a = .mp i) (hb : ev f b = .v (.int .i64 k)) : exL P f Y (.lookup t a b ok) = some (okd ok ((imGet m k).getD z) (imGet m k).isSome) := by
  simp only [exL, ha, hb, lkp_i hu g.p]
theorem s_lkp (r : Option AV) (hu : CMP P t z) (g : HA Y i (mpO m)) (hr : imGet m k = r) (hk : wkO P ops rest N (Fr.put ⟨l, ds⟩ d (okd ok (r.getD z) r.isSome)) Y) (hw : wantA ops ⟨l, ds⟩ ⟨d, .lookup t a b ok, ty, pos, aft, gd⟩ = true := by rfl) (ha : evS l a = some (.mp i) := by rfl) (hb : evS l b = some (.v (.int .i64 k)) := by rfl) : wkO P ops (⟨d, .lookup t a b ok, ty, pos, aft, gd⟩ :: rest) N ⟨l, ds⟩ Y :=
  s_gL hw (by rw [x_lkp hu g (e_any ha) (e_any hb), hr]) hk
theorem s_lkp1 (hu : CMP P t z) (g : HA Y i (mpO m)) (hr : imGet m k = some v) (hk : wkO P ops rest N (Fr.put ⟨l, ds⟩ d v) Y) (hw : wantA ops ⟨l, ds⟩ ⟨d, .lookup t a b false, ty, pos, aft, gd⟩ = true := by rfl) (ha : evS l a = some (.mp i) := by rfl) (hb : evS l b = some (.v (.int .i64 k)) := by rfl) : wkO P ops (⟨d, .lookup t a b false, ty, pos, aft, gd⟩ :: rest) N ⟨l, ds⟩ Y :=
  s_lkp (some v) hu g hr hk hw ha hb
theorem s_lkp0 (hu : CMP P t z) (g : HA Y i (mpO m)) (hr : imGet m k = none) (hk : wkO P ops rest N (Fr.put ⟨l, ds⟩ d z) Y) (hw : wantA ops ⟨l, ds⟩ ⟨d, .lookup t a b false, ty, pos, aft, gd⟩ = true := by rfl) (ha : evS l a = some (.mp i) := by rfl) (hb : evS l b = some (.v (.int .i64 k)) := by rfl) : wkO P ops (⟨d, .lookup t a b false, ty, pos, aft, gd⟩ :: rest) N ⟨l, ds⟩ Y :=
  s_lkp none hu g hr hk hw ha hb
end
/-- A literal's cells are a slice of the call's own. -/
theorem Sep.litW {α : Type} {enc : α → List AV} {q : Nat} {e : TypeId} {h Y : Hp} {L : List Pc} {i : Nat} {cs : List AV} (S : Sep h Y L) (k : Nat) (hk : L[k]? = some (pcC i (.cells cs e true))) (hE : EncOk enc q) (l : List α) (hl : cs = l.flatMap enc) : Sep h Y (L.set k (pcW enc q e (.sl i 0 l.length l.length false) l)) := by
  have hY : Y[i]? = some (.cells cs e true) := S.all _ (List.mem_of_getElem? hk)
  have hn : cs.length = l.length * q := by rw [hl, flat_len hE]
  refine S.turn hk ⟨Nat.le_refl _, fun _ _ _ => rfl⟩ (.inr ⟨i, 0, l.length, false, cs, rfl, hY, by omega, ?_, (fun h => by cases h), fun _ => ⟨Nat.le_refl _, by omega⟩⟩) (fun j hj => .inl ?_)
  · rw [List.drop_zero, List.take_of_length_le (by omega), hl]
  · simpa [pcW, pcC, objOf] using hj
end Go.Az
/-
  The first elements of a slice of the call's own. Conditions: stated at each theorem.
-/
set_option linter.unusedSimpArgs false
set_option linter.unusedVariables false
namespace Go.Az
open Go Go.Chz
theorem slc_hi {α : Type} {enc : α → List AV} {P : Program} {t e : TypeId} {H : Hp} {z : AV} {l : List α} (hE : EncOk enc 1) (hu : sliOf P t = some (e, 1)) (hO : Own enc 1 e H z l) {m : Nat} (hm : m ≤ l.length) {f : Fr} {a b : Operand} (ha : ev f a = z) (hb : ev f b = .v (.int .i64 m)) :
    ∃ z', SlC z' ∧ Elts enc 1 H z' (l.take m) ∧ exL P f H (.slice t a none (some b) none) = some z' := by
  obtain ⟨h1, inf, h2, h3⟩ := sliOf_spec hu
  rcases hO with ⟨rfl, rfl⟩ | ⟨i, o, c, u, cs, rfl, g1, g2, g3, g4, g5⟩
  · have : m = 0 := by simpa using hm
    subst this
    refine ⟨.v (.slice none 0 0), inferInstance, .inl ⟨rfl, rfl⟩, ?_⟩
    simp [exL, ha, hb, slc, h1, h2, bnds, bnd, intOf?]
  · have hmi : ((m : Nat) : Int) ≤ l.length := by omega
    have he : (cs.drop o).take (m * 1) = (l.take m).flatMap enc := by
      rw [← flat_take hE, ← g3, List.take_take, Nat.min_eq_left (by omega)]
    have hl : (l.take m).length = m := by rw [List.length_take]; omega
    have hel : ∀ c' u', Elts enc 1 H (.sl i o m c' u') (l.take m) := fun c' u' => .inr ⟨i, o, c', u', cs, e, true, by rw [hl], g1, by rw [hl]; omega, by rw [hl]; exact he⟩
    cases u
    · have g5 := g5 rfl
      have hmc : ((m : Nat) : Int) ≤ c := by omega
      refine ⟨.sl i o m c false, inferInstance, hel _ _, ?_⟩
      have hc : cutAt o 0 c inf.size = o := by unfold cutAt; split <;> simp
      simp [exL, ha, hb, slc, h1, h2, bnds, bnd, intOf?, hmc, hc]
    · obtain ⟨rfl, rfl⟩ := g4 rfl
      refine ⟨.sl i 0 m 0 true, inferInstance, hel _ _, ?_⟩
      have hc : capOk P H e i l.length 0 = true := by simp [capOk, g1, h2, h3]; omega
      simp [exL, ha, hb, slc, h1, h2, hc, ubnds, bnds, bnd, intOf?, hmi]
section
variable {P : Program} {ops : Array Oper} {d : Option Tmp} {ty : TypeId} {pos : String} {aft : Array Edge} {gd : Option (Nat × Bool)} {rest : List Oper} {N : Fr → Hp → Prop} {fl : List AV} {ds : List Nat} {Y : Hp} {t e : TypeId} {a b : Operand} {α : Type} {enc : α → List AV} {z : AV} {l : List α} {m : Nat}
/-- The first elements. -/
theorem s_sHi (d0 : α) (hk : ∀ z', SlC z' → EL α enc 1 d0 Y z' (l.take m) → wkO P ops rest N (Fr.put ⟨fl, ds⟩ d z') Y) (hE : EncOk enc 1) (hu : CS P t e 1) (hO : Own enc 1 e Y z l) (hm : m ≤ l.length)
    (hw : wantA ops ⟨fl, ds⟩ ⟨d, .slice t a none (some b) none, ty, pos, aft, gd⟩ = true := by rfl) (ha : evS fl a = some z := by rfl) (hb : evS fl b = some (.v (.int .i64 m)) := by rfl) : wkO P ops (⟨d, .slice t a none (some b) none, ty, pos, aft, gd⟩ :: rest) N ⟨fl, ds⟩ Y := by
  obtain ⟨z', h1, h2, h3⟩ := slc_hi hE hu.p hO hm (f := ⟨fl, ds⟩) (e_any ha) (e_any hb)
  exact s_gL hw h3 (hk z' h1 (mkEL hE d0 h2))
end
theorem x_neg {P : Program} {f : Fr} {h : Hp} {a : Operand} {t : TypeId} {x : Int} (ha : ev f a = .v (.int .i64 x)) (h1 : -9223372036854775807 ≤ x) (h2 : x ≤ 9223372036854775807) : exL P f h (.unOp .neg t a) = some (.v (.int .i64 (-x))) := by
  have e := wrap_i64_in (n := 0 - x) (by omega) (by omega)
  rw [Int.zero_sub] at e
  simp only [exL, ha, una, Int.zero_sub, e]
end Go.Az
/-
  Slices of a room (an array with more places), lists that can be read in all memories with some pieces, lookups that tell whether there is an entry. Conditions: stated at each theorem.
-/
set_option linter.unusedSimpArgs false
set_option linter.unusedVariables false
namespace Go.Az
open Go Go.Chz
theorem imGet_set (k : Int) (v : AV) (s : Int) : ∀ m : List (Int × AV), imGet (imSet m k v) s = if s = k then some v else imGet m s
  | [] => by simp [imSet, imGet]
  | e :: r => by
    have ih := imGet_set k v s r
    rw [imSet]
    by_cases h : k = e.1
    · rw [if_pos h, imGet]
      by_cases h2 : s = k
      · rw [if_pos h2, if_pos h2]
      · rw [if_neg h2, if_neg h2, imGet, if_neg (by omega)]
    · rw [if_neg h, imGet, ih, imGet]
      by_cases h2 : s = e.1
      · rw [if_pos h2, if_pos h2, if_neg (by omega)]
      · rw [if_neg h2, if_neg h2]
/-- A slice of a room: the first places of an array of the call's own. -/
def pcR {α : Type} (enc : α → List AV) (q : Nat) (z : AV) (l : List α) (c : Nat) : Pc where
  foot := objOf z
  ok := fun H => ∃ i cs t, z = .sl i 0 l.length c false ∧ H[i]? = some (.cells cs t true) ∧ c * q ≤ cs.length ∧ l.length ≤ c ∧ cs.take (l.length * q) = l.flatMap enc
  loc := fun x hne ⟨i, cs, t, h1, h2, h3, h4, h5⟩ => ⟨i, cs, t, h1, x.get h2 (hne i (by rw [h1]; rfl)), h3, h4, h5⟩
  lt := fun h ⟨i, cs, t, h1, h2, h3, h4, h5⟩ => by
    rw [h1] at h
    simp only [objOf, Option.some.injEq] at h
    subst h
    exact (List.getElem?_eq_some_iff.1 h2).1
theorem room_elts {α : Type} {enc : α → List AV} {q : Nat} {z : AV} {l : List α} {c : Nat} {H : Hp} (h : (pcR enc q z l c).ok H) : Elts enc q H z l := by
  obtain ⟨i, cs, t, h1, h2, h3, h4, h5⟩ := h
  exact .inr ⟨i, 0, c, false, cs, t, true, h1, h2, by have := Nat.mul_le_mul_right q h4; omega, by rw [List.drop_zero]; exact h5⟩
theorem app_room {α : Type} {enc : α → List AV} {q : Nat} {e : TypeId} {P : Program} {t : TypeId} {H : Hp} {z u : AV} {l l2 : List α} {c : Nat} (hE : EncOk enc q) (hu : sliOf P t = some (e, q)) (he : elOkQ P e q = true) (hG : (pcR enc q z l c).ok H) (hS : Elts enc q H u l2) (hc : l.length + l2.length ≤ c) (h0 : l2 ≠ []) :
    ∃ z' H', app P H [t, t] z u = some (z', H') ∧ (pcR enc q z' (l ++ l2) c).ok H' ∧ Oth (objOf z) H H' ∧ objOf z' = objOf z := by
  have hu' := sliOf_und hu
  unfold elOkQ at he
  split at he
  case h_2 => cases he
  rename_i ti inf ht hinf
  simp only [Bool.and_eq_true, Nat.beq_eq, Nat.ble_eq, Bool.not_eq_true'] at he
  obtain ⟨⟨⟨hs1, hby⟩, hi1⟩, hq0⟩ := he
  have hq : q ≠ 0 := by intro h; subst h; cases hq0
  have hsrc : srcC H q u = some (l2.length, l2.flatMap enc) := by
    rcases hS with ⟨rfl, rfl⟩ | ⟨i, o, c, u', cs, t', own, rfl, h2, h3, h4⟩
    · rfl
    · simp only [srcC, h2]
      rw [if_pos h3, h4]
  obtain ⟨i, cs, t', rfl, h2, h3, h4, h5⟩ := hG
  have hl2 : l2.length ≠ 0 := fun h => h0 (List.eq_nil_of_length_eq_zero h)
  have hcq : l.length * q + l2.length * q ≤ c * q := by rw [← Nat.add_mul]; exact Nat.mul_le_mul_right q hc
  unfold app
  simp only [ne_eq, not_true_eq_false, if_false, hu', ht, hs1, hq, hsrc, flat_one hE, Bool.true_eq_false, Nat.zero_add]
  rw [if_pos hc, if_neg hl2, h2]
  simp only []
  rw [if_pos (by omega)]
  have hcl : (setMany cs (l.length * q) (l2.flatMap enc)).length = cs.length := by
    simp only [setMany, List.length_append, List.length_take, List.length_drop, flat_len hE]; omega
  refine ⟨_, _, rfl, ⟨i, _, t', by rw [List.length_append], by rw [List.getElem?_set_self (List.getElem?_eq_some_iff.1 h2).1], by rw [hcl]; exact h3, by rw [List.length_append]; exact hc, ?_⟩, ⟨by simp, fun j hj hne => ?_⟩, rfl⟩
  · rw [List.flatMap_append, List.length_append, Nat.add_mul, ← h5]
    simp only [setMany, flat_len hE]
    rw [List.append_assoc, List.take_append, List.length_take, Nat.min_eq_left (by omega), List.take_of_length_le (by rw [List.length_take]; omega), show l.length * q + l2.length * q - l.length * q = l2.length * q by omega, List.take_left' (flat_len hE l2)]
  · rw [List.getElem?_set_ne (by intro h; subst h; exact hne rfl)]
theorem Sep.roomW {α : Type} {h Y : Hp} {L : List Pc} {i : Nat} {cs : List AV} {t : TypeId} (S : Sep h Y L) (k : Nat) (hk : L[k]? = some (pcC i (.cells cs t true))) (enc : α → List AV) (q c : Nat) (hc : c * q ≤ cs.length) : Sep h Y (L.set k (pcR enc q (.sl i 0 0 c false) [] c)) := by
  have hY : Y[i]? = some (.cells cs t true) := S.all _ (List.mem_of_getElem? hk)
  refine S.turn hk ⟨Nat.le_refl _, fun _ _ _ => rfl⟩ ⟨i, cs, t, rfl, hY, hc, Nat.zero_le _, by simp⟩ (fun j hj => .inl ?_)
  simpa [pcR, pcC, objOf] using hj
/-- A list that can be read in all memories with these pieces. -/
class ER (α : outParam Type) (enc : outParam (α → List AV)) (q : outParam Nat) (d : outParam α) (h : Hp) (L : List Pc) (s : AV) (l : outParam (List α)) : Prop where
  ok : EncOk enc q
  p : ∀ Y, Sep h Y L → Elts enc q Y s l
instance {α : Type} {enc : α → List AV} {q : Nat} {d : α} {h : Hp} {L : List Pc} {s : AV} {l : List α} {c : Nat} [x : EncC enc q d] : ER α enc q d h (pcR enc q s l c :: L) s l := ⟨x.ok, fun Y S => room_elts (c := c) (S.all _ (List.mem_cons_self ..))⟩
instance {α : Type} {enc : α → List AV} {q : Nat} {d : α} {h : Hp} {L : List Pc} {s : AV} {l : List α} {e : TypeId} [x : EncC enc q d] : ER α enc q d h (pcW enc q e s l :: L) s l := ⟨x.ok, fun Y S => Own.elts (e := e) (S.all (pcW enc q e s l) (List.mem_cons_self ..))⟩
instance (priority := 500) {α : Type} {enc : α → List AV} {q : Nat} {d : α} {h : Hp} {L : List Pc} {p : Pc} {s : AV} {l : List α} [x : ER α enc q d h L s l] : ER α enc q d h (p :: L) s l := ⟨x.ok, fun Y S => x.p Y (S.sub (List.sublist_cons_self _ _))⟩
instance (priority := 500) {α : Type} {enc : α → List AV} {q : Nat} {d : α} {h : Hp} {L E : List Pc} {s : AV} {l : List α} [x : ER α enc q d h L s l] : ER α enc q d h (E ++ L) s l := ⟨x.ok, fun Y S => x.p Y (S.sub (List.sublist_append_right _ _))⟩
instance (priority := 60) {α : Type} {enc : α → List AV} {q : Nat} {d : α} {h Y : Hp} {L : List Pc} {z : AV} {l : List α} [s : Sep h Y L] [x : ER α enc q d h L z l] : EL α enc q d Y z l := mkEL x.ok d (x.p Y s)
section
variable {P : Program} {ops : Array Oper} {d : Option Tmp} {ty : TypeId} {pos : String} {aft : Array Edge} {gd : Option (Nat × Bool)} {rest : List Oper} {N : Fr → Hp → Prop} {fl : List AV} {ds : List Nat} {h0 Y : Hp} {L : List Pc} {t e : TypeId} {a b : Operand} {α : Type} {enc : α → List AV} {q : Nat} {z u v : AV} {l l2 : List α} {c : Nat}
theorem s_appR (k : Nat) (hk : ∀ z' Y', SlC z' → Sep h0 Y' (L.set k (pcR enc q z' (l ++ l2) c)) → wkO P ops rest N (Fr.put ⟨fl, ds⟩ d z') Y') (S : Sep h0 Y L) (hp : L[k]? = some (pcR enc q z l c)) (hE : EncOk enc q) (hS : Elts enc q Y u l2) (hc : l.length + l2.length ≤ c) (hn : l2 ≠ []) (hu : CS P t e q) (he : CE P e q)
    (hw : wantA ops ⟨fl, ds⟩ ⟨d, .call ⟨.builtin .append, #[a, b], #[t, t]⟩, ty, pos, aft, gd⟩ = true := by rfl) (ha : evS fl a = some z := by rfl) (hb : evS fl b = some u := by rfl) : wkO P ops (⟨d, .call ⟨.builtin .append, #[a, b], #[t, t]⟩, ty, pos, aft, gd⟩ :: rest) N ⟨fl, ds⟩ Y := by
  have hY : (pcR enc q z l c).ok Y := S.all _ (List.mem_of_getElem? hp)
  obtain ⟨z', Y', e1, e2, e3, e4⟩ := app_room hE hu.p he.p hY hS hc hn
  have hz : SlC z' := by obtain ⟨i, cs, t', rfl, _⟩ := e2; infer_instance
  exact s_gH hw (x_app (e_any ha) (e_any hb) e1) (hk z' Y' hz (S.turn hp e3 e2 (fun j hj => .inl (by rw [← hj]; exact e4.symm))))
end
section
variable {P : Program} {ops : Array Oper} {d : Option Tmp} {ty : TypeId} {pos : String} {aft : Array Edge} {gd : Option (Nat × Bool)} {rest : List Oper} {N : Fr → Hp → Prop} {l : List AV} {ds : List Nat} {Y : Hp} {t : TypeId} {a b : Operand} {z v : AV} {i : Nat} {k : Int} {m : List (Int × AV)}
theorem s_msetP {h0 : Hp} {L : List Pc} {c : Operand} (n : Nat) (hk : ∀ Y', Sep h0 Y' (L.set n (pcC i (mpO (imSet m k v)))) → wkO P ops rest N (Fr.put ⟨l, ds⟩ d (.v undef)) Y') (hu : CMP P t z) (S : Sep h0 Y L) (hp : L[n]? = some (pcC i (mpO m))) (hw : wantA ops ⟨l, ds⟩ ⟨d, .mapUpdate t a b c, ty, pos, aft, gd⟩ = true := by rfl) (ha : evS l a = some (.mp i) := by rfl) (hb : evS l b = some (.v (.int .i64 k)) := by rfl) (hc : evS l c = some v := by rfl) : wkO P ops (⟨d, .mapUpdate t a b c, ty, pos, aft, gd⟩ :: rest) N ⟨l, ds⟩ Y := by
  have hY : Y[i]? = some (mpO m) := S.all _ (List.mem_of_getElem? hp)
  exact s_mset hu ⟨hY⟩ (hk _ (S.turn hp oth_set (by show (Y.set i _)[i]? = some _; rw [List.getElem?_set_self (List.getElem?_eq_some_iff.1 hY).1]) (fun j hj => .inl hj))) hw ha hb hc
theorem s_lkpS (hu : CMP P t z) (g : HA Y i (mpO m)) (hr : imGet m k = some v) (hk : wkO P ops rest N (Fr.put ⟨l, ds⟩ d (.tup [v, .v (.bool true)])) Y) (hw : wantA ops ⟨l, ds⟩ ⟨d, .lookup t a b true, ty, pos, aft, gd⟩ = true := by rfl) (ha : evS l a = some (.mp i) := by rfl) (hb : evS l b = some (.v (.int .i64 k)) := by rfl) : wkO P ops (⟨d, .lookup t a b true, ty, pos, aft, gd⟩ :: rest) N ⟨l, ds⟩ Y :=
  s_lkp (some v) hu g hr hk hw ha hb
theorem s_lkpN (hu : CMP P t z) (g : HA Y i (mpO m)) (hr : imGet m k = none) (hk : wkO P ops rest N (Fr.put ⟨l, ds⟩ d (.tup [z, .v (.bool false)])) Y) (hw : wantA ops ⟨l, ds⟩ ⟨d, .lookup t a b true, ty, pos, aft, gd⟩ = true := by rfl) (ha : evS l a = some (.mp i) := by rfl) (hb : evS l b = some (.v (.int .i64 k)) := by rfl) : wkO P ops (⟨d, .lookup t a b true, ty, pos, aft, gd⟩ :: rest) N ⟨l, ds⟩ Y :=
  s_lkp none hu g hr hk hw ha hb
end
end Go.Az
