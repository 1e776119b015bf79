/-
  Short steps of a walk over abstract memory: what they ask for is found by the elaborator (facts about types as instances, the rest by reduction or arithmetic). Conditions: stated at each theorem.
-/
import Derived.Test.YtckljanplahbkaaAzQ
import Derived.ChangeSlices
import Derived.Lib.SmallJoins
set_option linter.unusedVariables false
set_option linter.unusedSectionVars false
set_option linter.unusedSimpArgs false
set_option linter.unusedVariables false
namespace Go.Az
open Go Go.Chz

class C1 (P : Program) (t : TypeId) : Prop where
  p : isS1 P t = true
class CA (P : Program) (t : TypeId) (m : outParam Nat) : Prop where
  p : isAg P t m = true
class CS (P : Program) (t : TypeId) (e : outParam TypeId) (q : outParam Nat) : Prop where
  p : sliOf P t = some (e, q)
class CR (P : Program) (t : TypeId) (m : outParam Nat) (e : outParam TypeId) (q : outParam Nat) : Prop where
  p : arrOf P t = some (m, e, q)
class CF (P : Program) (t : TypeId) (fl : Nat) (off : outParam Nat) : Prop where
  p : fadOf P t fl = some off
class CZ (P : Program) (t : TypeId) (vs : outParam (List AV)) : Prop where
  p : zeroA P t = some vs
class CU (P : Program) (t : TypeId) (k : outParam IntKind) : Prop where
  p : P.underlying t = some (.int k)
class CT (P : Program) (t : TypeId) : Prop where
  p : strTy P t = true
class CB (P : Program) (t : TypeId) : Prop where
  p : P.underlying t = some .bool
class CE (P : Program) (e : TypeId) (q : outParam Nat) : Prop where
  p : elOkQ P e q = true
class CO (P : Program) (g : FuncId) : Prop where
  p : okFn P g = true
class BD (P : Program) (t : TypeId) (ps : List (Nat × AV)) (r : outParam AV) : Prop where
  p : bld P t ps = some r
class BS (P : Program) (t : TypeId) (len : Nat) (ps : List (Nat × AV)) (e : outParam TypeId) (cs : outParam (List AV)) : Prop where
  p : bslC P t len ps = some (e, cs)
class BN (P : Program) (op : BinOp) (t : TypeId) (u w : AV) (r : outParam Bool) : Prop where
  p : bin P op t u w = some (.v (.bool r))
class MI (P : Program) (t : TypeId) (v : AV) (r : outParam AV) : Prop where
  p : mif P t v = some r
class HA (h : Hp) (i : Nat) (o : outParam AObj) : Prop where
  p : h[i]? = some o
theorem ha_same {Y Y' : Hp} {i : Nat} {o : AObj} (a : HA Y i o) (b : HA Y' i o) : Y'[i]? = Y[i]? := b.p.trans a.p.symm
/-- A value that is a slice. -/
class SlC (v : AV) : Prop where
  p : v = .v (.slice none 0 0) ∨ ∃ i o n c u, v = .sl i o n c u
class PlC (v : AV) : Prop where
  p : v.plain = true
class AllP (l : List AV) : Prop where
  p : allOne l = true
instance : SlC (.v (.slice none 0 0)) := ⟨.inl rfl⟩
instance {i o n c : Nat} {u : Bool} : SlC (.sl i o n c u) := ⟨.inr ⟨_, _, _, _, _, rfl⟩⟩
instance {v : AV} [x : SlC v] : PlC v := ⟨by rcases x.p with rfl | ⟨i, o, n, c, u, rfl⟩ <;> rfl⟩
instance {k : IntKind} {n : Int} : PlC (.v (.int k n)) := ⟨rfl⟩
instance {b : Bool} : PlC (.v (.bool b)) := ⟨rfl⟩
instance : AllP [] := ⟨rfl⟩
instance {v : AV} {l : List AV} [x : PlC v] [y : AllP l] : AllP (v :: l) := ⟨by
  show (v.one && allOne l) = true
  rw [(plain_spec x.p).2.1, y.p]; rfl⟩
class EL (α : outParam Type) (enc : outParam (α → List AV)) (q : outParam Nat) (d : outParam α) (h : Hp) (s : AV) (l : outParam (List α)) : Prop where
  ok : EncOk enc q
  p : Elts enc q h s l
theorem mkEL {α : Type} {enc : α → List AV} {q : Nat} {h : Hp} {s : AV} {l : List α} (ok : EncOk enc q) (d : α) (hS : Elts enc q h s l) : EL α enc q d h s l := ⟨ok, hS⟩
instance {α : Type} {enc : α → List AV} {q : Nat} {d : α} {h r : Hp} {s : AV} {l : List α} [x : EL α enc q d h s l] : EL α enc q d (h ++ r) s l := ⟨x.ok, x.p.ext (ext_app _ _)⟩

instance {H r : Hp} {a0 : AObj} : HA (H ++ a0 :: r) H.length a0 := ⟨by rw [List.getElem?_append_right (by omega), show H.length - H.length = 0 by omega]; rfl⟩
instance {r : Hp} {a0 : AObj} : HA (a0 :: r) 0 a0 := ⟨rfl⟩
instance {H r : Hp} {a0 a1 : AObj} : HA (H ++ a0 :: a1 :: r) (H.length + 1) a1 := ⟨by rw [List.getElem?_append_right (by omega), show (H.length + 1) - H.length = 1 by omega]; rfl⟩
instance {r : Hp} {a0 a1 : AObj} : HA (a0 :: a1 :: r) 1 a1 := ⟨rfl⟩
instance {r : Hp} {a0 a1 a2 : AObj} : HA (a0 :: a1 :: a2 :: r) 2 a2 := ⟨rfl⟩
instance {r : Hp} {a0 a1 a2 a3 a4 a5 : AObj} : HA (a0 :: a1 :: a2 :: a3 :: a4 :: a5 :: r) 5 a5 := ⟨rfl⟩
instance {r : Hp} {a0 a1 a2 a3 a4 a5 a6 : AObj} : HA (a0 :: a1 :: a2 :: a3 :: a4 :: a5 :: a6 :: r) 6 a6 := ⟨rfl⟩
instance {r : Hp} {a0 a1 a2 a3 a4 a5 a6 a7 a8 a9 : AObj} : HA (a0 :: a1 :: a2 :: a3 :: a4 :: a5 :: a6 :: a7 :: a8 :: a9 :: r) 9 a9 := ⟨rfl⟩
instance {r : Hp} {a0 a1 a2 a3 a4 a5 a6 a7 a8 a9 a10 : AObj} : HA (a0 :: a1 :: a2 :: a3 :: a4 :: a5 :: a6 :: a7 :: a8 :: a9 :: a10 :: r) 10 a10 := ⟨rfl⟩
instance {r : Hp} {a0 a1 a2 a3 a4 a5 a6 a7 a8 a9 a10 a11 : AObj} : HA (a0 :: a1 :: a2 :: a3 :: a4 :: a5 :: a6 :: a7 :: a8 :: a9 :: a10 :: a11 :: r) 11 a11 := ⟨rfl⟩
theorem sa8 {H r : Hp} {a0 a1 a2 a3 a4 a5 a6 a7 a8 x : AObj} : (H ++ a0 :: a1 :: a2 :: a3 :: a4 :: a5 :: a6 :: a7 :: a8 :: r).set (H.length + 8) x = H ++ a0 :: a1 :: a2 :: a3 :: a4 :: a5 :: a6 :: a7 :: x :: r := by rw [List.set_append_right (i := H.length + 8) x (by omega), show H.length + 8 - H.length = 8 by omega]; rfl
theorem sa9 {H r : Hp} {a0 a1 a2 a3 a4 a5 a6 a7 a8 a9 x : AObj} : (H ++ a0 :: a1 :: a2 :: a3 :: a4 :: a5 :: a6 :: a7 :: a8 :: a9 :: r).set (H.length + 9) x = H ++ a0 :: a1 :: a2 :: a3 :: a4 :: a5 :: a6 :: a7 :: a8 :: x :: r := by rw [List.set_append_right (i := H.length + 9) x (by omega), show H.length + 9 - H.length = 9 by omega]; rfl
theorem sa10 {H r : Hp} {a0 a1 a2 a3 a4 a5 a6 a7 a8 a9 a10 x : AObj} : (H ++ a0 :: a1 :: a2 :: a3 :: a4 :: a5 :: a6 :: a7 :: a8 :: a9 :: a10 :: r).set (H.length + 10) x = H ++ a0 :: a1 :: a2 :: a3 :: a4 :: a5 :: a6 :: a7 :: a8 :: a9 :: x :: r := by rw [List.set_append_right (i := H.length + 10) x (by omega), show H.length + 10 - H.length = 10 by omega]; rfl
theorem sa11 {H r : Hp} {a0 a1 a2 a3 a4 a5 a6 a7 a8 a9 a10 a11 x : AObj} : (H ++ a0 :: a1 :: a2 :: a3 :: a4 :: a5 :: a6 :: a7 :: a8 :: a9 :: a10 :: a11 :: r).set (H.length + 11) x = H ++ a0 :: a1 :: a2 :: a3 :: a4 :: a5 :: a6 :: a7 :: a8 :: a9 :: a10 :: x :: r := by rw [List.set_append_right (i := H.length + 11) x (by omega), show H.length + 11 - H.length = 11 by omega]; rfl
def evP (l : List AV) : List (Nat × Operand) → Option (List (Nat × AV))
  | [] => some []
  | (i, a) :: r => match evS l a, evP l r with
    | some v, some vs => some ((i, v) :: vs)
    | _, _ => none
theorem evP_eq {l : List AV} {ds : List Nat} : ∀ {ps : List (Nat × Operand)} {vs : List (Nat × AV)}, evP l ps = some vs → ps.map (fun p => (p.1, ev ⟨l, ds⟩ p.2)) = vs
  | [], vs, h => by injection h
  | (i, a) :: r, vs, h => by
    unfold evP at h
    split at h
    · rename_i v vs' h1 h2
      injection h with h
      subst h
      simp only [List.map_cons, e_any (ds := ds) h1, evP_eq (ds := ds) h2]
    · cases h
theorem x_loadW {P : Program} {f : Fr} {h : Hp} {t tt i m : Nat} {a : Operand} {cs : List AV} {ow : Bool} (hs : isAg P t m = true) (ha : ev f a = .ptr i 0) (hi : h[i]? = some (.cells cs tt ow)) (hl : cs.length = m) : exL P f h (.load t a) = some (.agg cs) := by
  rw [x_loadA hs ha hi (by omega), List.drop_zero, List.take_of_length_le (by omega)]
section
variable {P : Program} {l : List AV} {ds : List Nat} {h h' : Hp} {ops : Array Oper} {N : Fr → Hp → Prop} {d : Option Tmp} {ty : TypeId} {pos : String} {aft : Array Edge} {gd : Option (Nat × Bool)} {rest : List Oper} {restQ : List (Oper × Bool)} {zz : Bool} {X : OrdX} {pd : List (Nat × Nat)} {ii : Nat} {gone : List Nat} {a b c : Operand} {t t' tt e : TypeId} {x y n : Int} {k k0 k1 : IntKind} {r v : AV} {i o m q off fl : Nat} {cs vs : List AV} {ow : Bool}
theorem smove  (hk : wkO P ops rest N (Fr.put ⟨l, ds⟩ d (r)) (h)) (hw : wantA ops ⟨l, ds⟩ ⟨d, .move a, ty, pos, aft, gd⟩ = true := by rfl) (ha : evS l a = some (r) := by rfl) : wkO P ops (⟨d, .move a, ty, pos, aft, gd⟩ :: rest) N ⟨l, ds⟩ h := s_gL hw (x_move (e_any ha)) hk
theorem qmove  (hk : wkQ P ops restQ N (Fr.put ⟨l, ds⟩ d (r)) (h)) (hw : wantA ops ⟨l, ds⟩ ⟨d, .move a, ty, pos, aft, gd⟩ = true := by rfl) (ha : evS l a = some (r) := by rfl) : wkQ P ops ((⟨d, .move a, ty, pos, aft, gd⟩, zz) :: restQ) N ⟨l, ds⟩ h := q_gL hw (x_move (e_any ha)) hk
theorem tmove  (hk : wkX P ops X pd N (Fr.put ⟨l, ds⟩ d (r)) (h)) (hw : wantA ops ⟨l, ds⟩ ⟨d, .move a, ty, pos, aft, gd⟩ = true := by rfl) (ha : evS l a = some (r) := by rfl) (hrd : readsOf ⟨l, ds⟩ (.move a) = [] := by rfl) : wkX P ops (.light ⟨d, .move a, ty, pos, aft, gd⟩ ii X) pd N ⟨l, ds⟩ h := t_gL hw (x_move (e_any ha)) hk hrd
theorem sassign  (hk : wkO P ops rest N (Fr.put ⟨l, ds⟩ d (r)) (h)) (hw : wantA ops ⟨l, ds⟩ ⟨d, .assign a, ty, pos, aft, gd⟩ = true := by rfl) (ha : evS l a = some (r) := by rfl) : wkO P ops (⟨d, .assign a, ty, pos, aft, gd⟩ :: rest) N ⟨l, ds⟩ h := s_gL hw (x_assign (e_any ha)) hk
theorem qassign  (hk : wkQ P ops restQ N (Fr.put ⟨l, ds⟩ d (r)) (h)) (hw : wantA ops ⟨l, ds⟩ ⟨d, .assign a, ty, pos, aft, gd⟩ = true := by rfl) (ha : evS l a = some (r) := by rfl) : wkQ P ops ((⟨d, .assign a, ty, pos, aft, gd⟩, zz) :: restQ) N ⟨l, ds⟩ h := q_gL hw (x_assign (e_any ha)) hk
theorem tassign  (hk : wkX P ops X pd N (Fr.put ⟨l, ds⟩ d (r)) (h)) (hw : wantA ops ⟨l, ds⟩ ⟨d, .assign a, ty, pos, aft, gd⟩ = true := by rfl) (ha : evS l a = some (r) := by rfl) (hrd : readsOf ⟨l, ds⟩ (.assign a) = [] := by rfl) : wkX P ops (.light ⟨d, .assign a, ty, pos, aft, gd⟩ ii X) pd N ⟨l, ds⟩ h := t_gL hw (x_assign (e_any ha)) hk hrd
theorem spickT  (hk : wkO P ops rest N (Fr.put ⟨l, ds⟩ d (r)) (h)) (hw : wantA ops ⟨l, ds⟩ ⟨d, .pick c a b, ty, pos, aft, gd⟩ = true := by rfl) (hc : evS l c = some (.v (.bool true)) := by rfl) (ha : evS l a = some (r) := by rfl) : wkO P ops (⟨d, .pick c a b, ty, pos, aft, gd⟩ :: rest) N ⟨l, ds⟩ h := s_gL hw (x_pickT (e_any hc) (e_any ha)) hk
theorem qpickT  (hk : wkQ P ops restQ N (Fr.put ⟨l, ds⟩ d (r)) (h)) (hw : wantA ops ⟨l, ds⟩ ⟨d, .pick c a b, ty, pos, aft, gd⟩ = true := by rfl) (hc : evS l c = some (.v (.bool true)) := by rfl) (ha : evS l a = some (r) := by rfl) : wkQ P ops ((⟨d, .pick c a b, ty, pos, aft, gd⟩, zz) :: restQ) N ⟨l, ds⟩ h := q_gL hw (x_pickT (e_any hc) (e_any ha)) hk
theorem spickF  (hk : wkO P ops rest N (Fr.put ⟨l, ds⟩ d (r)) (h)) (hw : wantA ops ⟨l, ds⟩ ⟨d, .pick c a b, ty, pos, aft, gd⟩ = true := by rfl) (hc : evS l c = some (.v (.bool false)) := by rfl) (hb : evS l b = some (r) := by rfl) : wkO P ops (⟨d, .pick c a b, ty, pos, aft, gd⟩ :: rest) N ⟨l, ds⟩ h := s_gL hw (x_pickF (e_any hc) (e_any hb)) hk
theorem qpickF  (hk : wkQ P ops restQ N (Fr.put ⟨l, ds⟩ d (r)) (h)) (hw : wantA ops ⟨l, ds⟩ ⟨d, .pick c a b, ty, pos, aft, gd⟩ = true := by rfl) (hc : evS l c = some (.v (.bool false)) := by rfl) (hb : evS l b = some (r) := by rfl) : wkQ P ops ((⟨d, .pick c a b, ty, pos, aft, gd⟩, zz) :: restQ) N ⟨l, ds⟩ h := q_gL hw (x_pickF (e_any hc) (e_any hb)) hk
theorem snotT  (hk : wkO P ops rest N (Fr.put ⟨l, ds⟩ d (.v (.bool false))) (h)) (hw : wantA ops ⟨l, ds⟩ ⟨d, .unOp .not t a, ty, pos, aft, gd⟩ = true := by rfl) (ha : evS l a = some (.v (.bool true)) := by rfl) : wkO P ops (⟨d, .unOp .not t a, ty, pos, aft, gd⟩ :: rest) N ⟨l, ds⟩ h := s_gL hw (x_notT (e_any ha)) hk
theorem snotF  (hk : wkO P ops rest N (Fr.put ⟨l, ds⟩ d (.v (.bool true))) (h)) (hw : wantA ops ⟨l, ds⟩ ⟨d, .unOp .not t a, ty, pos, aft, gd⟩ = true := by rfl) (ha : evS l a = some (.v (.bool false)) := by rfl) : wkO P ops (⟨d, .unOp .not t a, ty, pos, aft, gd⟩ :: rest) N ⟨l, ds⟩ h := s_gL hw (x_notF (e_any ha)) hk
theorem sext  (hk : wkO P ops rest N (Fr.put ⟨l, ds⟩ d (r)) (h)) (hw : wantA ops ⟨l, ds⟩ ⟨d, .extract a i, ty, pos, aft, gd⟩ = true := by rfl) (ha : evS l a = some (.tup vs) := by rfl) (hi : vs[i]? = some r := by rfl) : wkO P ops (⟨d, .extract a i, ty, pos, aft, gd⟩ :: rest) N ⟨l, ds⟩ h := s_gL hw (x_extract (e_any ha) hi) hk
theorem sadd  (hk : wkO P ops rest N (Fr.put ⟨l, ds⟩ d (.v (.int k (x + y)))) (h)) (hw : wantA ops ⟨l, ds⟩ ⟨d, .binOp .add t a b t', ty, pos, aft, gd⟩ = true := by rfl) (ha : evS l a = some (.v (.int k x)) := by rfl) (hb : evS l b = some (.v (.int k y)) := by rfl) (hr : k.wrap (x + y) = x + y := by first | exact wrap_i64_in (by omega) (by omega) | exact wrap_u64_in (by omega) (by omega) | exact wrap_u8_in (by omega) (by omega) | exact wrap_u32_in (by omega) (by omega) | rfl) : wkO P ops (⟨d, .binOp .add t a b t', ty, pos, aft, gd⟩ :: rest) N ⟨l, ds⟩ h := s_gL hw (x_add (e_any ha) (e_any hb) hr) hk
theorem tadd  (hk : wkX P ops X pd N (Fr.put ⟨l, ds⟩ d (.v (.int k (x + y)))) (h)) (hw : wantA ops ⟨l, ds⟩ ⟨d, .binOp .add t a b t', ty, pos, aft, gd⟩ = true := by rfl) (ha : evS l a = some (.v (.int k x)) := by rfl) (hb : evS l b = some (.v (.int k y)) := by rfl) (hr : k.wrap (x + y) = x + y := by first | exact wrap_i64_in (by omega) (by omega) | exact wrap_u64_in (by omega) (by omega) | exact wrap_u8_in (by omega) (by omega) | exact wrap_u32_in (by omega) (by omega) | rfl) (hrd : readsOf ⟨l, ds⟩ (.binOp .add t a b t') = [] := by rfl) : wkX P ops (.light ⟨d, .binOp .add t a b t', ty, pos, aft, gd⟩ ii X) pd N ⟨l, ds⟩ h := t_gL hw (x_add (e_any ha) (e_any hb) hr) hk hrd
theorem ssub  (hk : wkO P ops rest N (Fr.put ⟨l, ds⟩ d (.v (.int k (x - y)))) (h)) (hw : wantA ops ⟨l, ds⟩ ⟨d, .binOp .sub t a b t', ty, pos, aft, gd⟩ = true := by rfl) (ha : evS l a = some (.v (.int k x)) := by rfl) (hb : evS l b = some (.v (.int k y)) := by rfl) (hr : k.wrap (x - y) = x - y := by first | exact wrap_i64_in (by omega) (by omega) | exact wrap_u64_in (by omega) (by omega) | exact wrap_u8_in (by omega) (by omega) | exact wrap_u32_in (by omega) (by omega) | rfl) : wkO P ops (⟨d, .binOp .sub t a b t', ty, pos, aft, gd⟩ :: rest) N ⟨l, ds⟩ h := s_gL hw (x_sub (e_any ha) (e_any hb) hr) hk
theorem qsub  (hk : wkQ P ops restQ N (Fr.put ⟨l, ds⟩ d (.v (.int k (x - y)))) (h)) (hw : wantA ops ⟨l, ds⟩ ⟨d, .binOp .sub t a b t', ty, pos, aft, gd⟩ = true := by rfl) (ha : evS l a = some (.v (.int k x)) := by rfl) (hb : evS l b = some (.v (.int k y)) := by rfl) (hr : k.wrap (x - y) = x - y := by first | exact wrap_i64_in (by omega) (by omega) | exact wrap_u64_in (by omega) (by omega) | exact wrap_u8_in (by omega) (by omega) | exact wrap_u32_in (by omega) (by omega) | rfl) : wkQ P ops ((⟨d, .binOp .sub t a b t', ty, pos, aft, gd⟩, zz) :: restQ) N ⟨l, ds⟩ h := q_gL hw (x_sub (e_any ha) (e_any hb) hr) hk
theorem saddS {l1 l2 : List UInt8} (hk : wkO P ops rest N (Fr.put ⟨l, ds⟩ d (St (l1 ++ l2))) (h)) (hw : wantA ops ⟨l, ds⟩ ⟨d, .binOp .add t a b t', ty, pos, aft, gd⟩ = true := by rfl) (ha : evS l a = some (St l1) := by rfl) (hb : evS l b = some (St l2) := by rfl) (hl : l1.length + l2.length ≤ 9223372036854775807 := by (try simp only [List.length_append, List.length_cons, List.length_nil]); omega) : wkO P ops (⟨d, .binOp .add t a b t', ty, pos, aft, gd⟩ :: rest) N ⟨l, ds⟩ h := s_gL hw (x_addS (e_any ha) (e_any hb) hl) hk
theorem srem  (hk : wkO P ops rest N (Fr.put ⟨l, ds⟩ d (.v (.int k (x % y)))) (h)) (hw : wantA ops ⟨l, ds⟩ ⟨d, .binOp .rem t a b t', ty, pos, aft, gd⟩ = true := by rfl) (ha : evS l a = some (.v (.int k x)) := by rfl) (hb : evS l b = some (.v (.int k y)) := by rfl) (h0 : 0 ≤ x := by omega) (h1 : 0 < y := by omega) : wkO P ops (⟨d, .binOp .rem t a b t', ty, pos, aft, gd⟩ :: rest) N ⟨l, ds⟩ h := s_gL hw (x_rem (e_any ha) (e_any hb) h0 h1) hk
theorem stmod  (hk : wkO P ops rest N (Fr.put ⟨l, ds⟩ d (.v (.int k (x.tmod y)))) (h)) (hw : wantA ops ⟨l, ds⟩ ⟨d, .binOp .rem t a b t', ty, pos, aft, gd⟩ = true := by rfl) (ha : evS l a = some (.v (.int k x)) := by rfl) (hb : evS l b = some (.v (.int k y)) := by rfl) (h1 : y ≠ 0 := by omega) : wkO P ops (⟨d, .binOp .rem t a b t', ty, pos, aft, gd⟩ :: rest) N ⟨l, ds⟩ h := s_gL hw (x_tmod (e_any ha) (e_any hb) h1) hk
theorem squo  (hk : wkO P ops rest N (Fr.put ⟨l, ds⟩ d (.v (.int k (x / y)))) (h)) (hw : wantA ops ⟨l, ds⟩ ⟨d, .binOp .quo t a b t', ty, pos, aft, gd⟩ = true := by rfl) (ha : evS l a = some (.v (.int k x)) := by rfl) (hb : evS l b = some (.v (.int k y)) := by rfl) (h0 : 0 ≤ x := by omega) (h1 : 0 < y := by omega) (hr : k.wrap (x / y) = x / y := by first | exact wrap_i64_in (by omega) (by omega) | exact wrap_u64_in (by omega) (by omega)) : wkO P ops (⟨d, .binOp .quo t a b t', ty, pos, aft, gd⟩ :: rest) N ⟨l, ds⟩ h := s_gL hw (x_quo (e_any ha) (e_any hb) h0 h1 hr) hk
theorem sconv  (hk : wkO P ops rest N (Fr.put ⟨l, ds⟩ d (.v (.int k n))) (h)) (hw : wantA ops ⟨l, ds⟩ ⟨d, .convert t t' a, ty, pos, aft, gd⟩ = true := by rfl) (hu : CU P t k1 := by infer_instance) (hu' : CU P t' k := by infer_instance) (ha : evS l a = some (.v (.int k0 n)) := by rfl) (hr : k.wrap n = n := by first | exact wrap_i64_in (by omega) (by omega) | exact wrap_u64_in (by omega) (by omega) | exact wrap_u8_in (by omega) (by omega) | exact wrap_u32_in (by omega) (by omega) | rfl) : wkO P ops (⟨d, .convert t t' a, ty, pos, aft, gd⟩ :: rest) N ⟨l, ds⟩ h := s_gL hw (x_conv hu.p hu'.p (e_any ha) hr) hk
theorem qconv  (hk : wkQ P ops restQ N (Fr.put ⟨l, ds⟩ d (.v (.int k n))) (h)) (hw : wantA ops ⟨l, ds⟩ ⟨d, .convert t t' a, ty, pos, aft, gd⟩ = true := by rfl) (hu : CU P t k1 := by infer_instance) (hu' : CU P t' k := by infer_instance) (ha : evS l a = some (.v (.int k0 n)) := by rfl) (hr : k.wrap n = n := by first | exact wrap_i64_in (by omega) (by omega) | exact wrap_u64_in (by omega) (by omega) | exact wrap_u8_in (by omega) (by omega) | exact wrap_u32_in (by omega) (by omega) | rfl) : wkQ P ops ((⟨d, .convert t t' a, ty, pos, aft, gd⟩, zz) :: restQ) N ⟨l, ds⟩ h := q_gL hw (x_conv hu.p hu'.p (e_any ha) hr) hk
theorem sshr {y : Int} (hk : wkO P ops rest N (Fr.put ⟨l, ds⟩ d (.v (.int k (x / 2 ^ m)))) (h)) (hw : wantA ops ⟨l, ds⟩ ⟨d, .binOp .shr t a b t', ty, pos, aft, gd⟩ = true := by rfl) (ha : evS l a = some (.v (.int k x)) := by rfl) (hb : evS l b = some (.v (.int k1 y)) := by rfl) (hy : y = (m : Int) := by first | rfl | exact (Int.toNat_of_nonneg (by omega)).symm) (hm : m ≤ k.bits := by first | decide | (show _ ≤ 64; omega)) (h0 : 0 ≤ x := by omega) : wkO P ops (⟨d, .binOp .shr t a b t', ty, pos, aft, gd⟩ :: rest) N ⟨l, ds⟩ h := s_gL hw (x_shr (e_any ha) (e_any hb) hy hm h0) hk
theorem sshl1  (hk : wkO P ops rest N (Fr.put ⟨l, ds⟩ d (.v (.int .i64 (2 ^ m)))) (h)) (hw : wantA ops ⟨l, ds⟩ ⟨d, .binOp .shl t a b t', ty, pos, aft, gd⟩ = true := by rfl) (ha : evS l a = some (.v (.int .i64 1)) := by rfl) (hb : evS l b = some (.v (.int k1 y)) := by rfl) (hy : y = (m : Int) := by first | rfl | exact (Int.toNat_of_nonneg (by omega)).symm) (hm : m ≤ 62 := by omega) : wkO P ops (⟨d, .binOp .shl t a b t', ty, pos, aft, gd⟩ :: rest) N ⟨l, ds⟩ h := s_gL hw (x_shl1 (e_any ha) (e_any hb) hy hm) hk
theorem qshl1  (hk : wkQ P ops restQ N (Fr.put ⟨l, ds⟩ d (.v (.int .i64 (2 ^ m)))) (h)) (hw : wantA ops ⟨l, ds⟩ ⟨d, .binOp .shl t a b t', ty, pos, aft, gd⟩ = true := by rfl) (ha : evS l a = some (.v (.int .i64 1)) := by rfl) (hb : evS l b = some (.v (.int k1 y)) := by rfl) (hy : y = (m : Int) := by first | rfl | exact (Int.toNat_of_nonneg (by omega)).symm) (hm : m ≤ 62 := by omega) : wkQ P ops ((⟨d, .binOp .shl t a b t', ty, pos, aft, gd⟩, zz) :: restQ) N ⟨l, ds⟩ h := q_gL hw (x_shl1 (e_any ha) (e_any hb) hy hm) hk
theorem sshl {y : Int} (hk : wkO P ops rest N (Fr.put ⟨l, ds⟩ d (.v (.int k (x * 2 ^ m)))) (h)) (hw : wantA ops ⟨l, ds⟩ ⟨d, .binOp .shl t a b t', ty, pos, aft, gd⟩ = true := by rfl) (ha : evS l a = some (.v (.int k x)) := by rfl) (hb : evS l b = some (.v (.int k1 y)) := by rfl) (hy : y = (m : Int) := by first | rfl | exact (Int.toNat_of_nonneg (by omega)).symm) (hm : m ≤ k.bits := by first | decide | (show _ ≤ 64; omega)) (hr : k.wrap (x * 2 ^ m) = x * 2 ^ m := by (try simp only [Int.reducePow]); first | exact wrap_i64_in (by omega) (by omega) | exact wrap_u64_in (by omega) (by omega) | exact wrap_u8_in (by omega) (by omega) | exact wrap_u32_in (by omega) (by omega) | rfl) : wkO P ops (⟨d, .binOp .shl t a b t', ty, pos, aft, gd⟩ :: rest) N ⟨l, ds⟩ h := s_gL hw (x_shl (e_any ha) (e_any hb) hy hm hr) hk
theorem sor  (hk : wkO P ops rest N (Fr.put ⟨l, ds⟩ d (.v (.int k (orI k x y)))) (h)) (hw : wantA ops ⟨l, ds⟩ ⟨d, .binOp .or t a b t', ty, pos, aft, gd⟩ = true := by rfl) (ha : evS l a = some (.v (.int k x)) := by rfl) (hb : evS l b = some (.v (.int k y)) := by rfl) : wkO P ops (⟨d, .binOp .or t a b t', ty, pos, aft, gd⟩ :: rest) N ⟨l, ds⟩ h := s_gL hw (x_or (e_any ha) (e_any hb)) hk
theorem sand  (hk : wkO P ops rest N (Fr.put ⟨l, ds⟩ d (.v (.int k (andI k x y)))) (h)) (hw : wantA ops ⟨l, ds⟩ ⟨d, .binOp .and t a b t', ty, pos, aft, gd⟩ = true := by rfl) (ha : evS l a = some (.v (.int k x)) := by rfl) (hb : evS l b = some (.v (.int k y)) := by rfl) : wkO P ops (⟨d, .binOp .and t a b t', ty, pos, aft, gd⟩ :: rest) N ⟨l, ds⟩ h := s_gL hw (x_and (e_any ha) (e_any hb)) hk
theorem qfunc1 {fn : Fn} {v1 : AV} (hk : wkQ P ops restQ N (Fr.put ⟨l, ds⟩ d (.fn fn [v1])) (h)) (hw : wantA ops ⟨l, ds⟩ ⟨d, .makeFunc fn #[] #[a], ty, pos, aft, gd⟩ = true := by rfl) (ha : evS l a = some (v1) := by rfl) : wkQ P ops ((⟨d, .makeFunc fn #[] #[a], ty, pos, aft, gd⟩, zz) :: restQ) N ⟨l, ds⟩ h := q_gL hw (x_func1 (e_any ha)) hk
theorem snilP  (hk : wkO P ops rest N (Fr.put ⟨l, ds⟩ d (.ptr i o)) (h)) (hw : wantA ops ⟨l, ds⟩ ⟨d, .nilCheck a, ty, pos, aft, gd⟩ = true := by rfl) (ha : evS l a = some (.ptr i o) := by rfl) : wkO P ops (⟨d, .nilCheck a, ty, pos, aft, gd⟩ :: rest) N ⟨l, ds⟩ h := s_gL hw (x_nilP (e_any ha)) hk
theorem qnilP  (hk : wkQ P ops restQ N (Fr.put ⟨l, ds⟩ d (.ptr i o)) (h)) (hw : wantA ops ⟨l, ds⟩ ⟨d, .nilCheck a, ty, pos, aft, gd⟩ = true := by rfl) (ha : evS l a = some (.ptr i o) := by rfl) : wkQ P ops ((⟨d, .nilCheck a, ty, pos, aft, gd⟩, zz) :: restQ) N ⟨l, ds⟩ h := q_gL hw (x_nilP (e_any ha)) hk
theorem tnilP  (hk : wkX P ops X pd N (Fr.put ⟨l, ds⟩ d (.ptr i o)) (h)) (hw : wantA ops ⟨l, ds⟩ ⟨d, .nilCheck a, ty, pos, aft, gd⟩ = true := by rfl) (ha : evS l a = some (.ptr i o) := by rfl) (hrd : readsOf ⟨l, ds⟩ (.nilCheck a) = [] := by rfl) : wkX P ops (.light ⟨d, .nilCheck a, ty, pos, aft, gd⟩ ii X) pd N ⟨l, ds⟩ h := t_gL hw (x_nilP (e_any ha)) hk hrd
theorem smax {ts : Array TypeId} (hk : wkO P ops rest N (Fr.put ⟨l, ds⟩ d (.v (.int k (if y > x then y else x)))) (h)) (hw : wantA ops ⟨l, ds⟩ ⟨d, .call ⟨.builtin .max, #[a, b], ts⟩, ty, pos, aft, gd⟩ = true := by rfl) (ha : evS l a = some (.v (.int k x)) := by rfl) (hb : evS l b = some (.v (.int k1 y)) := by rfl) : wkO P ops (⟨d, .call ⟨.builtin .max, #[a, b], ts⟩, ty, pos, aft, gd⟩ :: rest) N ⟨l, ds⟩ h := s_gL hw (x_max (e_any ha) (e_any hb)) hk
theorem sfad  (hk : wkO P ops rest N (Fr.put ⟨l, ds⟩ d (.ptr i (o + off))) (h)) (hw : wantA ops ⟨l, ds⟩ ⟨d, .fieldAddr t a fl, ty, pos, aft, gd⟩ = true := by rfl) (hf : CF P t fl off := by infer_instance) (ha : evS l a = some (.ptr i o) := by rfl) : wkO P ops (⟨d, .fieldAddr t a fl, ty, pos, aft, gd⟩ :: rest) N ⟨l, ds⟩ h := s_gL hw (x_fad hf.p (e_any ha)) hk
theorem qfad  (hk : wkQ P ops restQ N (Fr.put ⟨l, ds⟩ d (.ptr i (o + off))) (h)) (hw : wantA ops ⟨l, ds⟩ ⟨d, .fieldAddr t a fl, ty, pos, aft, gd⟩ = true := by rfl) (hf : CF P t fl off := by infer_instance) (ha : evS l a = some (.ptr i o) := by rfl) : wkQ P ops ((⟨d, .fieldAddr t a fl, ty, pos, aft, gd⟩, zz) :: restQ) N ⟨l, ds⟩ h := q_gL hw (x_fad hf.p (e_any ha)) hk
theorem tfad  (hk : wkX P ops X pd N (Fr.put ⟨l, ds⟩ d (.ptr i (o + off))) (h)) (hw : wantA ops ⟨l, ds⟩ ⟨d, .fieldAddr t a fl, ty, pos, aft, gd⟩ = true := by rfl) (hf : CF P t fl off := by infer_instance) (ha : evS l a = some (.ptr i o) := by rfl) (hrd : readsOf ⟨l, ds⟩ (.fieldAddr t a fl) = [] := by rfl) : wkX P ops (.light ⟨d, .fieldAddr t a fl, ty, pos, aft, gd⟩ ii X) pd N ⟨l, ds⟩ h := t_gL hw (x_fad hf.p (e_any ha)) hk hrd
theorem slenX {nn cc : Nat} {u : Bool} (hk : wkO P ops rest N (Fr.put ⟨l, ds⟩ d (.v (.int .i64 (nn : Nat)))) (h)) (hw : wantA ops ⟨l, ds⟩ ⟨d, .call ⟨.builtin .len, #[a], #[t]⟩, ty, pos, aft, gd⟩ = true := by rfl) (hs : CS P t e q := by infer_instance) (ha : evS l a = some (.sl i o nn cc u) := by rfl) : wkO P ops (⟨d, .call ⟨.builtin .len, #[a], #[t]⟩, ty, pos, aft, gd⟩ :: rest) N ⟨l, ds⟩ h := s_gL hw (x_lenX hs.p (e_any ha)) hk
theorem slenS {l1 : List UInt8} (hk : wkO P ops rest N (Fr.put ⟨l, ds⟩ d (.v (.int .i64 (l1.length : Nat)))) (h)) (hw : wantA ops ⟨l, ds⟩ ⟨d, .call ⟨.builtin .len, #[a], #[t]⟩, ty, pos, aft, gd⟩ = true := by rfl) (hs : CT P t := by infer_instance) (ha : evS l a = some (St l1) := by rfl) : wkO P ops (⟨d, .call ⟨.builtin .len, #[a], #[t]⟩, ty, pos, aft, gd⟩ :: rest) N ⟨l, ds⟩ h := s_gL hw (x_lenS hs.p (e_any ha)) hk
theorem qlenS {l1 : List UInt8} (hk : wkQ P ops restQ N (Fr.put ⟨l, ds⟩ d (.v (.int .i64 (l1.length : Nat)))) (h)) (hw : wantA ops ⟨l, ds⟩ ⟨d, .call ⟨.builtin .len, #[a], #[t]⟩, ty, pos, aft, gd⟩ = true := by rfl) (hs : CT P t := by infer_instance) (ha : evS l a = some (St l1) := by rfl) : wkQ P ops ((⟨d, .call ⟨.builtin .len, #[a], #[t]⟩, ty, pos, aft, gd⟩, zz) :: restQ) N ⟨l, ds⟩ h := q_gL hw (x_lenS hs.p (e_any ha)) hk
theorem slenE {α : Type} {enc : α → List AV} {dd : α} {L : List α} {s : AV} {q' : Nat} (hk : wkO P ops rest N (Fr.put ⟨l, ds⟩ d (.v (.int .i64 (L.length : Nat)))) (h)) (hw : wantA ops ⟨l, ds⟩ ⟨d, .call ⟨.builtin .len, #[a], #[t]⟩, ty, pos, aft, gd⟩ = true := by rfl) (hs : CS P t e q' := by infer_instance) (ha : evS l a = some (s) := by rfl) (hE : EL α enc q dd h s L := by infer_instance) : wkO P ops (⟨d, .call ⟨.builtin .len, #[a], #[t]⟩, ty, pos, aft, gd⟩ :: rest) N ⟨l, ds⟩ h := s_gL hw (x_lenE hE.p hs.p (e_any ha)) hk
theorem qlenE {α : Type} {enc : α → List AV} {dd : α} {L : List α} {s : AV} {q' : Nat} (hk : wkQ P ops restQ N (Fr.put ⟨l, ds⟩ d (.v (.int .i64 (L.length : Nat)))) (h)) (hw : wantA ops ⟨l, ds⟩ ⟨d, .call ⟨.builtin .len, #[a], #[t]⟩, ty, pos, aft, gd⟩ = true := by rfl) (hs : CS P t e q' := by infer_instance) (ha : evS l a = some (s) := by rfl) (hE : EL α enc q dd h s L := by infer_instance) : wkQ P ops ((⟨d, .call ⟨.builtin .len, #[a], #[t]⟩, ty, pos, aft, gd⟩, zz) :: restQ) N ⟨l, ds⟩ h := q_gL hw (x_lenE hE.p hs.p (e_any ha)) hk
theorem sidxS {nn cc : Nat} {u : Bool} (hk : wkO P ops rest N (Fr.put ⟨l, ds⟩ d (.ptr i (o + x.toNat * q))) (h)) (hw : wantA ops ⟨l, ds⟩ ⟨d, .indexAddr t a b, ty, pos, aft, gd⟩ = true := by rfl) (hs : CS P t e q := by infer_instance) (ha : evS l a = some (.sl i o nn cc u) := by rfl) (hb : evS l b = some (.v (.int k x)) := by rfl) (h0 : 0 ≤ x := by omega) (h1 : x < nn := by omega) : wkO P ops (⟨d, .indexAddr t a b, ty, pos, aft, gd⟩ :: rest) N ⟨l, ds⟩ h := s_gL hw (x_idxS hs.p (e_any ha) (e_any hb) h0 h1) hk
theorem sidxE {α : Type} {enc : α → List AV} {dd : α} {L : List α} {s : AV} (hk : wkO P ops rest N (Fr.put ⟨l, ds⟩ d (elP s q x)) (h)) (hw : wantA ops ⟨l, ds⟩ ⟨d, .indexAddr t a b, ty, pos, aft, gd⟩ = true := by rfl) (hs : CS P t e q := by infer_instance) (ha : evS l a = some (s) := by rfl) (hE : EL α enc q dd h s L := by infer_instance) (hb : evS l b = some (.v (.int k x)) := by rfl) (h0 : 0 ≤ x := by omega) (h1 : x < L.length := by omega) : wkO P ops (⟨d, .indexAddr t a b, ty, pos, aft, gd⟩ :: rest) N ⟨l, ds⟩ h := s_gL hw (x_idxE hE.p hs.p (e_any ha) (e_any hb) h0 h1) hk
theorem qidxE {α : Type} {enc : α → List AV} {dd : α} {L : List α} {s : AV} (hk : wkQ P ops restQ N (Fr.put ⟨l, ds⟩ d (elP s q x)) (h)) (hw : wantA ops ⟨l, ds⟩ ⟨d, .indexAddr t a b, ty, pos, aft, gd⟩ = true := by rfl) (hs : CS P t e q := by infer_instance) (ha : evS l a = some (s) := by rfl) (hE : EL α enc q dd h s L := by infer_instance) (hb : evS l b = some (.v (.int k x)) := by rfl) (h0 : 0 ≤ x := by omega) (h1 : x < L.length := by omega) : wkQ P ops ((⟨d, .indexAddr t a b, ty, pos, aft, gd⟩, zz) :: restQ) N ⟨l, ds⟩ h := q_gL hw (x_idxE hE.p hs.p (e_any ha) (e_any hb) h0 h1) hk
theorem tidxE {α : Type} {enc : α → List AV} {dd : α} {L : List α} {s : AV} (hk : wkX P ops X pd N (Fr.put ⟨l, ds⟩ d (elP s q x)) (h)) (hw : wantA ops ⟨l, ds⟩ ⟨d, .indexAddr t a b, ty, pos, aft, gd⟩ = true := by rfl) (hs : CS P t e q := by infer_instance) (ha : evS l a = some (s) := by rfl) (hE : EL α enc q dd h s L := by infer_instance) (hb : evS l b = some (.v (.int k x)) := by rfl) (h0 : 0 ≤ x := by omega) (h1 : x < L.length := by omega) (hrd : readsOf ⟨l, ds⟩ (.indexAddr t a b) = [] := by rfl) : wkX P ops (.light ⟨d, .indexAddr t a b, ty, pos, aft, gd⟩ ii X) pd N ⟨l, ds⟩ h := t_gL hw (x_idxE hE.p hs.p (e_any ha) (e_any hb) h0 h1) hk hrd
theorem qidxStr {l1 : List UInt8} (hk : wkQ P ops restQ N (Fr.put ⟨l, ds⟩ d (.v (.int .u8 ((l1.getD x.toNat 0).toNat : Nat)))) (h)) (hw : wantA ops ⟨l, ds⟩ ⟨d, .index t a b, ty, pos, aft, gd⟩ = true := by rfl) (hs : CT P t := by infer_instance) (ha : evS l a = some (St l1) := by rfl) (hb : evS l b = some (.v (.int k x)) := by rfl) (h0 : 0 ≤ x := by omega) (h1 : x < l1.length := by omega) : wkQ P ops ((⟨d, .index t a b, ty, pos, aft, gd⟩, zz) :: restQ) N ⟨l, ds⟩ h := q_gL hw (x_idxStr hs.p (e_any ha) (e_any hb) h0 h1) hk
theorem sload1  (hk : wkO P ops rest N (Fr.put ⟨l, ds⟩ d (r)) (h)) (hw : wantA ops ⟨l, ds⟩ ⟨d, .load t a, ty, pos, aft, gd⟩ = true := by rfl) (hs : C1 P t := by infer_instance) (ha : evS l a = some (.ptr i o) := by rfl) (hi : HA h i (.cells cs tt ow) := by infer_instance) (hr : cs[o]? = some r := by rfl) : wkO P ops (⟨d, .load t a, ty, pos, aft, gd⟩ :: rest) N ⟨l, ds⟩ h := s_gL hw (x_load1 hs.p (e_any ha) hi.p hr) hk
theorem qload1  (hk : wkQ P ops restQ N (Fr.put ⟨l, ds⟩ d (r)) (h)) (hw : wantA ops ⟨l, ds⟩ ⟨d, .load t a, ty, pos, aft, gd⟩ = true := by rfl) (hs : C1 P t := by infer_instance) (ha : evS l a = some (.ptr i o) := by rfl) (hi : HA h i (.cells cs tt ow) := by infer_instance) (hr : cs[o]? = some r := by rfl) : wkQ P ops ((⟨d, .load t a, ty, pos, aft, gd⟩, zz) :: restQ) N ⟨l, ds⟩ h := q_gL hw (x_load1 hs.p (e_any ha) hi.p hr) hk
theorem tload1  (hk : wkX P ops X ((ii, i) :: pd) N (Fr.put ⟨l, ds⟩ d (r)) (h)) (hw : wantA ops ⟨l, ds⟩ ⟨d, .load t a, ty, pos, aft, gd⟩ = true := by rfl) (hs : C1 P t := by infer_instance) (ha : evS l a = some (.ptr i o) := by rfl) (hi : HA h i (.cells cs tt ow) := by infer_instance) (hr : cs[o]? = some r := by rfl) : wkX P ops (.light ⟨d, .load t a, ty, pos, aft, gd⟩ ii X) pd N ⟨l, ds⟩ h := t_gR hw (by simp only [readsOf, e_any (ds := ds) ha]) (x_load1 hs.p (e_any ha) hi.p hr) hk
theorem sloadW  (hk : wkO P ops rest N (Fr.put ⟨l, ds⟩ d (.agg cs)) (h)) (hw : wantA ops ⟨l, ds⟩ ⟨d, .load t a, ty, pos, aft, gd⟩ = true := by rfl) (hs : CA P t m := by infer_instance) (ha : evS l a = some (.ptr i 0) := by rfl) (hi : HA h i (.cells cs tt ow) := by infer_instance) (hl : cs.length = m := by rfl) : wkO P ops (⟨d, .load t a, ty, pos, aft, gd⟩ :: rest) N ⟨l, ds⟩ h := s_gL hw (x_loadW hs.p (e_any ha) hi.p hl) hk
theorem tloadW  (hk : wkX P ops X ((ii, i) :: pd) N (Fr.put ⟨l, ds⟩ d (.agg cs)) (h)) (hw : wantA ops ⟨l, ds⟩ ⟨d, .load t a, ty, pos, aft, gd⟩ = true := by rfl) (hs : CA P t m := by infer_instance) (ha : evS l a = some (.ptr i 0) := by rfl) (hi : HA h i (.cells cs tt ow) := by infer_instance) (hl : cs.length = m := by rfl) : wkX P ops (.light ⟨d, .load t a, ty, pos, aft, gd⟩ ii X) pd N ⟨l, ds⟩ h := t_gR hw (by simp only [readsOf, e_any (ds := ds) ha]) (x_loadW hs.p (e_any ha) hi.p hl) hk
theorem sloadE1 {α : Type} {enc : α → List AV} {dd : α} {L : List α} {s : AV} (hk : wkO P ops rest N (Fr.put ⟨l, ds⟩ d (r)) (h)) (hw : wantA ops ⟨l, ds⟩ ⟨d, .load t a, ty, pos, aft, gd⟩ = true := by rfl) (hs : C1 P t := by infer_instance) (ha : evS l a = some (elP s 1 x) := by rfl) (hE : EL α enc 1 dd h s L := by infer_instance) (h0 : 0 ≤ x := by omega) (h1 : x < L.length := by omega) (hr : (enc (L.getD x.toNat dd))[0]? = some r := by rfl) : wkO P ops (⟨d, .load t a, ty, pos, aft, gd⟩ :: rest) N ⟨l, ds⟩ h := s_gL hw (x_loadE1 hE.ok dd hE.p hs.p (e_any ha) h0 h1 hr) hk
theorem qloadE1 {α : Type} {enc : α → List AV} {dd : α} {L : List α} {s : AV} (hk : wkQ P ops restQ N (Fr.put ⟨l, ds⟩ d (r)) (h)) (hw : wantA ops ⟨l, ds⟩ ⟨d, .load t a, ty, pos, aft, gd⟩ = true := by rfl) (hs : C1 P t := by infer_instance) (ha : evS l a = some (elP s 1 x) := by rfl) (hE : EL α enc 1 dd h s L := by infer_instance) (h0 : 0 ≤ x := by omega) (h1 : x < L.length := by omega) (hr : (enc (L.getD x.toNat dd))[0]? = some r := by rfl) : wkQ P ops ((⟨d, .load t a, ty, pos, aft, gd⟩, zz) :: restQ) N ⟨l, ds⟩ h := q_gL hw (x_loadE1 hE.ok dd hE.p hs.p (e_any ha) h0 h1 hr) hk
theorem sloadE {α : Type} {enc : α → List AV} {dd : α} {L : List α} {s : AV} (hk : wkO P ops rest N (Fr.put ⟨l, ds⟩ d (.agg (enc (L.getD x.toNat dd)))) (h)) (hw : wantA ops ⟨l, ds⟩ ⟨d, .load t a, ty, pos, aft, gd⟩ = true := by rfl) (hs : CA P t q := by infer_instance) (ha : evS l a = some (elP s q x) := by rfl) (hE : EL α enc q dd h s L := by infer_instance) (h0 : 0 ≤ x := by omega) (h1 : x < L.length := by omega) : wkO P ops (⟨d, .load t a, ty, pos, aft, gd⟩ :: rest) N ⟨l, ds⟩ h := s_gL hw (x_loadE hE.ok dd hE.p hs.p (e_any ha) h0 h1) hk
theorem uloadE {α : Type} {enc : α → List AV} {dd : α} {L : List α} {s : AV} (hk : wkX P ops X pd N (Fr.put ⟨l, ds⟩ d (.agg (enc (L.getD x.toNat dd)))) (h)) (hw : wantA ops ⟨l, ds⟩ ⟨d, .load t a, ty, pos, aft, gd⟩ = true := by rfl) (hs : CA P t q := by infer_instance) (ha : evS l a = some (elP s q x) := by rfl) (hE : EL α enc q dd h s L := by infer_instance) (h0 : 0 ≤ x := by omega) (h1 : x < L.length := by omega) : wkX P ops (.alt ⟨d, .load t a, ty, pos, aft, gd⟩ ii gone X .no) pd N ⟨l, ds⟩ h := u_gL hw (x_loadE hE.ok dd hE.p hs.p (e_any ha) h0 h1) hk
theorem sbuild {ps : List (Nat × AV)} {parts : Array (Nat × Operand)} (hk : wkO P ops rest N (Fr.put ⟨l, ds⟩ d (r)) (h)) (hw : wantA ops ⟨l, ds⟩ ⟨d, .build t parts, ty, pos, aft, gd⟩ = true := by rfl) (hl : evP l parts.toList = some ps := by rfl) (hb : BD P t ps r := by infer_instance) : wkO P ops (⟨d, .build t parts, ty, pos, aft, gd⟩ :: rest) N ⟨l, ds⟩ h := s_gL hw (x_build (evP_eq hl) hb.p) hk
theorem tbuild {ps : List (Nat × AV)} {parts : Array (Nat × Operand)} (hk : wkX P ops X pd N (Fr.put ⟨l, ds⟩ d (r)) (h)) (hw : wantA ops ⟨l, ds⟩ ⟨d, .build t parts, ty, pos, aft, gd⟩ = true := by rfl) (hl : evP l parts.toList = some ps := by rfl) (hb : BD P t ps r := by infer_instance) (hrd : readsOf ⟨l, ds⟩ (.build t parts) = [] := by rfl) : wkX P ops (.light ⟨d, .build t parts, ty, pos, aft, gd⟩ ii X) pd N ⟨l, ds⟩ h := t_gL hw (x_build (evP_eq hl) hb.p) hk hrd
theorem sEq  (h1' : (decide (x = y)) = true → wkO P ops rest N (Fr.put ⟨l, ds⟩ d (.v (.bool true))) (h)) (h2' : (decide (x = y)) = false → wkO P ops rest N (Fr.put ⟨l, ds⟩ d (.v (.bool false))) (h)) (hw : wantA ops ⟨l, ds⟩ ⟨d, .binOp .eql t a b t', ty, pos, aft, gd⟩ = true := by rfl) (ha : evS l a = some (.v (.int k x)) := by rfl) (hb : evS l b = some (.v (.int k y)) := by rfl) : wkO P ops (⟨d, .binOp .eql t a b t', ty, pos, aft, gd⟩ :: rest) N ⟨l, ds⟩ h := s_gB hw (x_eq (e_any ha) (e_any hb)) h1' h2'
theorem qEq  (h1' : (decide (x = y)) = true → wkQ P ops restQ N (Fr.put ⟨l, ds⟩ d (.v (.bool true))) (h)) (h2' : (decide (x = y)) = false → wkQ P ops restQ N (Fr.put ⟨l, ds⟩ d (.v (.bool false))) (h)) (hw : wantA ops ⟨l, ds⟩ ⟨d, .binOp .eql t a b t', ty, pos, aft, gd⟩ = true := by rfl) (ha : evS l a = some (.v (.int k x)) := by rfl) (hb : evS l b = some (.v (.int k y)) := by rfl) : wkQ P ops ((⟨d, .binOp .eql t a b t', ty, pos, aft, gd⟩, zz) :: restQ) N ⟨l, ds⟩ h := q_gB hw (x_eq (e_any ha) (e_any hb)) h1' h2'
theorem sNe  (h1' : (decide (x ≠ y)) = true → wkO P ops rest N (Fr.put ⟨l, ds⟩ d (.v (.bool true))) (h)) (h2' : (decide (x ≠ y)) = false → wkO P ops rest N (Fr.put ⟨l, ds⟩ d (.v (.bool false))) (h)) (hw : wantA ops ⟨l, ds⟩ ⟨d, .binOp .neq t a b t', ty, pos, aft, gd⟩ = true := by rfl) (ha : evS l a = some (.v (.int k x)) := by rfl) (hb : evS l b = some (.v (.int k y)) := by rfl) : wkO P ops (⟨d, .binOp .neq t a b t', ty, pos, aft, gd⟩ :: rest) N ⟨l, ds⟩ h := s_gB hw (x_ne (e_any ha) (e_any hb)) h1' h2'
theorem qNe  (h1' : (decide (x ≠ y)) = true → wkQ P ops restQ N (Fr.put ⟨l, ds⟩ d (.v (.bool true))) (h)) (h2' : (decide (x ≠ y)) = false → wkQ P ops restQ N (Fr.put ⟨l, ds⟩ d (.v (.bool false))) (h)) (hw : wantA ops ⟨l, ds⟩ ⟨d, .binOp .neq t a b t', ty, pos, aft, gd⟩ = true := by rfl) (ha : evS l a = some (.v (.int k x)) := by rfl) (hb : evS l b = some (.v (.int k y)) := by rfl) : wkQ P ops ((⟨d, .binOp .neq t a b t', ty, pos, aft, gd⟩, zz) :: restQ) N ⟨l, ds⟩ h := q_gB hw (x_ne (e_any ha) (e_any hb)) h1' h2'
theorem sLt  (h1' : (decide (x < y)) = true → wkO P ops rest N (Fr.put ⟨l, ds⟩ d (.v (.bool true))) (h)) (h2' : (decide (x < y)) = false → wkO P ops rest N (Fr.put ⟨l, ds⟩ d (.v (.bool false))) (h)) (hw : wantA ops ⟨l, ds⟩ ⟨d, .binOp .lss t a b t', ty, pos, aft, gd⟩ = true := by rfl) (ha : evS l a = some (.v (.int k x)) := by rfl) (hb : evS l b = some (.v (.int k y)) := by rfl) : wkO P ops (⟨d, .binOp .lss t a b t', ty, pos, aft, gd⟩ :: rest) N ⟨l, ds⟩ h := s_gB hw (x_lt (e_any ha) (e_any hb)) h1' h2'
theorem qLt  (h1' : (decide (x < y)) = true → wkQ P ops restQ N (Fr.put ⟨l, ds⟩ d (.v (.bool true))) (h)) (h2' : (decide (x < y)) = false → wkQ P ops restQ N (Fr.put ⟨l, ds⟩ d (.v (.bool false))) (h)) (hw : wantA ops ⟨l, ds⟩ ⟨d, .binOp .lss t a b t', ty, pos, aft, gd⟩ = true := by rfl) (ha : evS l a = some (.v (.int k x)) := by rfl) (hb : evS l b = some (.v (.int k y)) := by rfl) : wkQ P ops ((⟨d, .binOp .lss t a b t', ty, pos, aft, gd⟩, zz) :: restQ) N ⟨l, ds⟩ h := q_gB hw (x_lt (e_any ha) (e_any hb)) h1' h2'
theorem sLe  (h1' : (decide (x ≤ y)) = true → wkO P ops rest N (Fr.put ⟨l, ds⟩ d (.v (.bool true))) (h)) (h2' : (decide (x ≤ y)) = false → wkO P ops rest N (Fr.put ⟨l, ds⟩ d (.v (.bool false))) (h)) (hw : wantA ops ⟨l, ds⟩ ⟨d, .binOp .leq t a b t', ty, pos, aft, gd⟩ = true := by rfl) (ha : evS l a = some (.v (.int k x)) := by rfl) (hb : evS l b = some (.v (.int k y)) := by rfl) : wkO P ops (⟨d, .binOp .leq t a b t', ty, pos, aft, gd⟩ :: rest) N ⟨l, ds⟩ h := s_gB hw (x_le (e_any ha) (e_any hb)) h1' h2'
theorem sGt  (h1' : (decide (y < x)) = true → wkO P ops rest N (Fr.put ⟨l, ds⟩ d (.v (.bool true))) (h)) (h2' : (decide (y < x)) = false → wkO P ops rest N (Fr.put ⟨l, ds⟩ d (.v (.bool false))) (h)) (hw : wantA ops ⟨l, ds⟩ ⟨d, .binOp .gtr t a b t', ty, pos, aft, gd⟩ = true := by rfl) (ha : evS l a = some (.v (.int k x)) := by rfl) (hb : evS l b = some (.v (.int k y)) := by rfl) : wkO P ops (⟨d, .binOp .gtr t a b t', ty, pos, aft, gd⟩ :: rest) N ⟨l, ds⟩ h := s_gB hw (x_gt (e_any ha) (e_any hb)) h1' h2'
theorem qGt  (h1' : (decide (y < x)) = true → wkQ P ops restQ N (Fr.put ⟨l, ds⟩ d (.v (.bool true))) (h)) (h2' : (decide (y < x)) = false → wkQ P ops restQ N (Fr.put ⟨l, ds⟩ d (.v (.bool false))) (h)) (hw : wantA ops ⟨l, ds⟩ ⟨d, .binOp .gtr t a b t', ty, pos, aft, gd⟩ = true := by rfl) (ha : evS l a = some (.v (.int k x)) := by rfl) (hb : evS l b = some (.v (.int k y)) := by rfl) : wkQ P ops ((⟨d, .binOp .gtr t a b t', ty, pos, aft, gd⟩, zz) :: restQ) N ⟨l, ds⟩ h := q_gB hw (x_gt (e_any ha) (e_any hb)) h1' h2'
theorem sGe  (h1' : (decide (y ≤ x)) = true → wkO P ops rest N (Fr.put ⟨l, ds⟩ d (.v (.bool true))) (h)) (h2' : (decide (y ≤ x)) = false → wkO P ops rest N (Fr.put ⟨l, ds⟩ d (.v (.bool false))) (h)) (hw : wantA ops ⟨l, ds⟩ ⟨d, .binOp .geq t a b t', ty, pos, aft, gd⟩ = true := by rfl) (ha : evS l a = some (.v (.int k x)) := by rfl) (hb : evS l b = some (.v (.int k y)) := by rfl) : wkO P ops (⟨d, .binOp .geq t a b t', ty, pos, aft, gd⟩ :: rest) N ⟨l, ds⟩ h := s_gB hw (x_ge (e_any ha) (e_any hb)) h1' h2'
theorem sneB {x1 x2 : Bool} (h1' : (!(x1 == x2)) = true → wkO P ops rest N (Fr.put ⟨l, ds⟩ d (.v (.bool true))) (h)) (h2' : (!(x1 == x2)) = false → wkO P ops rest N (Fr.put ⟨l, ds⟩ d (.v (.bool false))) (h)) (hw : wantA ops ⟨l, ds⟩ ⟨d, .binOp .neq t a b t', ty, pos, aft, gd⟩ = true := by rfl) (hs : CB P t := by infer_instance) (ha : evS l a = some (.v (.bool x1)) := by rfl) (hb : evS l b = some (.v (.bool x2)) := by rfl) : wkO P ops (⟨d, .binOp .neq t a b t', ty, pos, aft, gd⟩ :: rest) N ⟨l, ds⟩ h := s_gB hw (x_neB hs.p (e_any ha) (e_any hb)) h1' h2'
theorem seqS {l1 l2 : List UInt8} (h1' : (decide (l1 = l2)) = true → wkO P ops rest N (Fr.put ⟨l, ds⟩ d (.v (.bool true))) (h)) (h2' : (decide (l1 = l2)) = false → wkO P ops rest N (Fr.put ⟨l, ds⟩ d (.v (.bool false))) (h)) (hw : wantA ops ⟨l, ds⟩ ⟨d, .binOp .eql t a b t', ty, pos, aft, gd⟩ = true := by rfl) (ha : evS l a = some (St l1) := by rfl) (hb : evS l b = some (St l2) := by rfl) : wkO P ops (⟨d, .binOp .eql t a b t', ty, pos, aft, gd⟩ :: rest) N ⟨l, ds⟩ h := s_gB hw (x_eqS (e_any ha) (e_any hb)) h1' h2'
theorem sbn {bo : BinOp} {u1 u2 : AV} {bb : Bool} (h1' : (bb) = true → wkO P ops rest N (Fr.put ⟨l, ds⟩ d (.v (.bool true))) (h)) (h2' : (bb) = false → wkO P ops rest N (Fr.put ⟨l, ds⟩ d (.v (.bool false))) (h)) (hw : wantA ops ⟨l, ds⟩ ⟨d, .binOp bo t a b t', ty, pos, aft, gd⟩ = true := by rfl) (ha : evS l a = some (u1) := by rfl) (hb : evS l b = some (u2) := by rfl) (hr : BN P bo t u1 u2 bb := by infer_instance) : wkO P ops (⟨d, .binOp bo t a b t', ty, pos, aft, gd⟩ :: rest) N ⟨l, ds⟩ h := s_gB hw (x_bin (e_any ha) (e_any hb) hr.p) h1' h2'
theorem sloadB1 {bb : Bool} (h1' : (bb) = true → wkO P ops rest N (Fr.put ⟨l, ds⟩ d (.v (.bool true))) (h)) (h2' : (bb) = false → wkO P ops rest N (Fr.put ⟨l, ds⟩ d (.v (.bool false))) (h)) (hw : wantA ops ⟨l, ds⟩ ⟨d, .load t a, ty, pos, aft, gd⟩ = true := by rfl) (hB : CB P t := by infer_instance) (hs : C1 P t := by infer_instance) (ha : evS l a = some (.ptr i o) := by rfl) (hi : HA h i (.cells cs tt ow) := by infer_instance) (hr : cs[o]? = some (.v (.bool bb)) := by rfl) : wkO P ops (⟨d, .load t a, ty, pos, aft, gd⟩ :: rest) N ⟨l, ds⟩ h := s_gB hw (x_load1 hs.p (e_any ha) hi.p hr) h1' h2'
theorem salloc  (hk : wkO P ops rest N (Fr.put ⟨l, ds⟩ d (.ptr h.length 0)) (h ++ [.cells vs t true])) (hw : wantA ops ⟨l, ds⟩ ⟨d, .alloc t, ty, pos, aft, gd⟩ = true := by rfl) (hz : CZ P t vs := by infer_instance) : wkO P ops (⟨d, .alloc t, ty, pos, aft, gd⟩ :: rest) N ⟨l, ds⟩ h := s_gH hw (x_alloc hz.p) hk
theorem ualloc  (hk : wkX P ops X pd N (Fr.put ⟨l, ds⟩ d (.ptr h.length 0)) (h ++ [.cells vs t true])) (hw : wantA ops ⟨l, ds⟩ ⟨d, .alloc t, ty, pos, aft, gd⟩ = true := by rfl) (hz : CZ P t vs := by infer_instance) (hst : stayG gone pd h (h ++ [.cells vs t true]) := by repeat' first | exact trivial | refine ⟨.inl rfl, ?_⟩ | refine ⟨.inr (by first | rfl | exact List.getElem?_set_ne (by omega) | exact ha_same inferInstance inferInstance | (simp; done)), ?_⟩) : wkX P ops (.alt ⟨d, .alloc t, ty, pos, aft, gd⟩ ii gone X .no) pd N ⟨l, ds⟩ h := u_gH hw (x_alloc hz.p) hst hk
theorem sboxA  (hk : wkO P ops rest N (Fr.put ⟨l, ds⟩ d (.ptr h.length 0)) (h ++ [.cells vs t true])) (hw : wantA ops ⟨l, ds⟩ ⟨d, .box t a, ty, pos, aft, gd⟩ = true := by rfl) (hs : CA P t m := by infer_instance) (ha : evS l a = some (.agg vs) := by rfl) (hp : allOne vs = true := by first | rfl | exact AllP.p) (hv : vs.length = m := by rfl) : wkO P ops (⟨d, .box t a, ty, pos, aft, gd⟩ :: rest) N ⟨l, ds⟩ h := s_gH hw (x_boxA hs.p (e_any ha) hp hv) hk
theorem sstore1  (hk : wkO P ops rest N (Fr.put ⟨l, ds⟩ d (.v undef)) (h.set i (.cells (cs.set o v) tt true))) (hw : wantA ops ⟨l, ds⟩ ⟨d, .store t a b, ty, pos, aft, gd⟩ = true := by rfl) (hs : C1 P t := by infer_instance) (ha : evS l a = some (.ptr i o) := by rfl) (hb : evS l b = some (v) := by rfl) (hp : v.plain = true := by first | rfl | exact PlC.p) (hi : HA h i (.cells cs tt true) := by infer_instance) (hl : o < cs.length := by first | exact Nat.le_refl _ | decide | (simp; done) | (simp only [List.length_cons, List.length_nil, List.length_set]; omega)) : wkO P ops (⟨d, .store t a b, ty, pos, aft, gd⟩ :: rest) N ⟨l, ds⟩ h := s_gH hw (x_store1 hs.p (e_any ha) (e_any hb) hp hi.p hl) hk
theorem sstoreF  (hk : wkO P ops rest N (Fr.put ⟨l, ds⟩ d (.v undef)) (h.set i (.cells vs tt true))) (hw : wantA ops ⟨l, ds⟩ ⟨d, .store t a b, ty, pos, aft, gd⟩ = true := by rfl) (hs : CA P t m := by infer_instance) (ha : evS l a = some (.ptr i 0) := by rfl) (hb : evS l b = some (.agg vs) := by rfl) (hp : allOne vs = true := by first | rfl | exact AllP.p) (hv : vs.length = m := by rfl) (hi : HA h i (.cells cs tt true) := by infer_instance) (hl : cs.length = m := by rfl) : wkO P ops (⟨d, .store t a b, ty, pos, aft, gd⟩ :: rest) N ⟨l, ds⟩ h := s_gH hw (x_storeF hs.p (e_any ha) (e_any hb) hp hv hi.p hl) hk
theorem ustoreF  (hk : wkX P ops X pd N (Fr.put ⟨l, ds⟩ d (.v undef)) (h.set i (.cells vs tt true))) (hw : wantA ops ⟨l, ds⟩ ⟨d, .store t a b, ty, pos, aft, gd⟩ = true := by rfl) (hs : CA P t m := by infer_instance) (ha : evS l a = some (.ptr i 0) := by rfl) (hb : evS l b = some (.agg vs) := by rfl) (hp : allOne vs = true := by first | rfl | exact AllP.p) (hv : vs.length = m := by rfl) (hi : HA h i (.cells cs tt true) := by infer_instance) (hl : cs.length = m := by rfl) (hst : stayG gone pd h (h.set i (.cells vs tt true)) := by repeat' first | exact trivial | refine ⟨.inl rfl, ?_⟩ | refine ⟨.inr (by first | rfl | exact List.getElem?_set_ne (by omega) | exact ha_same inferInstance inferInstance | (simp; done)), ?_⟩) : wkX P ops (.alt ⟨d, .store t a b, ty, pos, aft, gd⟩ ii gone X .no) pd N ⟨l, ds⟩ h := u_gH hw (x_storeF hs.p (e_any ha) (e_any hb) hp hv hi.p hl) hst hk
theorem sbsl {ps : List (Nat × AV)} {parts : Array (Nat × Operand)} {len : Nat} (hk : wkO P ops rest N (Fr.put ⟨l, ds⟩ d (.sl h.length 0 len len false)) (h ++ [.cells cs e true])) (hw : wantA ops ⟨l, ds⟩ ⟨d, .buildSlice t len parts, ty, pos, aft, gd⟩ = true := by rfl) (hl : evP l parts.toList = some ps := by rfl) (hb : BS P t len ps e cs := by infer_instance) : wkO P ops (⟨d, .buildSlice t len parts, ty, pos, aft, gd⟩ :: rest) N ⟨l, ds⟩ h := s_gH hw (x_bsl (evP_eq hl) hb.p) hk
theorem ubsl {ps : List (Nat × AV)} {parts : Array (Nat × Operand)} {len : Nat} (hk : wkX P ops X pd N (Fr.put ⟨l, ds⟩ d (.sl h.length 0 len len false)) (h ++ [.cells cs e true])) (hw : wantA ops ⟨l, ds⟩ ⟨d, .buildSlice t len parts, ty, pos, aft, gd⟩ = true := by rfl) (hl : evP l parts.toList = some ps := by rfl) (hb : BS P t len ps e cs := by infer_instance) (hst : stayG gone pd h (h ++ [.cells cs e true]) := by repeat' first | exact trivial | refine ⟨.inl rfl, ?_⟩ | refine ⟨.inr (by first | rfl | exact List.getElem?_set_ne (by omega) | exact ha_same inferInstance inferInstance | (simp; done)), ?_⟩) : wkX P ops (.alt ⟨d, .buildSlice t len parts, ty, pos, aft, gd⟩ ii gone X .no) pd N ⟨l, ds⟩ h := u_gH hw (x_bsl (evP_eq hl) hb.p) hst hk
theorem sK {op : Op} {g : FuncId} {args : List AV} {rr : AV} (hc : ACalls P g args [] (fun r' _ => r' = rr ∧ r'.sc 0 = true)) (hk : wkO P ops rest N (Fr.put ⟨l, ds⟩ d (rr)) (h)) (hw : wantA ops ⟨l, ds⟩ ⟨d, op, ty, pos, aft, gd⟩ = true := by rfl) (hx : callOf ⟨l, ds⟩ op = some (g, args) := by rfl) (hg : CO P g := by infer_instance) (hs : AV.scs 0 args = true := by rfl) : wkO P ops (⟨d, op, ty, pos, aft, gd⟩ :: rest) N ⟨l, ds⟩ h := s_gK hw hx hg.p hs hc hk
theorem sM {op : Op} {g : FuncId} {args : List AV} {rr : AV} (hc : ACalls P g args h (fun r' h' => r' = rr ∧ h' = h)) (hk : wkO P ops rest N (Fr.put ⟨l, ds⟩ d (rr)) (h)) (hw : wantA ops ⟨l, ds⟩ ⟨d, op, ty, pos, aft, gd⟩ = true := by rfl) (hx : callOf ⟨l, ds⟩ op = some (g, args) := by rfl) (hg : CO P g := by infer_instance) : wkO P ops (⟨d, op, ty, pos, aft, gd⟩ :: rest) N ⟨l, ds⟩ h := s_gM hw hx hg.p hc hk
theorem sX {op : Op} {g : FuncId} {args : List AV} {rr : AV} {H' : Hp} (hc : ACalls P g args h (fun r' h' => r' = rr ∧ h' = H')) (hk : wkO P ops rest N (Fr.put ⟨l, ds⟩ d (rr)) (H')) (hw : wantA ops ⟨l, ds⟩ ⟨d, op, ty, pos, aft, gd⟩ = true := by rfl) (hx : callOf ⟨l, ds⟩ op = some (g, args) := by rfl) (hg : CO P g := by infer_instance) : wkO P ops (⟨d, op, ty, pos, aft, gd⟩ :: rest) N ⟨l, ds⟩ h := s_gX hw hx hg.p hc hk
theorem sC {op : Op} {g : FuncId} {args : List AV} (hc : ACalls P g args h (fun r' h' => wkO P ops rest N (Fr.put ⟨l, ds⟩ d r') h')) (hw : wantA ops ⟨l, ds⟩ ⟨d, op, ty, pos, aft, gd⟩ = true := by rfl) (hx : callOf ⟨l, ds⟩ op = some (g, args) := by rfl) (hg : CO P g := by infer_instance) : wkO P ops (⟨d, op, ty, pos, aft, gd⟩ :: rest) N ⟨l, ds⟩ h := s_gC hw hx hg.p hc
theorem qM {op : Op} {g : FuncId} {args : List AV} {rr : AV} (hc : ACalls P g args h (fun r' h' => r' = rr ∧ h' = h)) (hk : wkQ P ops restQ N (Fr.put ⟨l, ds⟩ d (rr)) (h)) (hw : wantA ops ⟨l, ds⟩ ⟨d, op, ty, pos, aft, gd⟩ = true := by rfl) (hx : callOf ⟨l, ds⟩ op = some (g, args) := by rfl) (hg : CO P g := by infer_instance) : wkQ P ops ((⟨d, op, ty, pos, aft, gd⟩, false) :: restQ) N ⟨l, ds⟩ h := q_gM hw hx hg.p hc hk
theorem sN {op : Op} {gg : Nat × Bool} (hk : wkO P ops rest N (Fr.put ⟨l, ds⟩ d (.v undef)) (h)) (hw : wantA ops ⟨l, ds⟩ ⟨d, op, ty, pos, aft, some gg⟩ = false := by rfl) : wkO P ops (⟨d, op, ty, pos, aft, some gg⟩ :: rest) N ⟨l, ds⟩ h := s_gN hw hk
theorem qN {op : Op} {gg : Nat × Bool} (hk : wkQ P ops restQ N (Fr.put ⟨l, ds⟩ d (.v undef)) (h)) (hw : wantA ops ⟨l, ds⟩ ⟨d, op, ty, pos, aft, some gg⟩ = false := by rfl) : wkQ P ops ((⟨d, op, ty, pos, aft, some gg⟩, zz) :: restQ) N ⟨l, ds⟩ h := q_gN hw hk
theorem sCT {m : Nat} {ro : Option Nat} {K : Exit → Fr → Hp → Prop} {cc dd : Code} (hk : wk P m ro cc K ⟨l, ds⟩ h) (hc : evS l a = some (.v (.bool true)) := by rfl) : wk P m ro (.cond a cc dd) K ⟨l, ds⟩ h := s_condT (e_any hc) hk
theorem sCF {m : Nat} {ro : Option Nat} {K : Exit → Fr → Hp → Prop} {cc dd : Code} (hk : wk P m ro dd K ⟨l, ds⟩ h) (hc : evS l a = some (.v (.bool false)) := by rfl) : wk P m ro (.cond a cc dd) K ⟨l, ds⟩ h := s_condF (e_any hc) hk
end
section
variable {P : Program} {h : Hp} {l : List AV} {t t' tt i o m : Nat} {cs : List AV} {ow : Bool} {r : AV} {fn : Func} {N : AV → Hp → Prop}
/-! Results. -/
class RV (P : Program) (l : List AV) (h : Hp) (v : ResultVar) (r : AV) : Prop where
  p : resOne P ⟨l, []⟩ h v = some r
end
end Go.Az
/-
  Slices of any elements that are passed in, alone or in a struct: what the statement's own memory says of them, as an abstract memory that is only read. Conditions: stated at each theorem.
-/
set_option linter.unusedSimpArgs false
set_option linter.unusedVariables false
namespace Go.Az
open Go Go.Chz Go.ChangeShapes

abbrev vEnc {α : Type} (encV : α → List Value) (x : α) : List AV := (encV x).map AV.v
structure RowX where
  a : Option Addr
  len : Nat
  cap : Nat
  cs : List Value
  t : TypeId
def RowX.obj (r : RowX) : AObj := .cells (r.cs.map AV.v) r.t false
def RowX.av (r : RowX) (i : Nat) : AV := match r.a with
  | none => .v (.slice none 0 0)
  | some _ => .sl i 0 r.len r.cap false
def RowX.place (r : RowX) : Place := match r.a with
  | none => ⟨0, 0, 0⟩
  | some ad => ⟨ad.block, ad.off, r.cap⟩
def rhoX (rs : List RowX) (i : Nat) : Place := match rs[i]? with
  | some r => r.place
  | none => ⟨0, 0, 0⟩
def RowX.ok (W : World) (r : RowX) : Prop := (r.a = none ∧ r.len = 0 ∧ r.cap = 0 ∧ r.cs = []) ∨ ∃ ad, r.a = some ad ∧ r.len ≤ r.cap ∧ ad.spot = none ∧ ∀ j v, r.cs[j]? = some v → W.cell? (ad.add j) = some v
theorem rowsX_hrel {P : Program} {W : World} {rs : List RowX} (h : ∀ r ∈ rs, r.ok W) : HRel P (rhoX rs) (rs.map RowX.obj) W := by
  refine ⟨?_, ?_, ?_⟩
  · intro i o hi
    rw [List.getElem?_map] at hi
    obtain ⟨r, hr, rfl⟩ := Option.map_eq_some_iff.1 hi
    refine ⟨?_, fun hf => by cases hf⟩
    intro j a hj
    rw [List.getElem?_map] at hj
    obtain ⟨x, hx, rfl⟩ := Option.map_eq_some_iff.1 hj
    rcases h r (List.mem_of_getElem? hr) with ⟨_, _, _, hz⟩ | ⟨ad, ha, _, hsp, hc⟩
    · rw [hz] at hx; cases hx
    · have h1 := hc j x hx
      have e1 : rhoX rs i = ⟨ad.block, ad.off, r.cap⟩ := by simp only [rhoX, hr, RowX.place, ha]
      have e2 : (⟨ad.block, ad.off + j, none⟩ : Addr) = ad.add j := by
        cases ad with
        | mk b o s => simp only at hsp; subst hsp; rw [add0]
      rw [e1]
      simp only [e2, h1, AV.real]
  · intro i o hi
    rw [List.getElem?_map] at hi
    obtain ⟨r, hr, rfl⟩ := Option.map_eq_some_iff.1 hi
    show AV.scs _ _ = true
    exact (scs_iff _ _).2 fun a ha => by
      obtain ⟨x, _, rfl⟩ := List.mem_map.1 ha
      rfl
  · intro i j o o' hi hj ho
    rw [List.getElem?_map] at hi
    obtain ⟨r, hr, rfl⟩ := Option.map_eq_some_iff.1 hi
    cases ho
theorem rowsX_own {rs : List RowX} : ∀ o ∈ rs.map RowX.obj, o.own = false := by
  intro o ho
  obtain ⟨r, _, rfl⟩ := List.mem_map.1 ho
  rfl
theorem rowX_real {W : World} {rs : List RowX} {i : Nat} {r : RowX} (hr : rs[i]? = some r) (h : r.ok W) : (r.av i).real (rhoX rs) = .slice r.a r.len r.cap := by
  rcases h with ⟨ha, hl, hc, _⟩ | ⟨ad, ha, _, hsp, _⟩
  · simp only [RowX.av, ha, AV.real, hl, hc]
  · simp only [RowX.av, ha, AV.real, rhoX, hr, RowX.place, Nat.add_zero, Bool.false_eq_true, if_false]
    cases ad with
    | mk b o s => simp only at hsp; subst hsp; rfl
theorem rowX_sc {rs : List RowX} {i : Nat} {r : RowX} (hr : rs[i]? = some r) : (r.av i).sc (rs.map RowX.obj).length = true := by
  unfold RowX.av
  split
  · rfl
  · have := (List.getElem?_eq_some_iff.1 hr).1
    simp [AV.sc, this]
/-- The slice value of the world W, and what its whole row holds. -/
def IsRowX {α : Type} (encV : α → List Value) (wf : α → Prop) (W : World) (a : Option Addr) (len cap : Nat) (zs : List α) : Prop :=
  (a = none ∧ len = 0 ∧ cap = 0 ∧ zs = []) ∨ ∃ ad, a = some ad ∧ len ≤ cap ∧ cap ≤ maxLen ∧ zs.length = cap ∧ ad.spot = none ∧ (∀ j v, (zs.flatMap encV)[j]? = some v → W.cell? (ad.add j) = some v) ∧ ∀ z ∈ zs, wf z
section
variable {α : Type} {encV : α → List Value} {wf : α → Prop} {W : World} {a : Option Addr} {len cap : Nat} {zs : List α} {t : TypeId} {q : Nat}
theorem IsRowX.ok (h : IsRowX encV wf W a len cap zs) (t : TypeId) : (RowX.mk a len cap (zs.flatMap encV) t).ok W := by
  rcases h with ⟨h1, h2, h3, h4⟩ | ⟨ad, h1, h2, h3, h4, h5, h6, h7⟩
  · exact .inl ⟨h1, h2, h3, by simp [h4]⟩
  · exact .inr ⟨ad, h1, h2, h5, h6⟩
theorem vflat (encV : α → List Value) : ∀ zs : List α, (zs.flatMap encV).map AV.v = zs.flatMap (vEnc encV)
  | [] => rfl
  | z :: r => by simp only [List.flatMap_cons, List.map_append, vflat encV r]
theorem rowX_elts {rs : List RowX} {i : Nat} (hE : EncOk (vEnc encV) q) (h : IsRowX encV wf W a len cap zs) (hr : rs[i]? = some (RowX.mk a len cap (zs.flatMap encV) t)) : Elts (vEnc encV) q (rs.map RowX.obj) ((RowX.mk a len cap (zs.flatMap encV) t).av i) (zs.take len) := by
  rcases h with ⟨h1, h2, h3, h4⟩ | ⟨ad, h1, h2, h3, h4, h5, h6, h7⟩
  · left; simp [RowX.av, h1, h4]
  · right
    have e : (zs.take len).length = len := by rw [List.length_take, Nat.min_eq_left (by omega)]
    refine ⟨i, 0, cap, false, (zs.flatMap encV).map AV.v, t, false, by simp only [RowX.av, h1, e], by rw [List.getElem?_map, hr]; rfl, ?_, ?_⟩
    · rw [e, vflat, flat_len hE]
      have := Nat.mul_le_mul_right q h2
      rw [h4]; omega
    · rw [e, List.drop_zero, vflat, flat_take hE]
end

/-! ### Out of the statement's memory -/
theorem cell_of_value {P : Program} {w : World} {r : Reach} {b : Nat} {t e : TypeId} {v : Value} (ht : P.underlying t = some (.slice e)) (h : Value.okWide P w r b t v) : Cell.okWide P w r b t v := by
  simpa only [Value.okWide, ht] using h
theorem cell_slice {P : Program} {w : World} {r : Reach} {b : Nat} {t e : TypeId} {v : Value} (ht : P.underlying t = some (.slice e)) (h : Cell.okWide P w r b t v) : ∃ a len cap, v = .slice a len cap ∧ (∀ ad, a = some ad → ad.spot = none) := by
  simp only [Cell.okWide, ht, Cell.ok] at h
  cases v with
  | slice a len cap =>
    cases a with
    | none => exact ⟨none, len, cap, rfl, fun ad h => by cases h⟩
    | some ad => exact ⟨some ad, len, cap, rfl, fun ad' h' => by injection h' with h'; subst h'; exact h.2.2.2.1⟩
  | _ => exact absurd h (by simp)
theorem add_add (ad : Addr) (h : ad.spot = none) (i j : Nat) : (ad.add i).add j = ad.add (i + j) := by
  cases ad with
  | mk b o s => simp only at h; subst h; rw [add0, add0, add0, Nat.add_assoc]
theorem open_rows {H : Type} {enc : TypeId × Value → H} {P : Program} {W : World} {α : Type} {encV : α → List Value} {wf : α → Prop} {t e : TypeId} {q fuel : Nat} {v : Value} {r : Reach} {b : Nat} {y : DataW H × List MemPlace} (ht : P.underlying t = some (.slice e)) (hq : P.cellsOf e = q)
    (hlen : ∀ x, (encV x).length = q)
    (el : ∀ n cs y, DataW.trod enc P W 0 (fun _ => true) true n e cs = some y → ∃ x : α, wf x ∧ cs = encV x)
    (hc : Cell.okWide P W r b t v) (h : DataW.trod enc P W 0 (fun _ => true) true fuel t [v] = some y) : ∃ a len cap zs, v = .slice a len cap ∧ IsRowX encV wf W a len cap zs := by
  obtain ⟨a, len, cap, rfl, hsp⟩ := cell_slice ht hc
  rcases DataW.trod_slice ht h with ⟨h0, _⟩ | ⟨ad, len', cap', elems, rest, n, _, h0, _, hb, hl, hm, hlen', hel, hspare, _⟩
  · simp only [List.cons.injEq, Value.slice.injEq, and_true] at h0
    obtain ⟨rfl, rfl, rfl⟩ := h0
    exact ⟨none, 0, 0, [], rfl, .inl ⟨rfl, rfl, rfl, rfl⟩⟩
  · simp only [List.cons.injEq, Value.slice.injEq, and_true] at h0
    obtain ⟨rfl, rfl, rfl⟩ := h0
    have hs := hsp ad rfl
    have each : ∀ i, i < cap → ∃ x : α, wf x ∧ ∀ j v, (encV x)[j]? = some v → W.cell? (ad.add (i * q + j)) = some v := by
      intro i hi
      obtain ⟨hrl, hr⟩ := hspare rfl
      have hb' : ∃ y, (W.cells? 0 (ad.add (i * P.cellsOf e)) (P.cellsOf e)).bind (DataW.trod enc P W 0 (fun _ => true) true n e) = some y := by
        by_cases hi2 : i < len
        · rw [hel i hi2, List.getElem?_eq_getElem (by omega)]; exact ⟨_, rfl⟩
        · have := hr (i - len) (by omega)
          rw [show len + (i - len) = i by omega] at this
          rw [this, List.getElem?_eq_getElem (by omega)]; exact ⟨_, rfl⟩
      obtain ⟨y, hy⟩ := hb'
      rw [hq, Option.bind_eq_some_iff] at hy
      obtain ⟨cs, hcs, hy⟩ := hy
      obtain ⟨x, hx, rfl⟩ := el n cs y hy
      refine ⟨x, hx, fun j v hj => ?_⟩
      have h3 := (World.cells?_some hcs).2.2 j (by have := (List.getElem?_eq_some_iff.1 hj).1; rw [hlen] at this; exact this)
      rw [add_add ad hs] at h3
      rw [h3, hj]
    have build : ∀ m, m ≤ cap → ∃ zs : List α, zs.length = m ∧ (∀ z ∈ zs, wf z) ∧ ∀ j v, (zs.flatMap encV)[j]? = some v → W.cell? (ad.add j) = some v := by
      intro m
      induction m with
      | zero => exact fun _ => ⟨[], rfl, fun z hz => (by cases hz), fun j v h => (by simp at h)⟩
      | succ m ih =>
        intro hm'
        obtain ⟨zs, h1, h2, h3⟩ := ih (by omega)
        obtain ⟨x, hx, hxc⟩ := each m (by omega)
        have hfl : ∀ zs : List α, (zs.flatMap encV).length = zs.length * q := by
          intro zs
          induction zs with
          | nil => simp
          | cons z r ih => rw [List.flatMap_cons, List.length_append, hlen, ih, List.length_cons, Nat.succ_mul]; omega
        refine ⟨zs ++ [x], by simp [h1], fun z hz => ?_, fun j v hj => ?_⟩
        · rcases List.mem_append.1 hz with h | h
          · exact h2 z h
          · simp at h; subst h; exact hx
        · rw [List.flatMap_append] at hj
          by_cases hlt : j < (zs.flatMap encV).length
          · rw [List.getElem?_append_left hlt] at hj
            exact h3 j v hj
          · rw [List.getElem?_append_right (by omega)] at hj
            rw [hfl, h1] at hj hlt
            have := hxc (j - m * q) v (by simpa using hj)
            rwa [show m * q + (j - m * q) = j by omega] at this
    obtain ⟨zs, h1, h2, h3⟩ := build cap (Nat.le_refl _)
    exact ⟨some ad, len, cap, zs, rfl, .inr ⟨ad, rfl, hl, hm, h1, hs, h3, h2⟩⟩
theorem el_int {H : Type} {enc : TypeId × Value → H} {P : Program} {W : World} {e : TypeId} {k : IntKind} (he : P.underlying e = some (.int k)) : ∀ n cs y, DataW.trod enc P W 0 (fun _ => true) true n e cs = some y → ∃ x : Int, (k.min ≤ x ∧ x ≤ k.max) ∧ cs = [.int k x] := by
  intro n cs y h
  obtain ⟨m, rfl, rfl, hw⟩ := DataW.trod_int he h
  simp only [Lit.wf, Bool.and_eq_true, decide_eq_true_eq] at hw
  exact ⟨m, hw, rfl⟩
end Go.Az
/-
  Short names for the equations that bring a walk's frame into its plain form. Conditions: stated at each theorem.
-/
set_option linter.unusedSimpArgs false
set_option linter.unusedVariables false
namespace Go.Az
open Go Go.Chz
theorem pu' {l : List AV} {ds : List Nat} {d : Tmp} {v : AV} : Fr.put ⟨l, ds⟩ (some d) v = ⟨l.set d v, ds⟩ := rfl
theorem p0' {l : List AV} {ds : List Nat} {v : AV} : Fr.put ⟨l, ds⟩ none v = ⟨l, ds⟩ := rfl
theorem c1' {α : Type} {l : List α} {a b : α} {n : Nat} : (a :: l).set (n + 1) b = a :: l.set n b := rfl
theorem c0' {α : Type} {l : List α} {a b : α} : (a :: l).set 0 b = b :: l := rfl
theorem i1' {n : Nat} : ((n : Nat) : Int).toNat = n := rfl
theorem z0' {n : Nat} : 0 + n = n := Nat.zero_add n
theorem a0' {α : Type} {l k m : List α} : l ++ k ++ m = l ++ (k ++ m) := List.append_assoc l k m
theorem a1' {α : Type} {l k : List α} {a : α} : a :: l ++ k = a :: (l ++ k) := rfl
theorem a2' {α : Type} {l : List α} : [] ++ l = l := rfl
theorem n0' {α : Type} {l k : List α} : (l ++ k).length = l.length + k.length := List.length_append
theorem n1' {α : Type} {l : List α} {a : α} : (a :: l).length = l.length + 1 := rfl
theorem n2' {α : Type} : ([] : List α).length = 0 := rfl
theorem n3' {α : Type} {l : List α} {a : α} {n : Nat} : (l.set n a).length = l.length := List.length_set
theorem n4' {α : Type} {a : α} {n : Nat} : (List.replicate n a).length = n := List.length_replicate
theorem n5' {a b c : Nat} : a + b + c = a + (b + c) := Nat.add_assoc a b c
theorem dT' {p : Prop} [Decidable p] (h : decide p = true) : p := of_decide_eq_true h
theorem dF' {p : Prop} [Decidable p] (h : decide p = false) : ¬ p := of_decide_eq_false h
theorem bX' {b : Bool} {p : Prop} (h1 : b = true) (h2 : b = false) : p := by rw [h1] at h2; cases h2

instance {H r : Hp} {i : Nat} {o : AObj} [x : HA H i o] : HA (H ++ r) i o := ⟨by
  have h := x.p
  have hi : i < H.length := by
    rcases Nat.lt_or_ge i H.length with h1 | h1
    · exact h1
    · rw [List.getElem?_eq_none h1] at h; cases h
  rw [List.getElem?_append_left hi]; exact h⟩

/-! ### Cuts: what follows is walked once -/
section
variable {P : Program} {m : Nat} {ro : Option Nat} {ops : Array Oper}
theorem wkL_mono {K K' : Fr → Hp → Prop} (hn : ∀ f h, K f h → K' f h) : ∀ (l : List Nat) (f : Fr) (h : Hp), wkL P ops l K f h → wkL P ops l K' f h
  | [], f, h, hk => hn f h hk
  | i :: r, f, h, hk => by
    simp only [wkL] at hk ⊢
    cases ho : ops[i]? with
    | none => simp only [ho] at hk ⊢; exact wkL_mono hn r f h hk
    | some o =>
      simp only [ho] at hk ⊢
      split
      · rename_i hw; rw [if_pos hw] at hk
        exact wop_mono (fun v h' hh => wkL_mono hn r _ h' hh) hk
      · rename_i hw; rw [if_neg hw] at hk
        exact wkL_mono hn r _ h hk
theorem wkD_mono {K K' : Fr → Hp → Prop} {h0 : Hp} (hn : ∀ f h, K f h → K' f h) : ∀ (l : List (Nat × Bool)) (f : Fr) (h : Hp), wkD P ops h0 l K f h → wkD P ops h0 l K' f h
  | [], f, h, hk => hn f h hk
  | (i, true) :: r, f, h, hk => by
    simp only [wkD] at hk ⊢
    cases ho : ops[i]? with
    | none => simp only [ho] at hk
    | some o =>
      simp only [ho] at hk ⊢
      split
      · rename_i hw; rw [if_pos hw] at hk
        obtain ⟨v, hv, hk⟩ := hk
        exact ⟨v, hv, wkD_mono hn r _ h hk⟩
      · rename_i hw; rw [if_neg hw] at hk
        exact wkD_mono hn r _ h hk
  | (i, false) :: r, f, h, hk => by
    simp only [wkD] at hk ⊢
    cases ho : ops[i]? with
    | none => simp only [ho] at hk
    | some o =>
      simp only [ho] at hk ⊢
      split
      · rename_i hw; rw [if_pos hw] at hk
        exact wop_mono (fun v h' hh => ⟨hh.1, wkD_mono hn r _ h' hh.2⟩) hk
      · rename_i hw; rw [if_neg hw] at hk
        exact wkD_mono hn r _ h hk
theorem wkT_mono {K K' : Fr → Hp → Prop} (hn : ∀ f h, K f h → K' f h) : ∀ (T : Ord) (pd : List (Nat × Nat)) (f : Fr) (h : Hp), wkT P ops T pd K f h → wkT P ops T pd K' f h
  | .done, pd, f, h, hk => hn f h hk
  | .no, pd, f, h, hk => trivial
  | .light i r, pd, f, h, hk => by
    simp only [wkT] at hk ⊢
    cases ho : ops[i]? with
    | none => simp only [ho] at hk
    | some o =>
      simp only [ho] at hk ⊢
      split
      · rename_i hw; rw [if_pos hw] at hk
        obtain ⟨v, hv, hk⟩ := hk
        exact ⟨v, hv, wkT_mono hn r _ _ h hk⟩
      · rename_i hw; rw [if_neg hw] at hk
        exact wkT_mono hn r _ _ h hk
  | .alt i gone r rest, pd, f, h, hk => by
    simp only [wkT] at hk ⊢
    cases ho : ops[i]? with
    | none => simp only [ho] at hk; exact hk.1.elim
    | some o =>
      simp only [ho] at hk ⊢
      refine ⟨?_, wkT_mono hn rest pd f h hk.2⟩
      replace hk := hk.1
      split
      · rename_i hw; rw [if_pos hw] at hk
        exact wop_mono (fun v h' hh => ⟨hh.1, wkT_mono hn r _ _ h' hh.2⟩) hk
      · rename_i hw; rw [if_neg hw] at hk
        exact wkT_mono hn r _ _ h hk
theorem wk_mono : ∀ (c : Code) {K K' : Exit → Fr → Hp → Prop} (f : Fr) (h : Hp), (∀ e f h, K e f h → K' e f h) → wk P m ro c K f h → wk P m ro c K' f h
  | .skip, K, K', f, h, hn, hk => hn _ _ _ hk
  | .region _ ops false, K, K', f, h, hn, hk => wkL_mono (fun f h => hn _ f h) _ f h hk
  | .region _ ops true, K, K', f, h, hn, hk => by
    rcases hk with ⟨l, h0, a, b, c, hk⟩ | ⟨T, hv, a, hk⟩
    · exact .inl ⟨l, h0, a, b, c, wkD_mono (fun f h => hn _ f h) l f h hk⟩
    · exact .inr ⟨T, hv, a, wkT_mono (fun f h => hn _ f h) T [] f h hk⟩
  | .seq a b, K, K', f, h, hn, hk => wk_mono a f h (fun e f h hk => by
      cases e with
      | normal => exact wk_mono b f h hn hk
      | _ => exact hn _ _ _ hk) hk
  | .cond c a b, K, K', f, h, hn, ⟨t, h1, h2, h3⟩ => ⟨t, h1, fun ht => wk_mono a f h hn (h2 ht), fun ht => wk_mono b f h hn (h3 ht)⟩
  | .block id b, K, K', f, h, hn, hk => wk_mono b f h (fun e f h hk => by
      cases e with
      | exit i =>
        show (if _ then _ else _)
        have hk' : (if i = id then K .normal f h else K (.exit i) f h) := hk
        split
        · rename_i hi; rw [if_pos hi] at hk'; exact hn _ _ _ hk'
        · rename_i hi; rw [if_neg hi] at hk'; exact hn _ _ _ hk'
      | _ => exact hn _ _ _ hk) hk
  | .exit id, K, K', f, h, hn, hk => hn _ _ _ hk
  | .label _, K, K', f, h, hn, hk => hn _ _ _ hk
  | .ret, K, K', f, h, hn, hk => hn _ _ _ hk
  | .loop _, K, K', f, h, hn, hk => AW.mono hk hn
  | .rangeFunc .., K, K', f, h, hn, hk => AW.mono hk hn
  | .scope _, K, K', f, h, hn, hk => AW.mono hk hn
  | .goto _, K, K', f, h, hn, hk => AW.mono hk hn
  | .refuse _, K, K', f, h, hn, hk => AW.mono hk hn
/-- What is so behind a piece of code, however it was reached. -/
def At {β : Type} (F : β → (Nat → AV) → List AV) (H : β → Hp) (ok : β → Prop) (ds : List Nat) : Fr → Hp → Prop := fun f h => ∃ b s, ok b ∧ f = ⟨F b s, ds⟩ ∧ h = H b
theorem at_in {β : Type} {F : β → (Nat → AV) → List AV} {H : β → Hp} {ok : β → Prop} {ds : List Nat} {l : List AV} {h : Hp} (b : β) (h1 : ok b) (h3 : l = F b fun k => l.getD k (.v undef)) (h4 : h = H b) : At F H ok ds ⟨l, ds⟩ h := ⟨b, _, h1, congrArg (Fr.mk · ds) h3, h4⟩
/-- A cut where a piece of code ends normally. -/
theorem s_cut {β : Type} (F : β → (Nat → AV) → List AV) (H : β → Hp) (ok : β → Prop) {c : Code} {N : Fr → Hp → Prop} {K : Exit → Fr → Hp → Prop} {ds : List Nat} {l : List AV} {h : Hp} (hk : wk P m ro c (thenK (At F H ok ds) K) ⟨l, ds⟩ h) (hn : ∀ b s, ok b → N ⟨F b s, ds⟩ (H b)) : wk P m ro c (thenK N K) ⟨l, ds⟩ h :=
  wk_mono c _ _ (fun e f h hh => by
    cases e with
    | normal => obtain ⟨b, s, h1, rfl, rfl⟩ := hh; exact hn b s h1
    | _ => exact hh) hk
end
section
variable {P : Program} {l : List AV} {ds : List Nat} {h : Hp} {ops : Array Oper} {N : Fr → Hp → Prop} {d : Option Tmp} {ty : TypeId} {pos : String} {aft : Array Edge} {gd : Option (Nat × Bool)} {X : OrdX} {pd : List (Nat × Nat)} {ii : Nat} {gone : List Nat}
theorem uC {op : Op} {g : FuncId} {args : List AV} (hc : ACalls P g args h (fun r' h' => stayG gone pd h h' ∧ wkX P ops X pd N (Fr.put ⟨l, ds⟩ d r') h')) (hw : wantA ops ⟨l, ds⟩ ⟨d, op, ty, pos, aft, gd⟩ = true := by rfl) (hx : callOf ⟨l, ds⟩ op = some (g, args) := by rfl) (hg : CO P g := by infer_instance) : wkX P ops (.alt ⟨d, op, ty, pos, aft, gd⟩ ii gone X .no) pd N ⟨l, ds⟩ h := u_gC hw hx hg.p hc
end
theorem elts_at {α : Type} {enc : α → List AV} {q : Nat} (hE : EncOk enc q) {h : Hp} {i c : Nat} {u : Bool} {cs : List AV} {t : TypeId} {ow : Bool} {l : List α} (hi : HA h i (.cells cs t ow)) (hc : cs = l.flatMap enc) : Elts enc q h (.sl i 0 l.length c u) l := by
  refine .inr ⟨i, 0, c, u, cs, t, ow, rfl, hi.p, ?_, ?_⟩
  · rw [hc, flat_len hE]; omega
  · rw [hc, List.drop_zero, List.take_of_length_le (by rw [flat_len hE]; omega)]
theorem s_scope {P : Program} {m : Nat} {ro : Option Nat} (hm : P.follows .mixedOrders = true) {b : Code} {K : Exit → Fr → Hp → Prop} {f : Fr} {h : Hp} (hk : wk P m ro b (noGo K) f h) : wk P m ro (.scope b) K f h := aw_scope (wk_ok hm b _ f h hk)
theorem s_ngR {K : Exit → Fr → Hp → Prop} {f : Fr} {h : Hp} (hk : K .ret f h) : noGo K .ret f h := hk
theorem tmod_lo {n m : Int} (hm : 0 < m) (h : n.tmod m < 0) : n.tmod m + m = n % m := by
  have := Int.tmod_eq_emod (a := n) (b := m)
  have h2 := Int.emod_nonneg n (show m ≠ 0 by omega)
  rw [this] at h ⊢
  split at h
  · omega
  · rename_i hc
    rw [if_neg hc]; omega
theorem tmod_hi {n m : Int} (hm : 0 < m) (h : ¬ n.tmod m < 0) : n.tmod m = n % m := by
  have := Int.tmod_eq_emod (a := n) (b := m)
  have h2 := Int.emod_lt_of_pos n hm
  rw [this] at h ⊢
  split at h
  · rename_i hc
    rw [if_pos hc]; omega
  · omega
end Go.Az
/-
  Memory in pieces that lie apart; ranges over functions. Conditions: stated at each theorem.
-/
set_option linter.unusedSimpArgs false
set_option linter.unusedVariables false
namespace Go.Az
open Go Go.Chz

/-! ### Pieces -/
structure Pc where
  foot : Option Nat
  ok : Hp → Prop
  loc : ∀ {H H' : Hp} {o : Option Nat}, Oth o H H' → (∀ i, foot = some i → o ≠ some i) → ok H → ok H'
  lt : ∀ {H : Hp} {i : Nat}, foot = some i → ok H → i < H.length
/-- A cell. -/
def pcC (i : Nat) (o : AObj) : Pc where
  foot := some i
  ok := fun H => H[i]? = some o
  loc := fun x hne hi => x.get hi (hne i rfl)
  lt := fun h hi => by injection h with h; subst h; exact (List.getElem?_eq_some_iff.1 hi).1
/-- A slice of the call's own. -/
def pcW {α : Type} (enc : α → List AV) (q : Nat) (e : TypeId) (s : AV) (l : List α) : Pc where
  foot := objOf s
  ok := fun H => Own enc q e H s l
  loc := fun x hne hO => hO.oth x hne
  lt := fun h hO => hO.lt h
class Sep (h : outParam Hp) (Y : Hp) (L : outParam (List Pc)) : Prop where
  ext : Ext h Y
  all : ∀ p ∈ L, p.ok Y
  low : ∀ p ∈ L, ∀ i, p.foot = some i → h.length ≤ i
  dis : L.Pairwise fun p q => ∀ i, p.foot = some i → q.foot ≠ some i
class MemC (L : List Pc) (i : Nat) (o : outParam AObj) : Prop where
  p : pcC i o ∈ L
class SetC (L : List Pc) (i : Nat) (o' : AObj) (L' : outParam (List Pc)) : Prop where
  p : ∃ k o, L[k]? = some (pcC i o) ∧ L' = L.set k (pcC i o')
instance {i : Nat} {o : AObj} {L : List Pc} : MemC (pcC i o :: L) i o := ⟨by simp⟩
instance (priority := low) {i : Nat} {o : AObj} {p : Pc} {L : List Pc} [x : MemC L i o] : MemC (p :: L) i o := ⟨by simp [x.p]⟩
instance {i : Nat} {o o' : AObj} {L : List Pc} : SetC (pcC i o :: L) i o' (pcC i o' :: L) := ⟨⟨0, o, rfl, rfl⟩⟩
instance (priority := low) {i : Nat} {o' : AObj} {p : Pc} {L L' : List Pc} [x : SetC L i o' L'] : SetC (p :: L) i o' (p :: L') := ⟨by
  obtain ⟨k, o, h1, h2⟩ := x.p
  exact ⟨k + 1, o, h1, by rw [h2]; rfl⟩⟩
instance (priority := low) {i : Nat} {o : AObj} {E L : List Pc} [x : MemC L i o] : MemC (E ++ L) i o := ⟨List.mem_append_right _ x.p⟩
instance (priority := low) {i : Nat} {o : AObj} {E L : List Pc} [x : MemC L i o] : MemC (L ++ E) i o := ⟨List.mem_append_left _ x.p⟩
theorem wk_gen {P : Program} {m : Nat} {ro : Option Nat} {c : Code} {K : Exit → Fr → Hp → Prop} {f : Fr} {h Y0 : Hp} {L : List Pc} (s : Sep h Y0 L) (hk : ∀ Y, Sep h Y L → wk P m ro c K f Y) : wk P m ro c K f Y0 := hk Y0 s
section
variable {h Y Y' : Hp} {L L' : List Pc} {p p' : Pc} {i k : Nat} {o : AObj}
instance [s : Sep h Y L] [m : MemC L i o] : HA Y i o := ⟨s.all _ m.p⟩
theorem Sep.nil (h : Hp) : Sep h h [] := ⟨Ext.refl h, by simp, by simp, by simp⟩
theorem Sep.sub {h Y : Hp} {L L' : List Pc} (s : Sep h Y L) (hl : L'.Sublist L) : Sep h Y L' := ⟨s.ext, fun p hp => s.all p (hl.subset hp), fun p hp => s.low p (hl.subset hp), s.dis.sublist hl⟩
theorem Sep.more {h Y : Hp} {L : List Pc} (s : Sep h Y L) (x : Ext Y Y') : Sep h Y' L := ⟨s.ext.trans x, fun p hp => p.loc (o := none) (Oth.of_ext x) (fun _ _ => by simp) (s.all p hp), s.low, s.dis⟩
theorem Sep.push {h Y : Hp} {L : List Pc} (s : Sep h Y L) (o : AObj) : Sep h (Y ++ [o]) (L ++ [pcC Y.length o]) := by
  have t := s.more (Y' := Y ++ [o]) (ext_app _ _)
  refine ⟨t.ext, ?_, ?_, ?_⟩
  · intro p hp
    rcases List.mem_append.1 hp with hp | hp
    · exact t.all p hp
    · simp only [List.mem_singleton] at hp; subst hp
      show (Y ++ [o])[Y.length]? = some o
      simp
  · intro p hp i hi
    rcases List.mem_append.1 hp with hp | hp
    · exact t.low p hp i hi
    · simp only [List.mem_singleton] at hp; subst hp
      injection hi with hi; subst hi; exact s.ext.1
  · refine List.pairwise_append.2 ⟨t.dis, by simp, ?_⟩
    intro p hp q hq i hi hqi
    simp only [List.mem_singleton] at hq; subst hq
    injection hqi with hqi; subst hqi
    have := p.lt hi (s.all p hp)
    omega
theorem Sep.push2 {h Y : Hp} {L : List Pc} (s : Sep h Y L) (o1 o2 : AObj) : Sep h (Y ++ [o1, o2]) (L ++ [pcC Y.length o1, pcC (Y.length + 1) o2]) := by
  have := (s.push o1).push o2
  simpa only [List.append_assoc, List.singleton_append, List.length_append, List.length_singleton] using this
theorem Sep.push3 {h Y : Hp} {L : List Pc} (s : Sep h Y L) (o1 o2 o3 : AObj) : Sep h (Y ++ [o1, o2, o3]) (L ++ [pcC Y.length o1, pcC (Y.length + 1) o2, pcC (Y.length + 2) o3]) := by
  have := (s.push2 o1 o2).push o3
  simpa only [List.append_assoc, List.singleton_append, List.length_append, List.length_singleton, List.cons_append, List.nil_append, List.length_cons, List.length_nil] using this
def litP (n : Nat) (L : List AObj) : List Pc := (List.range L.length).map fun j => pcC (n + j) (L.getD j .gone)
theorem litP_snoc (n : Nat) (L : List AObj) (o : AObj) : litP n (L ++ [o]) = litP n L ++ [pcC (n + L.length) o] := by
  have e1 : (List.range L.length).map (fun j => pcC (n + j) ((L ++ [o]).getD j .gone)) = (List.range L.length).map (fun j => pcC (n + j) (L.getD j .gone)) := by
    refine List.map_congr_left fun j hj => ?_
    rw [List.mem_range] at hj
    simp [List.getD_eq_getElem?_getD, List.getElem?_append_left hj]
  have e2 : (L ++ [o]).getD L.length .gone = o := by simp [List.getD_eq_getElem?_getD]
  simp only [litP, List.length_append, List.length_singleton, List.range_succ, List.map_append, List.map_cons, List.map_nil, e1, e2]
theorem Sep.litsA (h : Hp) : ∀ (L2 L1 : List AObj), Sep h (h ++ L1) (litP h.length L1) → Sep h (h ++ (L1 ++ L2)) (litP h.length (L1 ++ L2))
  | [], L1, s => by rw [List.append_nil]; exact s
  | o :: L2, L1, s => by
    have := Sep.litsA h L2 (L1 ++ [o]) (by
      have := s.push o
      rw [litP_snoc, ← List.append_assoc]
      simpa only [List.length_append] using this)
    simpa only [List.append_assoc, List.singleton_append] using this
theorem Sep.lits (h : Hp) (L : List AObj) : Sep h (h ++ L) (litP h.length L) := Sep.litsA h L [] (by rw [List.append_nil]; exact Sep.nil h)
/-- One piece is turned into another. -/
theorem Sep.turn {h Y Y' : Hp} {L : List Pc} (s : Sep h Y L) {k : Nat} {p p' : Pc} (hk : L[k]? = some p) (x : Oth p.foot Y Y') (hp' : p'.ok Y') (hf : ∀ i, p'.foot = some i → p.foot = some i ∨ Y.length ≤ i) : Sep h Y' (L.set k p') := by
  have hkl : k < L.length := (List.getElem?_eq_some_iff.1 hk).1
  have hke : L[k] = p := (List.getElem?_eq_some_iff.1 hk).2
  have hpL : p ∈ L := List.mem_of_getElem? hk
  have hne : ∀ j (hj : j < L.length), j ≠ k → ∀ i, L[j].foot = some i → p.foot ≠ some i := by
    intro j hj hjk i hi hpi
    have hd := List.pairwise_iff_getElem.1 s.dis
    rcases Nat.lt_or_gt_of_ne hjk with hlt | hgt
    · exact hd j k hj hkl hlt i hi (by rw [hke]; exact hpi)
    · exact hd k j hkl hj hgt i (by rw [hke]; exact hpi) hi
  have hall : ∀ j (hj : j < L.length), j ≠ k → L[j].ok Y' := fun j hj hjk => L[j].loc x (hne j hj hjk) (s.all _ (List.getElem_mem hj))
  refine ⟨⟨Nat.le_trans s.ext.1 x.1, fun i hi => ?_⟩, ?_, ?_, ?_⟩
  · rw [x.2 i (Nat.lt_of_lt_of_le hi s.ext.1) (fun e => by have := s.low p hpL i e; omega)]
    exact s.ext.2 i hi
  · intro q hq
    obtain ⟨j, hj, hjq⟩ := List.getElem_of_mem hq
    rw [List.length_set] at hj
    by_cases hjk : j = k
    · subst hjk; rw [List.getElem_set_self] at hjq; subst hjq; exact hp'
    · rw [List.getElem_set_ne (fun e => hjk e.symm)] at hjq; subst hjq; exact hall j hj hjk
  · intro q hq i hi
    obtain ⟨j, hj, hjq⟩ := List.getElem_of_mem hq
    rw [List.length_set] at hj
    by_cases hjk : j = k
    · subst hjk; rw [List.getElem_set_self] at hjq; subst hjq
      rcases hf i hi with h1 | h1
      · exact s.low p hpL i h1
      · exact Nat.le_trans s.ext.1 h1
    · rw [List.getElem_set_ne (fun e => hjk e.symm)] at hjq; subst hjq; exact s.low _ (List.getElem_mem hj) i hi
  · refine List.pairwise_iff_getElem.2 fun a b ha hb hab i hi hbi => ?_
    rw [List.length_set] at ha hb
    have hd := List.pairwise_iff_getElem.1 s.dis a b ha hb hab
    by_cases hak : a = k
    · subst hak
      rw [List.getElem_set_self] at hi
      rw [List.getElem_set_ne (by omega)] at hbi
      rcases hf i hi with h1 | h1
      · exact hd i (by rw [hke]; exact h1) hbi
      · have := L[b].lt hbi (s.all _ (List.getElem_mem (by simpa using hb))); omega
    · rw [List.getElem_set_ne (fun e => hak e.symm)] at hi
      by_cases hbk : b = k
      · subst hbk
        rw [List.getElem_set_self] at hbi
        rcases hf i hbi with h1 | h1
        · exact hd i hi (by rw [hke]; exact h1)
        · have := L[a].lt hi (s.all _ (List.getElem_mem (by simpa using ha))); omega
      · rw [List.getElem_set_ne (fun e => hbk e.symm)] at hbi
        exact hd i hi hbi
theorem oth_set {Y : Hp} {i : Nat} {o : AObj} : Oth (some i) Y (Y.set i o) := ⟨by rw [List.length_set]; exact Nat.le_refl _, fun j hj hne => List.getElem?_set_ne (fun e => hne (by rw [e]))⟩
theorem Sep.put {h Y : Hp} {L L' : List Pc} (s : Sep h Y L) {i : Nat} {o' : AObj} (u : SetC L i o' L') : Sep h (Y.set i o') L' := by
  obtain ⟨k, o, h1, h2⟩ := u.p
  have hi : i < Y.length := (pcC i o).lt rfl (s.all _ (List.mem_of_getElem? h1))
  rw [h2]
  refine s.turn h1 oth_set ?_ (fun j hj => .inl hj)
  show (Y.set i o')[i]? = some o'
  exact List.getElem?_set_self hi
instance [s : Sep h Y L] {o' : AObj} [u : SetC L i o' L'] : Sep h (Y.set i o') L' := s.put u
theorem Sep.own {h Y : Hp} {L : List Pc} (s : Sep h Y L) (k : Nat) {α : Type} {enc : α → List AV} {q : Nat} {e : TypeId} {z : AV} {l : List α} (hk : L[k]? = some (pcW enc q e z l)) : Own enc q e Y z l := s.all _ (List.mem_of_getElem? hk)
/-- Appended to. -/
theorem Sep.app {h Y : Hp} {L : List Pc} (s : Sep h Y L) (k : Nat) {α : Type} {enc : α → List AV} {q : Nat} {e : TypeId} {z u : AV} {l l2 : List α} (hk : L[k]? = some (pcW enc q e z l)) {P : Program} {t : TypeId} (hE : EncOk enc q) (hu : CS P t e q) (he : CE P e q) (hS : Elts enc q Y u l2) (hlen : l.length + l2.length ≤ 1099511627776) :
    ∃ z' Y', app P Y [t, t] z u = some (z', Y') ∧ Sep h Y' (L.set k (pcW enc q e z' (l ++ l2))) ∧ Oth (objOf z) Y Y' := by
  obtain ⟨z', Y', e1, e2, e3, e4, _⟩ := app_own' hE hu.p he.p (s.own k hk) hS hlen
  exact ⟨z', Y', e1, s.turn hk e3 e2 e4, e3⟩
theorem Sep.addNil {h Y : Hp} {L : List Pc} (s : Sep h Y L) {α : Type} (enc : α → List AV) (q : Nat) (e : TypeId) : Sep h Y (L ++ [pcW enc q e (.v (.slice none 0 0)) []]) := by
  refine ⟨s.ext, ?_, ?_, List.pairwise_append.2 ⟨s.dis, by simp, ?_⟩⟩
  · intro p hp
    rcases List.mem_append.1 hp with hp | hp
    · exact s.all p hp
    · simp only [List.mem_singleton] at hp; subst hp; exact .inl ⟨rfl, rfl⟩
  · intro p hp i hi
    rcases List.mem_append.1 hp with hp | hp
    · exact s.low p hp i hi
    · simp only [List.mem_singleton] at hp; subst hp; cases hi
  · intro p hp q hq i hi hqi
    simp only [List.mem_singleton] at hq; subst hq; cases hqi
instance [s : Sep h Y L] : Sep h (Y ++ [o]) (L ++ [pcC Y.length o]) := s.push o
instance {o1 o2 : AObj} [s : Sep h Y L] : Sep h (Y ++ [o1, o2]) (L ++ [pcC Y.length o1, pcC (Y.length + 1) o2]) := s.push2 o1 o2
/-- Two memories agree at a cell. -/
theorem ha_eq {Y Y' : Hp} {i : Nat} {o : AObj} (a : HA Y i o) (b : HA Y' i o) : Y'[i]? = Y[i]? := b.p.trans a.p.symm
end

/-! ### Ranges over functions -/
section
variable {P : Program} {ops : Array Oper} {d : Option Tmp} {ty : TypeId} {pos : String} {aft : Array Edge} {gd : Option (Nat × Bool)} {rest : List Oper} {N : Fr → Hp → Prop} {l : List AV} {ds : List Nat} {h : Hp} {X : OrdX} {pd : List (Nat × Nat)} {gone : List Nat} {ii : Nat} {m : Nat} {ro : Option Nat} {K : Exit → Fr → Hp → Prop} {f : Fr}
theorem AYld.mono {i : Nat} {args : List AV} {N N' : AV → Hp → Prop} (hc : AYld P i args h N) (hn : ∀ r h', h.length ≤ h'.length → N r h' → N' r h') : AYld P i args h N' := by
  obtain ⟨st, pe, tm, ps, asg, bd, d, h1, h2, h3⟩ := hc
  refine ⟨st, pe, tm, ps, asg, bd, d, h1, h2, fun fn ρ w H hs => ?_⟩
  exact (h3 fn ρ w H hs).mono fun _ _ hp => hp.mono fun r h' hl _ => hn r h' hl
end

/-! ### Appended to, as a step -/
section
variable {P : Program} {ops : Array Oper} {d : Option Tmp} {ty : TypeId} {pos : String} {aft : Array Edge} {gd : Option (Nat × Bool)} {rest : List Oper} {N : Fr → Hp → Prop} {l : List AV} {ds : List Nat} {h0 Y : Hp} {X : OrdX} {pd : List (Nat × Nat)} {gone : List Nat} {ii : Nat} {L : List Pc} {α : Type} {enc : α → List AV} {q : Nat} {e : TypeId} {z u : AV} {ks l2 : List α} {t : TypeId} {a b : Operand}
theorem s_app (k : Nat) (hk : ∀ z' Y', Sep h0 Y' (L.set k (pcW enc q e z' (ks ++ l2))) → Oth (objOf z) Y Y' → wkO P ops rest N (Fr.put ⟨l, ds⟩ d z') Y') (s : Sep h0 Y L) (hp : L[k]? = some (pcW enc q e z ks)) (hE : EncOk enc q) (hS : Elts enc q Y u l2) (hlen : ks.length + l2.length ≤ 1099511627776) (hu : CS P t e q) (he : CE P e q)
    (hw : wantA ops ⟨l, ds⟩ ⟨d, .call ⟨.builtin .append, #[a, b], #[t, t]⟩, ty, pos, aft, gd⟩ = true := by rfl) (ha : evS l a = some z := by rfl) (hb : evS l b = some u := by rfl) : wkO P ops (⟨d, .call ⟨.builtin .append, #[a, b], #[t, t]⟩, ty, pos, aft, gd⟩ :: rest) N ⟨l, ds⟩ Y := by
  obtain ⟨z', Y', e1, e2, e3⟩ := s.app k hp hE hu he hS hlen
  exact s_gH hw (x_app (e_any ha) (e_any hb) e1) (hk z' Y' e2 e3)
theorem u_app (k : Nat) (hk : ∀ z' Y', Sep h0 Y' (L.set k (pcW enc q e z' (ks ++ l2))) → Oth (objOf z) Y Y' → stayG gone pd Y Y' ∧ wkX P ops X pd N (Fr.put ⟨l, ds⟩ d z') Y') (s : Sep h0 Y L) (hp : L[k]? = some (pcW enc q e z ks)) (hE : EncOk enc q) (hS : Elts enc q Y u l2) (hlen : ks.length + l2.length ≤ 1099511627776) (hu : CS P t e q) (he : CE P e q)
    (hw : wantA ops ⟨l, ds⟩ ⟨d, .call ⟨.builtin .append, #[a, b], #[t, t]⟩, ty, pos, aft, gd⟩ = true := by rfl) (ha : evS l a = some z := by rfl) (hb : evS l b = some u := by rfl) : wkX P ops (.alt ⟨d, .call ⟨.builtin .append, #[a, b], #[t, t]⟩, ty, pos, aft, gd⟩ ii gone X .no) pd N ⟨l, ds⟩ Y := by
  obtain ⟨z', Y', e1, e2, e3⟩ := s.app k hp hE hu he hS hlen
  exact u_gH hw (x_app (e_any ha) (e_any hb) e1) (hk z' Y' e2 e3).1 (hk z' Y' e2 e3).2
end
end Go.Az
/-
  Pieces of memory: joined, and read as lists without a word. Conditions: stated at each theorem.
-/
set_option linter.unusedSimpArgs false
set_option linter.unusedVariables false
namespace Go.Az
open Go Go.Chz
theorem Sep.join {h X Y : Hp} {L L2 : List Pc} (s : Sep h X L) (t : Sep X Y L2) : Sep h Y (L ++ L2) := by
  have m := s.more t.ext
  refine ⟨m.ext, fun p hp => ?_, fun p hp i hi => ?_, List.pairwise_append.2 ⟨s.dis, t.dis, fun p hp q hq i hi hqi => ?_⟩⟩
  · rcases List.mem_append.1 hp with hp | hp
    · exact m.all p hp
    · exact t.all p hp
  · rcases List.mem_append.1 hp with hp | hp
    · exact s.low p hp i hi
    · exact Nat.le_trans s.ext.1 (t.low p hp i hi)
  · have h1 := p.lt hi (s.all p hp)
    have h2 := t.low q hq i hqi
    omega
/-- A new slice as a piece. -/
theorem RetS.sep {α : Type} {enc : α → List AV} {q : Nat} {e : TypeId} {h h' : Hp} {l : List α} {s : AV} (hE : EncOk enc q) (hR : RetS enc e h l s h') : Sep h h' [pcW enc q e s l] := by
  refine ⟨hR.ext, ?_, ?_, by simp⟩
  · intro p hp
    rw [List.mem_singleton.1 hp]; exact hR.own hE
  · intro p hp i hi
    rw [List.mem_singleton.1 hp] at hi
    rcases hR with ⟨rfl, _, _⟩ | ⟨c, u, rfl, _, _, _⟩
    · cases hi
    · injection hi with hi; omega
class EncC {α : Type} (enc : α → List AV) (q : outParam Nat) (d : outParam α) : Prop where
  ok : EncOk enc q
instance {k : IntKind} : EncC (encI k) 1 0 := ⟨encI_ok k⟩
class MemW (α : outParam Type) (L : List Pc) (z : AV) (enc : outParam (α → List AV)) (q : outParam Nat) (e : outParam TypeId) (l : outParam (List α)) : Prop where
  p : pcW enc q e z l ∈ L
instance {α : Type} {enc : α → List AV} {q : Nat} {e : TypeId} {z : AV} {l : List α} {L : List Pc} : MemW α (pcW enc q e z l :: L) z enc q e l := ⟨by simp⟩
instance (priority := low) {α : Type} {enc : α → List AV} {q : Nat} {e : TypeId} {z : AV} {l : List α} {p : Pc} {L : List Pc} [x : MemW α L z enc q e l] : MemW α (p :: L) z enc q e l := ⟨List.mem_cons_of_mem _ x.p⟩
instance (priority := low) {α : Type} {enc : α → List AV} {q : Nat} {e : TypeId} {z : AV} {l : List α} {E L : List Pc} [x : MemW α L z enc q e l] : MemW α (E ++ L) z enc q e l := ⟨List.mem_append_right _ x.p⟩
instance (priority := low) {α : Type} {enc : α → List AV} {q : Nat} {e : TypeId} {z : AV} {l : List α} {E L : List Pc} [x : MemW α L z enc q e l] : MemW α (L ++ E) z enc q e l := ⟨List.mem_append_left _ x.p⟩
/-- A list that lies in memory before the call, or in a piece. -/
class EP (α : outParam Type) (enc : outParam (α → List AV)) (q : outParam Nat) (d : outParam α) (h : Hp) (L : List Pc) (s : AV) (l : outParam (List α)) : Prop where
  ok : EncOk enc q
  p : Elts enc q h s l ∨ ∃ e, pcW enc q e s l ∈ L
instance (priority := 100) {α : Type} {enc : α → List AV} {q : Nat} {d : α} {h : Hp} {L : List Pc} {s : AV} {l : List α} [x : EL α enc q d h s l] : EP α enc q d h L s l := ⟨x.ok, .inl x.p⟩
instance {α : Type} {enc : α → List AV} {q : Nat} {d : α} {e : TypeId} {h : Hp} {L : List Pc} {s : AV} {l : List α} [c : EncC enc q d] : EP α enc q d h (pcW enc q e s l :: L) s l := ⟨c.ok, .inr ⟨e, by simp⟩⟩
instance (priority := 500) {α : Type} {enc : α → List AV} {q : Nat} {d : α} {h : Hp} {L : List Pc} {p : Pc} {s : AV} {l : List α} [x : EP α enc q d h L s l] : EP α enc q d h (p :: L) s l := ⟨x.ok, x.p.imp_right fun ⟨e, he⟩ => ⟨e, List.mem_cons_of_mem _ he⟩⟩
instance (priority := 500) {α : Type} {enc : α → List AV} {q : Nat} {d : α} {h : Hp} {L E : List Pc} {s : AV} {l : List α} [x : EP α enc q d h L s l] : EP α enc q d h (E ++ L) s l := ⟨x.ok, x.p.imp_right fun ⟨e, he⟩ => ⟨e, List.mem_append_right _ he⟩⟩
instance (priority := 500) {α : Type} {enc : α → List AV} {q : Nat} {d : α} {h : Hp} {L E : List Pc} {s : AV} {l : List α} [x : EP α enc q d h L s l] : EP α enc q d h (L ++ E) s l := ⟨x.ok, x.p.imp_right fun ⟨e, he⟩ => ⟨e, List.mem_append_left _ he⟩⟩
instance (priority := low) {α : Type} {enc : α → List AV} {q : Nat} {d : α} {h Y : Hp} {L : List Pc} {z : AV} {l : List α} [s : Sep h Y L] [x : EP α enc q d h L z l] : EL α enc q d Y z l := ⟨x.ok, by
  rcases x.p with h1 | ⟨e, h1⟩
  · exact h1.ext s.ext
  · exact Own.elts (s.all _ h1)⟩
instance (priority := low) {i : Nat} {o' : AObj} {L L' E : List Pc} [x : SetC L i o' L'] : SetC (E ++ L) i o' (E ++ L') := ⟨by
  obtain ⟨k, o, h1, h2⟩ := x.p
  exact ⟨E.length + k, o, by rw [List.getElem?_append_right (by omega), show E.length + k - E.length = k by omega]; exact h1, by rw [h2, List.set_append_right _ _ (by omega), show E.length + k - E.length = k by omega]⟩⟩
theorem Elts.sl {α : Type} {enc : α → List AV} {q : Nat} {h : Hp} {s : AV} {l : List α} (x : Elts enc q h s l) : SlC s := by
  rcases x with ⟨rfl, _⟩ | ⟨i, o, c, u, cs, t, ow, rfl, _⟩
  · exact ⟨.inl rfl⟩
  · exact ⟨.inr ⟨_, _, _, _, _, rfl⟩⟩
theorem Own.sl {α : Type} {enc : α → List AV} {q : Nat} {e : TypeId} {h : Hp} {s : AV} {l : List α} (x : Own enc q e h s l) : SlC s := x.elts.sl
theorem Sep.sl {h Y : Hp} {L : List Pc} (s : Sep h Y L) (k : Nat) {α : Type} {enc : α → List AV} {q : Nat} {e : TypeId} {z : AV} {l : List α} (hk : L[k]? = some (pcW enc q e z l)) : SlC z := (s.own k hk).sl
theorem Sep.perm {h Y : Hp} {L L' : List Pc} (s : Sep h Y L) (hp : L.Perm L') : Sep h Y L' :=
  ⟨s.ext, fun p hq => s.all p (hp.mem_iff.2 hq), fun p hq => s.low p (hp.mem_iff.2 hq), s.dis.perm hp fun {p q} hh i hi hqi => hh i hqi hi⟩
/-- A piece is taken out of the others. -/
class TakeW (α : outParam Type) (L : List Pc) (z : AV) (enc : outParam (α → List AV)) (q : outParam Nat) (e : outParam TypeId) (l : outParam (List α)) (L' : outParam (List Pc)) : Prop where
  p : L.Perm (pcW enc q e z l :: L')
theorem Sep.take {h Y : Hp} {L L' : List Pc} {α : Type} {enc : α → List AV} {q : Nat} {e : TypeId} {z : AV} {l : List α} (s : Sep h Y L) (t : TakeW α L z enc q e l L') : Sep h Y (pcW enc q e z l :: L') := s.perm t.p
end Go.Az
/-
  Elements of pieces are set; slices are made. Conditions: stated at each theorem.
-/
set_option linter.unusedSimpArgs false
set_option linter.unusedVariables false
namespace Go.Az
open Go Go.Chz
theorem setMany_1 {cs : List AV} {p : Nat} {v : AV} (h : p < cs.length) : setMany cs p [v] = cs.set p v := by
  refine List.ext_getElem? fun j => ?_
  rw [setMany_get (by simp only [List.length_singleton]; omega), List.getElem?_set]
  simp only [List.length_singleton]
  by_cases h1 : j < p
  · rw [if_pos h1, if_neg (by omega)]
  · rw [if_neg h1]
    by_cases h2 : j < p + 1
    · have : j = p := by omega
      subst this
      rw [if_pos h2, if_pos rfl, if_pos h]; simp
    · rw [if_neg h2, if_neg (by omega)]
section
variable {α : Type} {enc : α → List AV} {q : Nat} {e : TypeId} {z : AV} {l : List α} {h0 Y : Hp} {L : List Pc}
/-- An element of a piece is set. -/
theorem Sep.elt (S : Sep h0 Y L) (k : Nat) (hp : L[k]? = some (pcW enc q e z l)) (hE : EncOk enc q) {n off : Nat} (hn : n < l.length) (d : α) {vs : List AV} (y : α) (hy : setMany (enc (l.getD n d)) off vs = enc y) (hv : off + vs.length ≤ q) :
    ∃ i p cs, elP z q n = .ptr i (p - off) ∧ elF z q n off = .ptr i p ∧ off ≤ p ∧ Y[i]? = some (.cells cs e true) ∧ p + vs.length ≤ cs.length ∧ Sep h0 (Y.set i (.cells (setMany cs p vs) e true)) (L.set k (pcW enc q e z (l.set n y))) := by
  obtain ⟨i, o, cs, ⟨c, u, hz⟩, g1, g2, g3, g4⟩ := set_own (e := e) hE (S.own k hp) hn d hy hv
  refine ⟨i, o + n * q + off, cs, ?_, ?_, by omega, g1, g2, S.turn hp g4 g3 (fun j hj => .inl hj)⟩
  · rw [hz, elP_sl, Int.toNat_natCast]; congr 1; omega
  · rw [hz, elF_sl, Int.toNat_natCast]
end
section
variable {P : Program} {ops : Array Oper} {dd : Option Tmp} {ty : TypeId} {pos : String} {aft : Array Edge} {gd : Option (Nat × Bool)} {rest : List Oper} {N : Fr → Hp → Prop} {fl : List AV} {ds : List Nat} {h0 Y : Hp} {X : OrdX} {pd : List (Nat × Nat)} {gone : List Nat} {ii : Nat} {L : List Pc} {α : Type} {enc : α → List AV} {q : Nat} {e : TypeId} {z v : AV} {l : List α} {t : TypeId} {a b : Operand} {x : Int} {vs : List AV}
/-- A number, truth value or slice is stored into a list's element (of one cell). -/
theorem s_stE (k : Nat) (y : α) (d : α) (hk : ∀ Y', Sep h0 Y' (L.set k (pcW enc 1 e z (l.set x.toNat y))) → wkO P ops rest N (Fr.put ⟨fl, ds⟩ dd (.v undef)) Y') (S : Sep h0 Y L) (hp : L[k]? = some (pcW enc 1 e z l)) (hE : EncOk enc 1) (hs : C1 P t) (hx0 : 0 ≤ x) (hx1 : x < l.length) (hy : (enc (l.getD x.toNat d)).set 0 v = enc y) (hv : PlC v)
    (hw : wantA ops ⟨fl, ds⟩ ⟨dd, .store t a b, ty, pos, aft, gd⟩ = true := by rfl) (ha : evS fl a = some (elP z 1 x) := by rfl) (hb : evS fl b = some v := by rfl) : wkO P ops (⟨dd, .store t a b, ty, pos, aft, gd⟩ :: rest) N ⟨fl, ds⟩ Y := by
  have hx : ((x.toNat : Nat) : Int) = x := Int.toNat_of_nonneg hx0
  have hl : (enc (l.getD x.toNat d)).length = 1 := (hE _).1
  obtain ⟨i, p, cs, e1, e2, e0, e3, e4, e5⟩ := S.elt k hp hE (n := x.toNat) (off := 0) (by omega) d (vs := [v]) y (by rw [setMany_1 (by omega)]; exact hy) (by simp)
  rw [hx, Nat.sub_zero] at e1
  simp only [List.length_singleton] at e4
  rw [setMany_1 (by omega)] at e5
  exact s_gH hw (x_store1 hs.p ((e_any ha).trans e1) (e_any hb) hv.p e3 (by omega)) (hk _ e5)
end
/-! ### Slices are made -/
def mkOf (P : Program) (t : TypeId) : Option (TypeId × List AV × Nat) := match P.underlying t with
  | some (.slice e) => match tab P e with
    | some x => if (Nat.blt 0 x.size && Nat.beq x.zc.length x.size) = true then some (e, x.zc.map .v, x.bytes) else none
    | none => none
  | _ => none
class CM (P : Program) (t : TypeId) (e : outParam TypeId) (zs : outParam (List AV)) (by' : outParam Nat) : Prop where
  p : mkOf P t = some (e, zs, by')
theorem zrow_flat {α : Type} {enc : α → List AV} (x : TI) (d : α) (hz : x.zc.map AV.v = enc d) (hs : 0 < x.size) (hl : x.zc.length = x.size) : ∀ n, zrow x (n * x.size) = (List.replicate n d).flatMap enc
  | 0 => by simp [zrow]
  | n + 1 => by
    have ih := zrow_flat x d hz hs hl n
    rw [List.replicate_succ', List.flatMap_append, ← ih, Nat.succ_mul]
    simp only [zrow, List.range_add, List.map_append, List.map_map, List.flatMap_singleton, List.flatMap_cons, List.flatMap_nil, List.append_nil]
    congr 1
    rw [← hz]
    refine List.ext_getElem? fun j => ?_
    by_cases hj : j < x.size
    · rw [List.getElem?_map, List.getElem?_range hj, List.getElem?_map, List.getElem?_eq_getElem (by omega)]
      simp only [Option.map_some, Function.comp]
      rw [Nat.add_comm, Nat.add_mul_mod_self_right, Nat.mod_eq_of_lt hj, List.getD_eq_getElem?_getD, List.getElem?_eq_getElem (by omega)]
      rfl
    · rw [List.getElem?_eq_none (by simp; omega), List.getElem?_eq_none (by simp; omega)]
theorem x_mks {P : Program} {t e : TypeId} {zs : List AV} {by' : Nat} {f : Fr} {h : Hp} {a b : Operand} {n : Int} {k k' : IntKind} {α : Type} {enc : α → List AV} (d : α) (hu : mkOf P t = some (e, zs, by')) (hd : zs = enc d) (ha : ev f a = .v (.int k n)) (hb : ev f b = .v (.int k' n)) (h0 : 0 ≤ n) (h1 : n ≤ 1000000) (h2 : by' ≤ 1000) :
    exH P f h (.makeSlice t a b) = some (.sl h.length 0 n.toNat n.toNat false, h ++ [.cells ((List.replicate n.toNat d).flatMap enc) e true]) := by
  simp only [mkOf] at hu
  cases hx : P.underlying t with
  | none => simp only [hx] at hu; cases hu
  | some dsc =>
    simp only [hx] at hu
    cases dsc with
    | slice e0 =>
      simp only [] at hu
      cases ht : tab P e0 with
      | none => simp only [ht] at hu; cases hu
      | some x =>
        simp only [ht] at hu
        split at hu
        · rename_i hc
          simp only [Bool.and_eq_true, Nat.blt_eq, Nat.beq_eq] at hc
          injection hu with hu
          injection hu with he hu
          injection hu with hz hb'
          subst he hb'
          simp only [exH, ha, hb, msl, hx, intOf?, ht]
          have hbn : (x.bytes : Int) * n ≤ 281474976710656 := by
            have : (x.bytes : Int) * n ≤ 1000 * 1000000 := Int.mul_le_mul (by omega) (by omega) h0 (by omega)
            omega
          rw [if_pos ⟨h0, Int.le_refl _, by omega, hbn, hc.1⟩, zrow_flat x d (hz.trans hd) hc.1 hc.2]
        · cases hu
    | _ => simp only [] at hu; cases hu
section
variable {P : Program} {ops : Array Oper} {dd : Option Tmp} {ty : TypeId} {pos : String} {aft : Array Edge} {gd : Option (Nat × Bool)} {rest : List Oper} {N : Fr → Hp → Prop} {fl : List AV} {ds : List Nat} {h0 Y : Hp} {X : OrdX} {pd : List (Nat × Nat)} {gone : List Nat} {ii : Nat} {L : List Pc} {α : Type} {q : Nat} {e : TypeId} {t : TypeId} {a b : Operand} {n : Int} {zs : List AV} {by' : Nat} {k k' : IntKind}
theorem Sep.made (S : Sep h0 Y L) (enc : α → List AV) (hE : EncOk enc q) (d : α) (n : Nat) : Sep h0 (Y ++ [.cells ((List.replicate n d).flatMap enc) e true]) (L ++ [pcW enc q e (.sl Y.length 0 n n false) (List.replicate n d)]) := by
  refine S.join ⟨ext_app _ _, ?_, ?_, by simp⟩
  · intro p hp
    rw [List.mem_singleton.1 hp]
    refine .inr ⟨Y.length, 0, n, false, (List.replicate n d).flatMap enc, by simp, by simp, ?_, ?_, (fun h => by cases h), fun _ => ?_⟩
    · rw [flat_len hE]; simp
    · rw [List.drop_zero, List.take_of_length_le (by rw [flat_len hE]; simp)]
    · rw [flat_len hE]; simp
  · intro p hp i hi
    rw [List.mem_singleton.1 hp] at hi
    injection hi with hi; omega
theorem s_mks (enc : α → List AV) (d : α) (hk : ∀ z Y', SlC z → Sep h0 Y' (L ++ [pcW enc q e z (List.replicate n.toNat d)]) → wkO P ops rest N (Fr.put ⟨fl, ds⟩ dd z) Y') (S : Sep h0 Y L) (hE : EncOk enc q) (hu : CM P t e zs by') (hd : zs = enc d) (h0' : 0 ≤ n) (h1 : n ≤ 1000000) (h2 : by' ≤ 1000)
    (hw : wantA ops ⟨fl, ds⟩ ⟨dd, .makeSlice t a b, ty, pos, aft, gd⟩ = true := by rfl) (ha : evS fl a = some (.v (.int k n)) := by rfl) (hb : evS fl b = some (.v (.int k' n)) := by rfl) : wkO P ops (⟨dd, .makeSlice t a b, ty, pos, aft, gd⟩ :: rest) N ⟨fl, ds⟩ Y :=
  s_gH hw (x_mks d hu.p hd (e_any ha) (e_any hb) h0' h1 h2) (hk _ _ inferInstance (S.made enc hE d _))
end
/-! ### Pieces are brought into order -/
class TakeP (L : List Pc) (p : Pc) (L' : outParam (List Pc)) : Prop where
  p : L.Perm (p :: L')
class TakeC (L : List Pc) (i : Nat) (o : outParam AObj) (L' : outParam (List Pc)) : Prop where
  p : L.Perm (pcC i o :: L')
instance {i : Nat} {o : AObj} {L : List Pc} : TakeC (pcC i o :: L) i o L := ⟨List.Perm.refl _⟩
instance (priority := low) {i : Nat} {o : AObj} {x : Pc} {L L' : List Pc} [t : TakeC L i o L'] : TakeC (x :: L) i o (x :: L') := ⟨(t.p.cons x).trans (List.Perm.swap _ _ _)⟩
instance (priority := low) {i : Nat} {o : AObj} {E L L' : List Pc} [t : TakeC L i o L'] : TakeC (E ++ L) i o (E ++ L') := ⟨(t.p.append_left E).trans List.perm_middle⟩
section
variable {h Y : Hp} {L L1 L2 L3 L4 L5 L6 : List Pc} {p1 p2 p3 p4 p5 p6 : Pc}
end
end Go.Az
/-
  Appended to a new, empty slice. Conditions: stated at each theorem.
-/
set_option linter.unusedSimpArgs false
set_option linter.unusedVariables false
namespace Go.Az
open Go Go.Chz
/-! ### Appended to a new, empty slice -/
section
variable {P : Program} {ops : Array Oper} {dd : Option Tmp} {ty : TypeId} {pos : String} {aft : Array Edge} {gd : Option (Nat × Bool)} {rest : List Oper} {N : Fr → Hp → Prop} {fl : List AV} {ds : List Nat} {h0 Y : Hp} {X : OrdX} {pd : List (Nat × Nat)} {gone : List Nat} {ii : Nat} {L L' : List Pc} {α : Type} {enc : α → List AV} {q : Nat} {e : TypeId} {u : AV} {l2 : List α} {t : TypeId} {a b : Operand} {i : Nat}
theorem sep_app0 (S : Sep h0 Y L) (T : TakeC L i (.cells [] e true) L') (hE : EncOk enc q) (hu : CS P t e q) (he : CE P e q) (hS : Elts enc q Y u l2) (hlen : l2.length ≤ 1099511627776) :
    ∃ z' Y', app P Y [t, t] (.sl i 0 0 0 false) u = some (z', Y') ∧ SlC z' ∧ Sep h0 Y' (pcW enc q e z' l2 :: L') := by
  have S1 := S.perm T.p
  have hi : Y[i]? = some (.cells [] e true) := S1.all (pcC i (.cells [] e true)) (by simp)
  have S2 : Sep h0 Y (pcW enc q e (.sl i 0 0 0 false) ([] : List α) :: L') := by
    refine ⟨S1.ext, fun p hp => ?_, fun p hp j hj => ?_, ?_⟩
    · rcases List.mem_cons.1 hp with rfl | hp
      · exact .inr ⟨i, 0, 0, false, [], rfl, hi, by simp, by simp, (fun h => by cases h), fun _ => by simp⟩
      · exact S1.all p (List.mem_cons_of_mem _ hp)
    · rcases List.mem_cons.1 hp with rfl | hp
      · exact S1.low (pcC i (.cells [] e true)) (by simp) j hj
      · exact S1.low p (List.mem_cons_of_mem _ hp) j hj
    · have d := S1.dis
      rw [List.pairwise_cons] at d ⊢
      exact ⟨fun p hp j hj => d.1 p hp j hj, d.2⟩
  obtain ⟨z', Y', e1, e2, e3⟩ := S2.app 0 rfl hE hu he hS (by simp; omega)
  simp only [List.nil_append, List.set_cons_zero] at e2
  exact ⟨z', Y', e1, e2.sl 0 rfl, e2⟩
theorem s_app0 {d0 : α} (h0 : Hp) (hk : ∀ z' Y', SlC z' → Sep h0 Y' (pcW enc q e z' l2 :: L') → wkO P ops rest N (Fr.put ⟨fl, ds⟩ dd z') Y')
    (hw : wantA ops ⟨fl, ds⟩ ⟨dd, .call ⟨.builtin .append, #[a, b], #[t, t]⟩, ty, pos, aft, gd⟩ = true := by rfl) (ha : evS fl a = some (.sl i 0 0 0 false) := by rfl) (hb : evS fl b = some u := by rfl)
    (S : Sep h0 Y L := by infer_instance) (x : EL α enc q d0 Y u l2 := by infer_instance) (hu : CS P t e q := by infer_instance) (he : CE P e q := by infer_instance) (T : TakeC L i (.cells [] e true) L' := by infer_instance) (hlen : l2.length ≤ 1099511627776 := by omega) : wkO P ops (⟨dd, .call ⟨.builtin .append, #[a, b], #[t, t]⟩, ty, pos, aft, gd⟩ :: rest) N ⟨fl, ds⟩ Y := by
  obtain ⟨z', Y', e1, e2, e3⟩ := sep_app0 S T x.ok hu he x.p hlen
  exact s_gH hw (x_app (e_any ha) (e_any hb) e1) (hk z' Y' e2 e3)
theorem u_app0 {d0 : α} (h0 : Hp) (hk : ∀ z' Y', SlC z' → Sep h0 Y' (pcW enc q e z' l2 :: L') → stayG gone pd Y Y' ∧ wkX P ops X pd N (Fr.put ⟨fl, ds⟩ dd z') Y')
    (hw : wantA ops ⟨fl, ds⟩ ⟨dd, .call ⟨.builtin .append, #[a, b], #[t, t]⟩, ty, pos, aft, gd⟩ = true := by rfl) (ha : evS fl a = some (.sl i 0 0 0 false) := by rfl) (hb : evS fl b = some u := by rfl)
    (S : Sep h0 Y L := by infer_instance) (x : EL α enc q d0 Y u l2 := by infer_instance) (hu : CS P t e q := by infer_instance) (he : CE P e q := by infer_instance) (T : TakeC L i (.cells [] e true) L' := by infer_instance) (hlen : l2.length ≤ 1099511627776 := by omega) : wkX P ops (.alt ⟨dd, .call ⟨.builtin .append, #[a, b], #[t, t]⟩, ty, pos, aft, gd⟩ ii gone X .no) pd N ⟨fl, ds⟩ Y := by
  obtain ⟨z', Y', e1, e2, e3⟩ := sep_app0 S T x.ok hu he x.p hlen
  exact u_gH hw (x_app (e_any ha) (e_any hb) e1) (hk z' Y' e2 e3).1 (hk z' Y' e2 e3).2
end
end Go.Az
/-
  Maps whose keys are numbers. Conditions: stated at each theorem.
-/
set_option linter.unusedSimpArgs false
set_option linter.unusedVariables false
namespace Go.Az
open Go Go.Chz
def imE : List (Int × AV) → Nat → List (Value × AV × Nat)
  | [], _ => []
  | e :: r, j => (.int .i64 e.1, e.2, j) :: imE r (j + 1)
/-- A map with these entries, in the order in which they came. -/
def mpO (m : List (Int × AV)) : AObj := .map (imE m 0) m.length
def imGet : List (Int × AV) → Int → Option AV
  | [], _ => none
  | e :: r, k => if k = e.1 then some e.2 else imGet r k
def imSet : List (Int × AV) → Int → AV → List (Int × AV)
  | [], k, v => [(k, v)]
  | e :: r, k, v => if k = e.1 then (k, v) :: r else e :: imSet r k v
/-- The number of a key's entry. -/
def imIdx : List (Int × AV) → Int → Nat → Option Nat
  | [], _, _ => none
  | e :: r, k, i => if k = e.1 then some i else imIdx r k (i + 1)
class CMP (P : Program) (t : TypeId) (z : outParam AV) : Prop where
  p : ∃ kt et x, P.underlying t = some (.map kt et) ∧ P.underlying kt = some (.int .i64) ∧ tab P et = some x ∧ zAV x = z
def cmpOf (P : Program) (t : TypeId) : Option AV := match P.underlying t with
  | some (.map kt et) => match P.underlying kt with
    | some (.int .i64) => match tab P et with
      | some x => some (zAV x)
      | none => none
    | _ => none
  | _ => none
section
variable {P : Program} {t : TypeId} {z : AV} {h : Hp} {i : Nat} {k : Int} {v : AV} {m : List (Int × AV)} {ok : Bool}
end
section
variable {P : Program} {ops : Array Oper} {d : Option Tmp} {ty : TypeId} {pos : String} {aft : Array Edge} {gd : Option (Nat × Bool)} {rest : List Oper} {N : Fr → Hp → Prop} {l : List AV} {ds : List Nat} {Y : Hp} {X : OrdX} {pd : List (Nat × Nat)} {gone : List Nat} {ii : Nat} {t : TypeId} {a b c : Operand} {z v : AV} {i : Nat} {k : Int} {m : List (Int × AV)} {ok bb : Bool}
end
end Go.Az
/-
  The first elements of a slice of the call's own. Conditions: stated at each theorem.
-/
set_option linter.unusedSimpArgs false
set_option linter.unusedVariables false
namespace Go.Az
open Go Go.Chz
section
variable {P : Program} {ops : Array Oper} {d : Option Tmp} {ty : TypeId} {pos : String} {aft : Array Edge} {gd : Option (Nat × Bool)} {rest : List Oper} {N : Fr → Hp → Prop} {fl : List AV} {ds : List Nat} {Y : Hp} {t e : TypeId} {a b : Operand} {α : Type} {enc : α → List AV} {z : AV} {l : List α} {m : Nat}
end
end Go.Az
/-
  Slices of a room (an array with more places), lists that can be read in all memories with some pieces, lookups that tell whether there is an entry. Conditions: stated at each theorem.
-/
set_option linter.unusedSimpArgs false
set_option linter.unusedVariables false
namespace Go.Az
open Go Go.Chz
/-- A slice of a room: the first places of an array of the call's own. -/
def pcR {α : Type} (enc : α → List AV) (q : Nat) (z : AV) (l : List α) (c : Nat) : Pc where
  foot := objOf z
  ok := fun H => ∃ i cs t, z = .sl i 0 l.length c false ∧ H[i]? = some (.cells cs t true) ∧ c * q ≤ cs.length ∧ l.length ≤ c ∧ cs.take (l.length * q) = l.flatMap enc
  loc := fun x hne ⟨i, cs, t, h1, h2, h3, h4, h5⟩ => ⟨i, cs, t, h1, x.get h2 (hne i (by rw [h1]; rfl)), h3, h4, h5⟩
  lt := fun h ⟨i, cs, t, h1, h2, h3, h4, h5⟩ => by
    rw [h1] at h
    simp only [objOf, Option.some.injEq] at h
    subst h
    exact (List.getElem?_eq_some_iff.1 h2).1
/-- A list that can be read in all memories with these pieces. -/
class ER (α : outParam Type) (enc : outParam (α → List AV)) (q : outParam Nat) (d : outParam α) (h : Hp) (L : List Pc) (s : AV) (l : outParam (List α)) : Prop where
  ok : EncOk enc q
  p : ∀ Y, Sep h Y L → Elts enc q Y s l
section
variable {P : Program} {ops : Array Oper} {d : Option Tmp} {ty : TypeId} {pos : String} {aft : Array Edge} {gd : Option (Nat × Bool)} {rest : List Oper} {N : Fr → Hp → Prop} {fl : List AV} {ds : List Nat} {h0 Y : Hp} {L : List Pc} {t e : TypeId} {a b : Operand} {α : Type} {enc : α → List AV} {q : Nat} {z u v : AV} {l l2 : List α} {c : Nat}
end
section
variable {P : Program} {ops : Array Oper} {d : Option Tmp} {ty : TypeId} {pos : String} {aft : Array Edge} {gd : Option (Nat × Bool)} {rest : List Oper} {N : Fr → Hp → Prop} {l : List AV} {ds : List Nat} {Y : Hp} {t : TypeId} {a b : Operand} {z v : AV} {i : Nat} {k : Int} {m : List (Int × AV)}
end
end Go.Az
/-
  Parts of slices of the call's own, of any elements. Conditions: stated at each theorem.
-/
set_option linter.unusedSimpArgs false
set_option linter.unusedVariables false
namespace Go.Az
open Go Go.Chz
section
variable {α : Type} {enc : α → List AV} {q : Nat} {P : Program} {t e : TypeId} {H H0 : Hp} {z : AV} {l : List α} {m : Nat} {f : Fr} {a b : Operand}
theorem slcq_hi (hq : 0 < q) (hE : EncOk enc q) (hu : sliOf P t = some (e, q)) (hO : Own enc q e H0 z l) (hx : Ext H0 H) (hm : m ≤ l.length) (ha : ev f a = z) (hb : ev f b = .v (.int .i64 m)) :
    ∃ z', SlC z' ∧ Elts enc q H0 z' (l.take m) ∧ exL P f H (.slice t a none (some b) none) = some z' := by
  obtain ⟨h1, inf, h2, h3⟩ := sliOf_spec hu
  rcases hO with ⟨rfl, rfl⟩ | ⟨i, o, c, u, cs, rfl, g1, g2, g3, g4, g5⟩
  · have : m = 0 := by simpa using hm
    subst this
    refine ⟨.v (.slice none 0 0), inferInstance, .inl ⟨rfl, by simp⟩, ?_⟩
    simp [exL, ha, hb, slc, h1, h2, bnds, bnd, intOf?]
  · have g1' : H[i]? = some (.cells cs e true) := by rw [hx.2 i (List.getElem?_eq_some_iff.1 g1).1]; exact g1
    have hmi : ((m : Nat) : Int) ≤ l.length := by omega
    have hmq : m * q ≤ l.length * q := Nat.mul_le_mul_right _ hm
    have he : (cs.drop o).take (m * q) = (l.take m).flatMap enc := by
      rw [← flat_take hE, ← g3, List.take_take, Nat.min_eq_left hmq]
    have hl : (l.take m).length = m := by rw [List.length_take]; omega
    have hel : ∀ c' u', Elts enc q H0 (.sl i o m c' u') (l.take m) := fun c' u' => .inr ⟨i, o, c', u', cs, e, true, by rw [hl], g1, by rw [hl]; omega, by rw [hl]; exact he⟩
    cases u
    · have g5 := g5 rfl
      have hmc : ((m : Nat) : Int) ≤ c := by omega
      refine ⟨.sl i o m c false, inferInstance, hel _ _, ?_⟩
      have hc : cutAt o 0 c inf.size = o := by unfold cutAt; split <;> simp
      simp [exL, ha, hb, slc, h1, h2, bnds, bnd, intOf?, hmc, hc]
    · obtain ⟨rfl, rfl⟩ := g4 rfl
      refine ⟨.sl i 0 m 0 true, inferInstance, hel _ _, ?_⟩
      have hc : capOk P H e i l.length 0 = true := by
        have : 0 + l.length * q ≤ cs.length := g2
        simp [capOk, g1', h2, h3, hq]; omega
      simp [exL, ha, hb, slc, h1, h2, hc, ubnds, bnds, bnd, intOf?, hmi]
theorem slcq_lo (hq : 0 < q) (hE : EncOk enc q) (hu : sliOf P t = some (e, q)) (hO : Own enc q e H0 z l) (hx : Ext H0 H) (hm : m ≤ l.length) (ha : ev f a = z) (hb : ev f b = .v (.int .i64 m)) :
    (∃ z', SlC z' ∧ Elts enc q H0 z' (l.drop m) ∧ exL P f H (.slice t a (some b) none none) = some z') ∨ (∃ r1 r2, tailOf P f H (.slice t a (some b) none none) = some (r1, r2) ∧ SlC r1 ∧ SlC r2 ∧ Elts enc q H0 r1 (l.drop m) ∧ Elts enc q H0 r2 (l.drop m)) := by
  obtain ⟨h1, inf, h2, h3⟩ := sliOf_spec hu
  rcases hO with ⟨rfl, rfl⟩ | ⟨i, o, c, u, cs, rfl, g1, g2, g3, g4, g5⟩
  · have : m = 0 := by simpa using hm
    subst this
    refine .inl ⟨.v (.slice none 0 0), inferInstance, .inl ⟨rfl, by simp⟩, ?_⟩
    simp [exL, ha, hb, slc, h1, h2, bnds, bnd, intOf?]
  · have g1' : H[i]? = some (.cells cs e true) := by rw [hx.2 i (List.getElem?_eq_some_iff.1 g1).1]; exact g1
    have hmi : ((m : Nat) : Int) ≤ l.length := by omega
    have hmq : m * q ≤ l.length * q := Nat.mul_le_mul_right _ hm
    have hsq : (l.length - m) * q = l.length * q - m * q := Nat.sub_mul _ _ _
    have he : (cs.drop (o + m * q)).take ((l.length - m) * q) = (l.drop m).flatMap enc := by
      rw [← flat_drop hE, ← g3, List.drop_take, List.drop_drop, hsq]
    have hl : (l.drop m).length = l.length - m := List.length_drop
    have hel : ∀ c' u', Elts enc q H0 (.sl i (o + m * q) (l.length - m) c' u') (l.drop m) := fun c' u' => .inr ⟨i, o + m * q, c', u', cs, e, true, by rw [hl], g1, by rw [hl]; omega, by rw [hl]; exact he⟩
    cases u
    · have g5 := g5 rfl
      have hmc : ((l.length : Nat) : Int) ≤ c := by omega
      by_cases hcm : c = m
      · have hml : m = l.length := by omega
        refine .inl ⟨.sl i o (l.length - m) (c - m) false, inferInstance, ?_, ?_⟩
        · have : l.drop m = [] := List.drop_of_length_le (by omega)
          rw [this]
          exact .inr ⟨i, o, c - m, false, cs, e, true, by rw [hml, Nat.sub_self]; rfl, g1, by simp; omega, by simp⟩
        · have hc : cutAt o m c inf.size = o := by unfold cutAt; rw [if_pos hcm]
          simp [exL, ha, hb, slc, h1, h2, bnds, bnd, intOf?, hmi, hmc, hc]
      · refine .inl ⟨.sl i (o + m * q) (l.length - m) (c - m) false, inferInstance, hel _ _, ?_⟩
        have hc : cutAt o m c inf.size = o + m * q := by unfold cutAt; rw [if_neg hcm, h3]
        simp [exL, ha, hb, slc, h1, h2, bnds, bnd, intOf?, hmi, hmc, hc]
    · obtain ⟨rfl, rfl⟩ := g4 rfl
      have hc : capOk P H e i l.length 0 = true := by
        have : 0 + l.length * q ≤ cs.length := g2
        simp [capOk, g1', h2, h3, hq]; omega
      by_cases hlt : m < l.length ∨ m = 0
      · refine .inl ⟨.sl i (0 + m * q) (l.length - m) (0 + m) true, inferInstance, hel _ _, ?_⟩
        simp [exL, ha, hb, slc, h1, h2, hc, ubnds, bnds, bnd, intOf?, hmi, h3, hlt]
      · have hml : m = l.length := by omega
        subst hml
        have hnil : l.drop l.length = [] := List.drop_of_length_le (Nat.le_refl _)
        rw [hnil]
        refine .inr ⟨.sl i 0 0 0 false, .sl i (0 + l.length * inf.size) 0 (0 + l.length) true, by simp [tailOf, h1, ha, hb, hc, h2, intOf?], inferInstance, inferInstance, ?_, ?_⟩
        · exact .inr ⟨i, 0, 0, false, cs, e, true, rfl, g1, by simp, by simp⟩
        · exact .inr ⟨i, 0 + l.length * inf.size, 0 + l.length, true, cs, e, true, rfl, g1, by simp [h3]; omega, by simp⟩
end
section
variable {P : Program} {ops : Array Oper} {d : Option Tmp} {ty : TypeId} {pos : String} {aft : Array Edge} {gd : Option (Nat × Bool)} {rest : List Oper} {N : Fr → Hp → Prop} {fl : List AV} {ds : List Nat} {Y : Hp} {t e : TypeId} {a b : Operand} {α : Type} {enc : α → List AV} {q : Nat} {z : AV} {l : List α} {m : Nat} {h0 : Hp} {X : OrdX} {pd : List (Nat × Nat)} {gone : List Nat} {ii : Nat}
theorem u_hiQ (d0 : α) (hk : ∀ z', SlC z' → EL α enc q d0 h0 z' (l.take m) → wkX P ops X pd N (Fr.put ⟨fl, ds⟩ d z') Y) (hq : 0 < q) (hE : EncOk enc q) (hu : CS P t e q) (hO : Own enc q e h0 z l) (hm : m ≤ l.length) (hx : Ext h0 Y)
    (hw : wantA ops ⟨fl, ds⟩ ⟨d, .slice t a none (some b) none, ty, pos, aft, gd⟩ = true := by rfl) (ha : evS fl a = some z := by rfl) (hb : evS fl b = some (.v (.int .i64 m)) := by rfl) : wkX P ops (.alt ⟨d, .slice t a none (some b) none, ty, pos, aft, gd⟩ ii gone X .no) pd N ⟨fl, ds⟩ Y := by
  obtain ⟨z', h1, h2, h3⟩ := slcq_hi hq hE hu.p hO hx hm (f := ⟨fl, ds⟩) (e_any ha) (e_any hb)
  exact u_gL hw h3 (hk z' h1 (mkEL hE d0 h2))
theorem u_loQ (d0 : α) (hk : ∀ z', SlC z' → EL α enc q d0 h0 z' (l.drop m) → wkX P ops X pd N (Fr.put ⟨fl, ds⟩ d z') Y) (hq : 0 < q) (hE : EncOk enc q) (hu : CS P t e q) (hO : Own enc q e h0 z l) (hm : m ≤ l.length) (hx : Ext h0 Y)
    (hw : wantA ops ⟨fl, ds⟩ ⟨d, .slice t a (some b) none none, ty, pos, aft, gd⟩ = true := by rfl) (ha : evS fl a = some z := by rfl) (hb : evS fl b = some (.v (.int .i64 m)) := by rfl) : wkX P ops (.alt ⟨d, .slice t a (some b) none none, ty, pos, aft, gd⟩ ii gone X .no) pd N ⟨fl, ds⟩ Y := by
  rcases slcq_lo hq hE hu.p hO hx hm (f := ⟨fl, ds⟩) (e_any ha) (e_any hb) with ⟨z', h1, h2, h3⟩ | ⟨r1, r2, h0, p1, p2, h2, h3⟩
  · exact u_gL hw h3 (hk z' h1 (mkEL hE d0 h2))
  · refine ⟨?_, trivial⟩
    rw [if_pos hw]
    exact .inr (.inr (.inr (.inr (.inl ⟨r1, r2, h0, ⟨stayG_same pd, hk _ p1 (mkEL hE d0 h2)⟩, ⟨stayG_same pd, hk _ p2 (mkEL hE d0 h3)⟩⟩))))
end
end Go.Az
