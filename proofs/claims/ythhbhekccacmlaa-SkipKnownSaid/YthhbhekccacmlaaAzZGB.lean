/-
  Bytes, strings made of bytes, and the operations on bits. Conditions: stated at each theorem.
-/
import Derived.Test.YthhbhekccacmlaaAzZG
set_option linter.unusedSimpArgs false
set_option linter.unusedVariables false
namespace Go.Az
open Go Go.Chz

/-- A number's lowest byte. -/
def b8 (n : Int) : UInt8 := UInt8.ofNat (n % 256).toNat
abbrev U8 (b : UInt8) : AV := .v (.int .u8 (b.toNat : Nat))
theorem b8_toNat (n : Int) : ((b8 n).toNat : Int) = n % 256 := by
  have h0 := Int.emod_nonneg n (show (256 : Int) ≠ 0 by omega)
  have h1 := Int.emod_lt_of_pos n (show (0 : Int) < 256 by omega)
  rw [b8, UInt8.toNat_ofNat_of_lt' (by show _ < 256; omega)]
  omega
theorem b8_nat (b : UInt8) : b8 (b.toNat : Nat) = b := by
  have h := b8_toNat (b.toNat : Nat)
  have h1 := UInt8.toNat_lt b
  refine UInt8.toNat_inj.1 ?_
  omega
theorem wrap_u8 (n : Int) : IntKind.u8.wrap n = ((b8 n).toNat : Nat) := by
  rw [b8_toNat]; rfl
theorem wrap_u32 (n : Int) : IntKind.u32.wrap n = n % 4294967296 := rfl
theorem wrap_u64 (n : Int) : IntKind.u64.wrap n = n % 18446744073709551616 := rfl
class UB (cs : List AV) (l : outParam (List UInt8)) : Prop where
  p : unB cs = some l
instance : UB [] [] := ⟨rfl⟩
instance {cs : List AV} {l : List UInt8} {b : UInt8} [x : UB cs l] : UB (U8 b :: cs) (b :: l) := ⟨by
  have e : UInt8.ofNat ((b.toNat : Int)).toNat = b := by rw [Int.toNat_natCast]; exact UInt8.ofNat_toNat
  simp only [unB, x.p, Option.map_some, e]⟩
theorem unB_map : ∀ l : List UInt8, unB (l.map U8) = some l
  | [] => rfl
  | b :: l => by
    have e : UInt8.ofNat ((b.toNat : Int)).toNat = b := by rw [Int.toNat_natCast]; exact UInt8.ofNat_toNat
    simp only [List.map_cons, unB, unB_map l, Option.map_some, e]
def orI (k : IntKind) (a b : Int) : Int := k.wrap (BitVec.ofInt k.bits a ||| BitVec.ofInt k.bits b).toNat
def andI (k : IntKind) (a b : Int) : Int := k.wrap (BitVec.ofInt k.bits a &&& BitVec.ofInt k.bits b).toNat
def xorI (k : IntKind) (a b : Int) : Int := k.wrap (BitVec.ofInt k.bits a ^^^ BitVec.ofInt k.bits b).toNat
def andnI (k : IntKind) (a b : Int) : Int := k.wrap (BitVec.ofInt k.bits a &&& ~~~BitVec.ofInt k.bits b).toNat
section
variable {P : Program} {f : Fr} {h : Hp} {t t' e tt i n c : Nat} {a b : Operand} {k k0 k1 : IntKind} {x y m : Int} {u ow : Bool} {cs : List AV} {l : List UInt8}
theorem x_convB (hs : P.underlying t = some (.int k1)) (hd : P.underlying t' = some (.int .u8)) (ha : ev f a = .v (.int k0 x)) : exL P f h (.convert t t' a) = some (U8 (b8 x)) := by
  rw [x_convM hs hd ha, wrap_u8]
theorem x_convS (hu : sliOf P t = some (e, 1)) (he : P.underlying e = some (.int .u8)) (hd : strTy P t' = true) (ha : ev f a = .sl i 0 n c u) (hi : h[i]? = some (.cells cs tt ow)) (hn : n = cs.length) (hb : unB cs = some l) : exL P f h (.convert t t' a) = some (St l) := by
  subst hn
  have h1 := (sliOf_spec hu).1
  have h2 := strTy_spec hd
  simp only [exL, ha, cnv, h1, h2, he, hi, Nat.zero_add, Nat.le_refl, if_true, List.drop_zero, List.take_length, hb, Option.map_some]
theorem x_or (ha : ev f a = .v (.int k x)) (hb : ev f b = .v (.int k y)) : exL P f h (.binOp .or t a b t') = some (.v (.int k (orI k x y))) := by
  simp [exL, ha, hb, bin, ibin, orI]
theorem x_and (ha : ev f a = .v (.int k x)) (hb : ev f b = .v (.int k y)) : exL P f h (.binOp .and t a b t') = some (.v (.int k (andI k x y))) := by
  simp [exL, ha, hb, bin, ibin, andI]
theorem x_xor (ha : ev f a = .v (.int k x)) (hb : ev f b = .v (.int k y)) : exL P f h (.binOp .xor t a b t') = some (.v (.int k (xorI k x y))) := by
  simp [exL, ha, hb, bin, ibin, xorI]
theorem x_andn (ha : ev f a = .v (.int k x)) (hb : ev f b = .v (.int k y)) : exL P f h (.binOp .andNot t a b t') = some (.v (.int k (andnI k x y))) := by
  simp [exL, ha, hb, bin, ibin, andnI]
end
end Go.Az
