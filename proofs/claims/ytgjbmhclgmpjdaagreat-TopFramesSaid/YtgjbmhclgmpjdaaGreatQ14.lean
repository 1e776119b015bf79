/-
  A part of the proof of a statement of a chapter's seat; conditions: stated at each theorem.
-/
import Derived.Test.YtgjbmhclgmpjdaaGreatQ1
import Derived.Shelf.Strings.Repeat
set_option linter.unusedVariables false
set_option linter.unusedSectionVars false
set_option linter.unusedSimpArgs false
set_option linter.unusedVariables false
set_option maxRecDepth 1000000
namespace Go.Proofs.YtgjbmhclgmpjdaaGreat
open Go.Az Go
/-! ### Repeat -/
def ren105 : Go.Shelf.Ren := ⟨fun x => if x = 99 then 79 else if x = 105 then 75 else if x = 165 then 91 else if x = 166 then 92 else if x = 169 then 94 else if x = 170 then 93 else if x = 206 then 99 else if x = 212 then 90 else if x = 240 then 115 else if x = 241 then 116 else if x = 263 then 113 else if x = 264 then 114 else if x = 276 then 143 else if x = 277 then 144 else x, fun x => if x = 46 then 52 else if x = 109 then 166 else if x = 72 then 170 else if x = 76 then 174 else if x = 51 then 42 else if x = 146 then 195 else if x = 53 then 94 else if x = 148 then 197 else if x = 70 then 168 else if x = 37 then 46 else if x = 75 then 173 else if x = 127 then 84 else if x = 164 then 247 else if x = 80 then 74 else x, fun x => x⟩
theorem lays105 : Lays.n105 Tryz.prog ren105 :=
  ⟨hm, Tryz.func79.trans (congrArg some (by kernel_rfl)), Tryz.func75.trans (congrArg some (by kernel_rfl)), Tryz.func91.trans (congrArg some (by kernel_rfl)), Tryz.func92.trans (congrArg some (by kernel_rfl)), Tryz.func94.trans (congrArg some (by kernel_rfl)), Tryz.func93.trans (congrArg some (by kernel_rfl)), Tryz.func99.trans (congrArg some (by kernel_rfl)), Tryz.func90.trans (congrArg some (by kernel_rfl)), Tryz.func115.trans (congrArg some (by kernel_rfl)), Tryz.func116.trans (congrArg some (by kernel_rfl)), Tryz.func113.trans (congrArg some (by kernel_rfl)), Tryz.func114.trans (congrArg some (by kernel_rfl)), Tryz.func143.trans (congrArg some (by kernel_rfl)), Tryz.func144.trans (congrArg some (by kernel_rfl)),
    Tryz.underlying0, Tryz.isAgg0, Tryz.sizeOf0, Tryz.zeroValue0, Tryz.underlying3, Tryz.isAgg3, Tryz.sizeOf3, Tryz.zeroValue3, Tryz.underlying4, Tryz.isAgg4, Tryz.sizeOf4, Tryz.zeroValue4, Tryz.underlying5, Tryz.isAgg5, Tryz.sizeOf5, Tryz.zeroValue5, Tryz.underlying9, Tryz.isAgg9, Tryz.sizeOf9, Tryz.zeroValue9, Tryz.underlying20, Tryz.isAgg20, Tryz.sizeOf20, Tryz.zeroValue20, Tryz.underlying46, Tryz.isAgg46, Tryz.sizeOf46, Tryz.zeroValue46, Tryz.underlying52, Tryz.isAgg52, Tryz.sizeOf52, Tryz.zeroValue52, Tryz.underlying42, Tryz.isAgg42, Tryz.sizeOf42, Tryz.zeroValue42, Tryz.underlying94, Tryz.isAgg94, Tryz.sizeOf94, Tryz.zeroValue94, Tryz.underlying168, Tryz.isAgg168, Tryz.sizeOf168, Tryz.zeroValue168, Tryz.underlying170, Tryz.isAgg170, Tryz.sizeOf170, Tryz.zeroValue170, Tryz.underlying173, Tryz.isAgg173, Tryz.sizeOf173, Tryz.zeroValue173, Tryz.underlying174, Tryz.isAgg174, Tryz.sizeOf174, Tryz.zeroValue174, Tryz.underlying166, Tryz.isAgg166, Tryz.sizeOf166, Tryz.zeroValue166, Tryz.underlying84, Tryz.isAgg84, Tryz.sizeOf84, Tryz.zeroValue84, Tryz.underlying195, Tryz.isAgg195, Tryz.sizeOf195, Tryz.zeroValue195, Tryz.underlying197, Tryz.isAgg197, Tryz.sizeOf197, Tryz.zeroValue197, Tryz.underlying247, Tryz.isAgg247, Tryz.sizeOf247, Tryz.zeroValue247⟩
theorem extra105 : Builder.Extra Tryz.prog ren105 :=
  ⟨⟨by kernel_rfl, by kernel_rfl⟩, Tryz.underlying5, Tryz.isAgg5, Tryz.sizeOf5, Tryz.zeroValue5, by kernel_rfl, by kernel_rfl, by kernel_rfl, by decide⟩
theorem repeatL_1 (a : UInt8) (n : Nat) : Lib.repeatL [a] n = List.replicate n a := by
  have := Lib.repeatL_replicate a 1 n
  rw [Nat.mul_one] at this
  exact this
theorem repeat_any (a : UInt8) (n : Nat) (hn : n ≤ 1000000) : ACalls Tryz.prog 75 [St [a], I n] [] (fun r _ => r = St (List.replicate n a) ∧ r.sc 0 = true) := by
  have h := acalls_of_calls (P := Tryz.prog) (g := 75) (args := [.string (mkB [a]), .int .i64 n]) (v := .string (mkB (List.replicate n a))) (fun w => ?_)
  · exact h
  · have := Any.strings_Repeat lays105 extra105 (mkB [a]) n w (by omega) (by show 1 * n ≤ _; omega)
    rw [show (mkB [a]).data.toList = [a] from rfl, repeatL_1] at this
    exact this
end Go.Proofs.YtgjbmhclgmpjdaaGreat
