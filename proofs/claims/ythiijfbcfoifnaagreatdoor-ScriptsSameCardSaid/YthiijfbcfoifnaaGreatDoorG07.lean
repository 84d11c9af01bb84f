/- Texts of the proof: ZO3. -/
import Derived.Test.YthiijfbcfoifnaaGreatDoorG06
import Derived.WideShapes

set_option linter.unusedVariables false
set_option linter.unusedSimpArgs false
set_option linter.unusedSectionVars false

namespace Go.Proofs.YthiijfbcfoifnaaGreatDoor
open Go.Eng Go.Plain Go.WideShapes Go.ChangeAt Go.ChangeShapes
theorem opens_z3 : Opens Tryz.prog 69 3 encZ3 fun _ => True :=
 Opens.map (opens_array (P := Tryz.prog) Tryz.underlying69 (by kernel_rfl) (by kernel_rfl) (opens_int (P := Tryz.prog) Tryz.underlying5))
  (fun l => ((l[0]?.getD 0).toNat.toUInt8, (l[1]?.getD 0).toNat.toUInt8, (l[2]?.getD 0).toNat.toUInt8))
  (fun l h => by
   obtain ⟨a, b, c, rfl⟩ : ∃ a b c, l = [a, b, c] := by
    match l, h.1 with
    | [a, b, c], _ => exact ⟨a, b, c, rfl⟩
   have ha := h.2 a (by simp)
   have hb := h.2 b (by simp)
   have hc := h.2 c (by simp)
   show D.vec 3 1 encU8 (byI [a.toNat.toUInt8, b.toNat.toUInt8, c.toNat.toUInt8]) = .vec 3 1 _ [a, b, c]
   simp only [byI, List.map_cons, List.map_nil, u8_back ha, u8_back hb, u8_back hc]
   rfl) (fun _ _ => trivial)
theorem okWide_arr {P : Program} {w : World} {r : Reach} {base : Nat} {t : TypeId} {n : Nat} {e : TypeId} {v : Value} (ht : P.underlying t = some (.array n e)) (h : Value.okWide P w r base t v) : ∃ cs, v = .agg cs ∧ cs.size = P.cellsOf t := by
 simp only [Value.okWide, ht] at h
 obtain ⟨cs, h1, h2, _⟩ := h
 exact ⟨cs, h1, h2⟩
end Go.Proofs.YthiijfbcfoifnaaGreatDoor
