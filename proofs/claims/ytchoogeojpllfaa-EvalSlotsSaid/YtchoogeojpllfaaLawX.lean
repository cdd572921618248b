/- A part of the walk or of the law. -/
import Derived.Test.YtchoogeojpllfaaLawW
set_option linter.unusedVariables false
set_option linter.unusedSimpArgs false
namespace Go.Proofs.Ytchoogeojpllfaa
open Go.Sx
set_option maxHeartbeats 4000000
theorem slotN (to : BitVec 32) : (lWord_0 68 0 0 0 0 (to &&& 1048572#32)).toNat = 134217728 + (to &&& 1048572#32).toNat / 4 % 67108864 := by
  rw [show lWord_0 68 0 0 0 0 (to &&& 1048572#32) = enc_0 68 0 0 0 0 (to &&& 1048572#32) from rfl, enc68, jw_nat 2 (by decide)]
theorem slotJ (to : BitVec 32) : IsJ ((lWord_0 68 0 0 0 0 (to &&& 1048572#32)).toNat : Int) := ⟨(to &&& 1048572#32).toNat / 4 % 67108864, Nat.mod_lt _ (by decide), by rw [slotN]⟩
theorem slotT (to : BitVec 32) : jT ((lWord_0 68 0 0 0 0 (to &&& 1048572#32)).toNat : Int) = to &&& 1048572#32 := by
  unfold jT
  rw [slotN, Int.toNat_natCast]
  apply BitVec.eq_of_toNat_eq
  have h2 : (to &&& 1048572#32).toNat < 268435456 := by
    rw [BitVec.toNat_and]
    have h3 : to.toNat &&& 1048572 ≤ 1048572 := Nat.and_le_right
    simpa using (by omega : to.toNat &&& 1048572 < 268435456)
  have h4 : (to &&& 1048572#32).toNat % 4 = 0 := by
    have e : (to &&& 1048572#32) &&& 3#32 = 0#32 := by rw [BitVec.and_assoc]; simp
    have := congrArg BitVec.toNat e
    rw [low_nat _ 3#32 2 rfl] at this
    simpa using this
  simp only [BitVec.toNat_mul, BitVec.toNat_ofNat]
  omega
theorem slotS (to : BitVec 32) : sTarget_0 68 0 0 0 0 (jT ((lWord_0 68 0 0 0 0 (to &&& 1048572#32)).toNat : Int)) 65540#32 0#32 = to &&& 1048572#32 := by
  rw [slotT]
  simp [sTarget_0]
theorem slotR (to : BitVec 32) : sTarget_0 68 0 0 0 0 (jT ((lWord_0 68 0 0 0 0 (to &&& 1048572#32)).toNat : Int)) 65540#32 0#32 % 4#32 = 0#32 ∧ 4#32 ≠ 0#32 := by
  refine ⟨?_, by decide⟩
  rw [slotS]
  apply BitVec.eq_of_toNat_eq
  have e : (to &&& 1048572#32) &&& 3#32 = 0#32 := by rw [BitVec.and_assoc]; simp
  have := congrArg BitVec.toNat e
  rw [low_nat _ 3#32 2 rfl] at this
  rw [BitVec.toNat_umod]
  simpa using this
end Go.Proofs.Ytchoogeojpllfaa
