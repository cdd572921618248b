/- A part of the walk or of the law. -/
import Derived.Test.YtchoogeojpllfaaLawA
set_option linter.unusedVariables false
set_option linter.unusedSimpArgs false
namespace Go.Proofs.Ytchoogeojpllfaa
open Go.Sx
set_option maxHeartbeats 4000000
/-! ### jalr -/
def rg (s : Int) : BitVec 32 := BitVec.ofInt 32 (iBits (fun x y => x &&& y) s 31)
theorem enc28 (r : Int) : enc_0 28 5 0 r 0 0 = BitVec.ofNat 32 0 <<< 26 + rg 5 <<< 21 + rg 0 <<< 16 + rg r <<< 11 + rg 0 <<< 6 + BitVec.ofNat 32 9 := by kernel_rfl
theorem fld28 {r : Int} (h : Reg r) : Fld (enc_0 28 5 0 r 0 0) 0 5 0 (r.toNat * 2048 + 9) := by
  have e5 : (rg 5).toNat = 5 := by decide +kernel
  have e0 : (rg 0).toNat = 0 := by decide +kernel
  have er : (rg r).toNat = r.toNat := rg_nat h
  have hr : r.toNat < 32 := by unfold Reg at h; omega
  refine ⟨?_, by omega, by omega, by omega, by omega⟩
  rw [enc28, sum5 0 _ _ _ _ 9 (by omega) (by omega) (by omega) (by omega) (by omega) (by omega), e5, e0, er]
  omega
theorem row28 {r : Int} (h : Reg r) : IsRow (enc_0 28 5 0 r 0 0) 28 5 := by
  have hf := fld28 h
  have hr : r.toNat < 32 := by unfold Reg at h; omega
  exact isRow_of hf.o (hf.f.trans (by rw [show (r.toNat * 2048 + 9) % 64 = 9 by omega])) rfl (by kernel_rfl) (by kernel_rfl) (by kernel_rfl)
theorem dec28 {r : Int} (h : Reg r) : iDec_0 (enc_0 28 5 0 r 0 0) = 28 ∧ iDec_1 (enc_0 28 5 0 r 0 0) = 5 ∧ iDec_2 (enc_0 28 5 0 r 0 0) = 0 ∧ iDec_3 (enc_0 28 5 0 r 0 0) = r ∧ iDec_4 (enc_0 28 5 0 r 0 0) = 0 ∧ iDec_5 (enc_0 28 5 0 r 0 0) = 0 := by
  have hf := fld28 h
  have hR := row28 h
  have hr : r.toNat < 32 := by unfold Reg at h; omega
  have h0 : 0 ≤ r := h.1
  have ht := hf.t
  have ha : bField_0 (enc_0 28 5 0 r 0 0) 6 5 = 0#32 := hf.a.trans (by rw [show (r.toNat * 2048 + 9) / 64 % 32 = 0 by omega])
  have hd := hf.d
  rw [show (r.toNat * 2048 + 9) / 2048 = r.toNat by omega] at hd
  have hs := hf.s
  generalize enc_0 28 5 0 r 0 0 = w at *
  have e1 : ((BitVec.ofNat 32 r.toNat).toNat : Int) = r := by rw [BitVec.toNat_ofNat, Nat.mod_eq_of_lt (by omega)]; omega
  refine ⟨?_, ?_, ?_, ?_, ?_, ?_⟩
  · simp [iDec_0, hR.ok, hR.form, hR.op, ht, ha]
  · simp [iDec_1, hR.ok, hR.form, ht, ha, hs]
  · simp [iDec_2, hR.ok, hR.form, ht, ha]
  · simp [iDec_3, hR.ok, hR.form, ht, ha, hd]; omega
  · simp [iDec_4, hR.ok, hR.form, ht, ha]
  · simp [iDec_5, hR.ok, hR.form, ht, ha]
/-! ### bltzal, bgezal: closed words -/
theorem dec66 : iDec_0 (enc_0 66 5 0 0 0 64) = 66 ∧ iDec_1 (enc_0 66 5 0 0 0 64) = 5 ∧ iDec_2 (enc_0 66 5 0 0 0 64) = 0 ∧ iDec_3 (enc_0 66 5 0 0 0 64) = 0 ∧ iDec_4 (enc_0 66 5 0 0 0 64) = 0 ∧ iDec_5 (enc_0 66 5 0 0 0 64) = 64#32 := ⟨by kernel_rfl, by kernel_rfl, by kernel_rfl, by kernel_rfl, by kernel_rfl, by kernel_rfl⟩
theorem dec67 : iDec_0 (enc_0 67 5 0 0 0 64) = 67 ∧ iDec_1 (enc_0 67 5 0 0 0 64) = 5 ∧ iDec_2 (enc_0 67 5 0 0 0 64) = 0 ∧ iDec_3 (enc_0 67 5 0 0 0 64) = 0 ∧ iDec_4 (enc_0 67 5 0 0 0 64) = 0 ∧ iDec_5 (enc_0 67 5 0 0 0 64) = 64#32 := ⟨by kernel_rfl, by kernel_rfl, by kernel_rfl, by kernel_rfl, by kernel_rfl, by kernel_rfl⟩
end Go.Proofs.Ytchoogeojpllfaa
