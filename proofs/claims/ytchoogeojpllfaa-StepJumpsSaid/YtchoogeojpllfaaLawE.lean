/- A part of the walk or of the law. -/
import Derived.Test.YtchoogeojpllfaaLawD
import Derived.Test.YtchoogeojpllfaaLawK
set_option linter.unusedVariables false
set_option linter.unusedSimpArgs false
namespace Go.Proofs.Ytchoogeojpllfaa
open Go.Sx
set_option maxHeartbeats 4000000
/-- A jump's word, decoded. -/
theorem decJ {w : BitVec 32} {k x : Nat} (op : Int) (hk : k = 2 ∧ op = 68 ∨ k = 3 ∧ op = 69) (hx : x < 67108864) (h : w.toNat = k * 2 ^ 26 + x) : iDec_0 w = op ∧ iDec_1 w = 0 ∧ iDec_2 w = 0 ∧ iDec_3 w = 0 ∧ iDec_4 w = 0 ∧ iDec_5 w = BitVec.ofNat 32 x * 4#32 := by
  obtain ⟨hR, hf⟩ := isJ op hk hx h
  refine ⟨?_, ?_, ?_, ?_, ?_, ?_⟩
  · simp [iDec_0, hR.ok, hR.form, hR.op]
  · simp [iDec_1, hR.ok, hR.form]
  · simp [iDec_2, hR.ok, hR.form]
  · simp [iDec_3, hR.ok, hR.form]
  · simp [iDec_4, hR.ok, hR.form]
  · simp [iDec_5, hR.ok, hR.form, hf]
theorem tgt (to : BitVec 32) : BitVec.ofNat 32 ((to &&& 268435452#32).toNat / 4 % 67108864) * 4#32 = to &&& 268435452#32 := by
  apply BitVec.eq_of_toNat_eq
  have h1 : ∀ i, (to &&& 268435452#32).getLsbD i = (to.getLsbD i && (268435452#32).getLsbD i) := fun i => by simp
  have h2 : (to &&& 268435452#32).toNat < 268435456 := by
    have := BitVec.toNat_and to 268435452#32
    have h3 : to.toNat &&& 268435452 ≤ 268435452 := Nat.and_le_right
    rw [this]; simpa using (by omega : to.toNat &&& 268435452 < 268435456)
  have h4 : (to &&& 268435452#32).toNat % 4 = 0 := by
    have e : (to &&& 268435452#32) &&& 3#32 = 0#32 := by rw [BitVec.and_assoc]; simp
    have := congrArg BitVec.toNat e
    rw [low_nat _ 3#32 2 rfl] at this
    simpa using this
  simp only [BitVec.toNat_mul, BitVec.toNat_ofNat]
  omega
/-- A jump that is taken, its state behind it. -/
theorem jump1 {ps : List PgA} {r : Nat → BitVec 32} {hi lo pc nx : BitVec 32} {w : BitVec 32} {k x : Nat} (op : Int) (hk : k = 2 ∧ op = 68 ∨ k = 3 ∧ op = 69) (hx : x < 67108864) (h : w.toNat = k * 2 ^ 26 + x) (h1 : fetch_1 ps pc = 0) (h0 : fetch_0 ps pc = w) : Goes ps r hi lo pc nx false op 0 0 0 0 (BitVec.ofNat 32 x * 4#32) := by
  obtain ⟨e0, e1, e2, e3, e4, e5⟩ := decJ op hk hx h
  refine step_ok h1 h0 e0 e1 e2 e3 e4 e5 ?_ ?_
  · rcases hk with ⟨_, rfl⟩ | ⟨_, rfl⟩ <;> rfl
  · rcases hk with ⟨_, rfl⟩ | ⟨_, rfl⟩ <;> simp [sWrong_0, aTraps_0, insKind_0]
theorem jump_slot {ps : List PgA} {r : Nat → BitVec 32} {hi lo pc nx : BitVec 32} {w : BitVec 32} {k x : Nat} (op : Int) (hk : k = 2 ∧ op = 68 ∨ k = 3 ∧ op = 69) (hx : x < 67108864) (h : w.toNat = k * 2 ^ 26 + x) (h1 : fetch_1 ps pc = 0) (h0 : fetch_0 ps pc = w) : Halts ps r hi lo pc nx true 7 0#32 := by
  obtain ⟨e0, e1, e2, e3, e4, e5⟩ := decJ op hk hx h
  refine step_bad h1 h0 e0 e1 e2 e3 e4 e5 rfl ?_ ?_
  · rcases hk with ⟨_, rfl⟩ | ⟨_, rfl⟩ <;> simp [sWrong_0, insKind_0]
  · rcases hk with ⟨_, rfl⟩ | ⟨_, rfl⟩ <;> simp [sWrong_1, insKind_0]
theorem dec0 : iDec_0 0#32 = 16 ∧ iDec_1 0#32 = 0 ∧ iDec_2 0#32 = 0 ∧ iDec_3 0#32 = 0 ∧ iDec_4 0#32 = 0 ∧ iDec_5 0#32 = 0 := ⟨by kernel_rfl, by kernel_rfl, by kernel_rfl, by kernel_rfl, by kernel_rfl, by kernel_rfl⟩
theorem nop1 {ps : List PgA} {r : Nat → BitVec 32} {hi lo pc nx : BitVec 32} {sl : Bool} (h1 : fetch_1 ps pc = 0) (h0 : fetch_0 ps pc = 0#32) : Goes ps r hi lo pc nx sl 16 0 0 0 0 0#32 := by
  obtain ⟨e0, e1, e2, e3, e4, e5⟩ := dec0
  exact step_ok h1 h0 e0 e1 e2 e3 e4 e5 rfl (by simp [sWrong_0, aTraps_0, insKind_0])
theorem doesJ {ps : List PgA} {r : Nat → BitVec 32} {hi lo pc nx imm x y : BitVec 32} {sl : Bool} {op : Int} (hop : op = 68 ∨ op = 69) : sDoes_6 ps r hi lo pc nx sl op 0 0 0 0 imm x y = ps ∧ ∀ j, j ≠ 0 → sDoes_0 ps r hi lo pc nx sl op 0 0 0 0 imm x y j = if op = 69 ∧ j = 31 then nx + 4#32 else r j := by
  rcases hop with rfl | rfl
  · refine ⟨by simp [sDoes_6, insKind_0, aReckon_1], fun j hj => ?_⟩
    simp [sDoes_0, insKind_0, aReckon_1, aWrites_0, sh, upd, hj]
  · refine ⟨by simp [sDoes_6, insKind_0, aReckon_1], fun j hj => ?_⟩
    simp [sDoes_0, insKind_0, aReckon_1, aWrites_0, sh, upd, hj]
end Go.Proofs.Ytchoogeojpllfaa
