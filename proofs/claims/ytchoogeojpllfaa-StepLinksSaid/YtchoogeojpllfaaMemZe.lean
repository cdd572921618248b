/- A part of the walk or of the law. -/
import Derived.Test.YtchoogeojpllfaaMemZd
import Derived.Test.YtchoogeojpllfaaLawC
namespace Go.Proofs.Ytchoogeojpllfaa
open Go.Sx
set_option maxHeartbeats 4000000
theorem u32_of {b : Int} (wb : (Lit.int .u32 b).wf = true) : ∃ v : BitVec 32, (v.toNat : Int) = b := by
  have h : 0 ≤ b ∧ b ≤ 4294967295 := by
    have h1 : (decide (IntKind.u32.min ≤ b) && decide (b ≤ IntKind.u32.max)) = true := wb
    rw [Bool.and_eq_true, decide_eq_true_eq, decide_eq_true_eq] at h1
    exact h1
  refine ⟨BitVec.ofInt 32 b, ?_⟩
  rw [BitVec.toNat_ofInt]
  omega
theorem reg1 (d : Int) : Reg (W64 (1 + lPlace_0 d 31)) ∧ 1 ≤ W64 (1 + lPlace_0 d 31) := by
  have := plc d 31 (by decide) (by decide)
  unfold Reg
  rw [W64_of (by omega) (by omega)]
  omega
theorem lnkA_true (op : Int) (v : BitVec 32) (d : Int) : lnkA_0 op v d = true := by
  obtain ⟨hR, h1⟩ := reg1 d
  obtain ⟨g0, g1, g2, g3, g4, g5⟩ := dec28 hR
  have e : ∀ x : BitVec 32, upd (fun _ => 0#32) 0 x 0 = x := fun x => rfl
  have e2 : ∀ r, lWord_0 28 5 0 r 0 0#32 = enc_0 28 5 0 r 0 0 := fun r => rfl
  obtain ⟨s6, s3, s5, s4, s11, s0⟩ := step_jumps (r := sh (upd (fun _ => 0#32) 5 v) 0) (hi := 0#32) (lo := 0#32) (nx := 1028#32) (f1A (enc_0 28 5 0 (W64 (1 + lPlace_0 d 31)) 0 0)) (f0A _) g0 g1 g2 g3 g4 g5 (.inl rfl)
  have hne : (0 + (0 + (W64 (1 + lPlace_0 d 31)).toNat)) ≠ 0 := by omega
  have hj := s0 _ hne
  unfold lnkA_0
  simp only [e, e2]
  rw [s6, hj, s3, s5, s4]
  simp [aTakes_0, sTarget_0, aWrites_0, upd, sh, awk_0]
theorem top (v : BitVec 32) : v >>> 31 = 0#32 ∧ v.toNat < 2147483648 ∨ v >>> 31 = 1#32 ∧ 2147483648 ≤ v.toNat := by
  have hv := v.isLt
  have e : (v >>> 31).toNat = v.toNat / 2147483648 := by rw [BitVec.toNat_ushiftRight, Nat.shiftRight_eq_div_pow]
  by_cases h : v.toNat < 2147483648
  · exact .inl ⟨BitVec.eq_of_toNat_eq (by rw [e]; simp; omega), h⟩
  · exact .inr ⟨BitVec.eq_of_toNat_eq (by rw [e]; simp; omega), by omega⟩
theorem less0 (v : BitVec 32) : aLess_0 v 0#32 = (v >>> 31 == 1#32) := by
  have hv := v.isLt
  unfold aLess_0 BitVec.slt
  rw [BitVec.toInt_eq_toNat_cond]
  rcases top v with ⟨h, hl⟩ | ⟨h, hl⟩
  · rw [h, if_pos (by omega)]; simp
  · rw [h, if_neg (by omega)]; simp; omega
theorem lnkB_true (op : Int) (v : BitVec 32) (d : Int) : lnkB_0 op v d = true := by
  obtain ⟨g0, g1, g2, g3, g4, g5⟩ := dec66
  have e : (78643216#32 : BitVec 32) = enc_0 66 5 0 0 0 64 := by kernel_rfl
  obtain ⟨s6, s3, s5, s4, s11, s0⟩ := step_jumps (r := sh (upd (fun _ => 0#32) 5 v) 0) (hi := 0#32) (lo := 0#32) (nx := 1028#32) (f1A (enc_0 66 5 0 0 0 64)) (f0A _) g0 g1 g2 g3 g4 g5 (.inr (.inl rfl))
  have hj := s0 31 (by decide)
  unfold lnkB_0
  rw [e, s6, hj, s3, s5, s4]
  rcases top v with ⟨hc, _⟩ | ⟨hc, _⟩ <;> simp [aTakes_0, sTarget_0, aWrites_0, upd, sh, awk_0, less0, hc]
theorem lnkC_true (op : Int) (v : BitVec 32) (d : Int) : lnkC_0 op v d = true := by
  obtain ⟨g0, g1, g2, g3, g4, g5⟩ := dec67
  have e : (78708752#32 : BitVec 32) = enc_0 67 5 0 0 0 64 := by kernel_rfl
  obtain ⟨s6, s3, s5, s4, s11, s0⟩ := step_jumps (r := sh (upd (fun _ => 0#32) 5 v) 0) (hi := 0#32) (lo := 0#32) (nx := 1028#32) (f1A (enc_0 67 5 0 0 0 64)) (f0A _) g0 g1 g2 g3 g4 g5 (.inr (.inr (.inl rfl)))
  have hj := s0 31 (by decide)
  unfold lnkC_0
  rw [e, s6, hj, s3, s5, s4]
  rcases top v with ⟨hc, _⟩ | ⟨hc, _⟩ <;> simp [aTakes_0, sTarget_0, aWrites_0, upd, sh, awk_0, less0, hc]
theorem links_any (a b c : Int) (W : World) (wb : (Lit.int .u32 b).wf = true) : Calls Try.prog 5 #[.int .i64 a, .int .u32 b, .int .i64 c] W fun e W' => e = .returned (.bool true) ∧ RowKit.Below W.heap.size W W' := by
  obtain ⟨v, rfl⟩ := u32_of wb
  have hR : Rep As0 (fun _ _ => False) [] W := ⟨fun k b hk => (by cases hk), fun k b hk => (by cases hk), fun k k' b b' hk => (by cases hk)⟩
  have h3 := plc3 a
  have key : lPlace_0 a 3 = 0 ∨ lPlace_0 a 3 = 1 ∨ lPlace_0 a 3 = 2 := by omega
  rcases key with hk | hk | hk
  · obtain ⟨_, x, hx, hc⟩ := q_lnkA.ok [.c (.i a), .c (.w v), .c (.i c)] [] (fun x => x = .e (.c (.bool true))) ⟨hk, by rw [lnkA_true a v c]; rfl⟩
    subst hx
    exact hc As0 (fun _ _ => False) W hR
  · obtain ⟨_, x, hx, hc⟩ := q_lnkB.ok [.c (.i a), .c (.w v), .c (.i c)] [] (fun x => x = .e (.c (.bool true))) ⟨hk, by rw [lnkB_true a v c]; rfl⟩
    subst hx
    exact hc As0 (fun _ _ => False) W hR
  · obtain ⟨_, x, hx, hc⟩ := q_lnkC.ok [.c (.i a), .c (.w v), .c (.i c)] [] (fun x => x = .e (.c (.bool true))) ⟨hk, by rw [lnkC_true a v c]; rfl⟩
    subst hx
    exact hc As0 (fun _ _ => False) W hR
end Go.Proofs.Ytchoogeojpllfaa
