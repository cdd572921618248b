/- A part of the walk or of the law. -/
import Derived.Test.YtchoogeojpllfaaMemWf
set_option linter.unusedVariables false
set_option linter.unusedSimpArgs false
namespace Go.Proofs.Ytchoogeojpllfaa
open Go.Sx
set_option maxHeartbeats 4000000
set_option maxRecDepth 20000
theorem slT0_true (how : Int) (to : BitVec 32) : slT0_0 how to = true := by
  have e : slT0_0 how to = (bif (sTarget_0 68 0 0 0 0 (jT ((lWord_0 68 0 0 0 0 (to &&& 1048572#32)).toNat : Int)) 65540#32 0#32 == to &&& 1048572#32) then awk19_0 else false) := by kernel_rfl
  rw [e, slotS]
  simp [awk19_0]
theorem slF0_true (how : Int) (to : BitVec 32) : slF0_0 how to = true := by
  have e : slF0_0 how to = (bif (sTarget_0 68 0 0 0 0 (jT ((lWord_0 68 0 0 0 0 (to &&& 1048572#32)).toNat : Int)) 65540#32 0#32 == to &&& 1048572#32) then awk19_0 else false) := by kernel_rfl
  rw [e, slotS]
  simp [awk19_0]
theorem slT1_true (how : Int) (to : BitVec 32) : slT1_0 how to = true := by
  have e : slT1_0 how to = (bif (to &&& 1048572#32 == to &&& 1048572#32) then awk19_0 else false) := by kernel_rfl
  rw [e]
  simp [awk19_0]
theorem slF1_true (how : Int) (to : BitVec 32) : slF1_0 how to = true := by
  have e : slF1_0 how to = (bif (to &&& 1048572#32 == to &&& 1048572#32) then awk19_0 else false) := by kernel_rfl
  rw [e]
  simp [awk19_0]
theorem slT2_true (how : Int) (to : BitVec 32) : slT2_0 how to = true := by kernel_rfl
theorem slF2_true (how : Int) (to : BitVec 32) : slF2_0 how to = true := by kernel_rfl
theorem u32_of4 {b : Int} (wb : (Lit.int .u32 b).wf = true) : ∃ v : BitVec 32, (v.toNat : Int) = b := by
  have h : 0 ≤ b ∧ b ≤ 4294967295 := by
    have h1 : (decide (IntKind.u32.min ≤ b) && decide (b ≤ IntKind.u32.max)) = true := wb
    rw [Bool.and_eq_true, decide_eq_true_eq, decide_eq_true_eq] at h1
    exact h1
  refine ⟨BitVec.ofInt 32 b, ?_⟩
  rw [BitVec.toNat_ofInt]
  omega
theorem plc_in (v : Int) : 0 ≤ lPlace_0 v 3 ∧ lPlace_0 v 3 < 3 := by
  have h3 := Int.tmod_lt_of_pos v (show (0 : Int) < 3 by decide)
  have h4 := Int.lt_tmod_of_pos v (show (0 : Int) < 3 by decide)
  unfold lPlace_0
  by_cases hc : v.tmod 3 < 0
  · simp only [hc, decide_true, cond_true]
    rw [W64_of (by omega) (by omega)]
    omega
  · simp only [hc, decide_false, cond_false]
    omega
theorem slots_any (a b : Int) (c : Bool) (W : World) (wb : (Lit.int .u32 b).wf = true) : Calls Try.prog 9 #[.int .i64 a, .int .u32 b, .bool c] W fun e W' => e = .returned (.bool true) ∧ RowKit.Below W.heap.size W W' := by
  obtain ⟨v, rfl⟩ := u32_of4 wb
  have hR : Rep As0 (fun _ _ => False) [] W := ⟨fun k b hk => (by cases hk), fun k b hk => (by cases hk), fun k k' b b' hk => (by cases hk)⟩
  have key : lPlace_0 a 3 = 0 ∨ lPlace_0 a 3 = 1 ∨ lPlace_0 a 3 = 2 := by have := plc_in a; omega
  cases c
  · rcases key with hk | hk | hk
    · obtain ⟨_, x, hx, hc⟩ := q_slF0.ok [.c (.i a), .c (.w v), .c (.bool false)] [] (fun x => x = .e (.c (.bool true))) ⟨hk, by show V.e (.c (.bool (slF0_0 a v))) = _; rw [slF0_true]⟩
      subst hx
      exact hc As0 (fun _ _ => False) W hR
    · obtain ⟨_, x, hx, hc⟩ := q_slF1.ok [.c (.i a), .c (.w v), .c (.bool false)] [] (fun x => x = .e (.c (.bool true))) ⟨hk, by show V.e (.c (.bool (slF1_0 a v))) = _; rw [slF1_true]⟩
      subst hx
      exact hc As0 (fun _ _ => False) W hR
    · obtain ⟨_, x, hx, hc⟩ := q_slF2.ok [.c (.i a), .c (.w v), .c (.bool false)] [] (fun x => x = .e (.c (.bool true))) ⟨hk, by show V.e (.c (.bool (slF2_0 a v))) = _; rw [slF2_true]⟩
      subst hx
      exact hc As0 (fun _ _ => False) W hR
  · rcases key with hk | hk | hk
    · obtain ⟨_, x, hx, hc⟩ := q_slT0.ok [.c (.i a), .c (.w v), .c (.bool true)] [] (fun x => x = .e (.c (.bool true))) ⟨hk, by show V.e (.c (.bool (slT0_0 a v))) = _; rw [slT0_true]⟩
      subst hx
      exact hc As0 (fun _ _ => False) W hR
    · obtain ⟨_, x, hx, hc⟩ := q_slT1.ok [.c (.i a), .c (.w v), .c (.bool true)] [] (fun x => x = .e (.c (.bool true))) ⟨hk, by show V.e (.c (.bool (slT1_0 a v))) = _; rw [slT1_true]⟩
      subst hx
      exact hc As0 (fun _ _ => False) W hR
    · obtain ⟨_, x, hx, hc⟩ := q_slT2.ok [.c (.i a), .c (.w v), .c (.bool true)] [] (fun x => x = .e (.c (.bool true))) ⟨hk, by show V.e (.c (.bool (slT2_0 a v))) = _; rw [slT2_true]⟩
      subst hx
      exact hc As0 (fun _ _ => False) W hR
end Go.Proofs.Ytchoogeojpllfaa
