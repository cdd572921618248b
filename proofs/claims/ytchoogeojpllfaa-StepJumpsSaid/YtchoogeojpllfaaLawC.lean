/- A part of the walk or of the law. -/
import Derived.Test.YtchoogeojpllfaaMemZb
import Derived.Test.YtchoogeojpllfaaLawB
set_option linter.unusedVariables false
set_option linter.unusedSimpArgs false
namespace Go.Proofs.Ytchoogeojpllfaa
open Go.Sx
set_option maxHeartbeats 4000000
theorem f1A (w : BitVec 32) : fetch_1 (me4_ps 1024#32 5 (sh (putB w) 0)) 1024#32 = 0 := by kernel_rfl
theorem f0A (w : BitVec 32) : fetch_0 (me4_ps 1024#32 5 (sh (putB w) 0)) 1024#32 = w := by
  have h : fetch_0 (me4_ps 1024#32 5 (sh (putB w) 0)) 1024#32 = (((0#32 ||| ((w >>> 24).setWidth 8).setWidth 32) <<< 8 ||| ((w >>> 16).setWidth 8).setWidth 32) <<< 8 ||| ((w >>> 8).setWidth 8).setWidth 32) <<< 8 ||| (w.setWidth 8).setWidth 32 := by kernel_rfl
  exact h.trans (glue w)
/-- A step that jumps. -/
theorem step_jumps {ps : List PgA} {r : Nat → BitVec 32} {hi lo pc nx w imm : BitVec 32} {op s t d a : Int} (h1 : fetch_1 ps pc = 0) (h0 : fetch_0 ps pc = w) (e0 : iDec_0 w = op) (e1 : iDec_1 w = s) (e2 : iDec_2 w = t) (e3 : iDec_3 w = d) (e4 : iDec_4 w = a) (e5 : iDec_5 w = imm)
    (hop : op = 28 ∨ op = 66 ∨ op = 67 ∨ op = 68 ∨ op = 69) :
    sStep_6 ps r hi lo pc nx false = 0 ∧ sStep_3 ps r hi lo pc nx false = nx ∧ sStep_5 ps r hi lo pc nx false = true ∧
    sStep_4 ps r hi lo pc nx false = (bif aTakes_0 op s t d a imm (upd r 0 0#32 s.toNat) (upd r 0 0#32 t.toNat) then sTarget_0 op s t d a imm nx (upd r 0 0#32 s.toNat) else nx + 4#32) ∧ sStep_11 ps r hi lo pc nx false = ps ∧
    ∀ j, j ≠ 0 → sStep_0 ps r hi lo pc nx false j = (if j = (aWrites_0 op s t d a imm).toNat then nx + 4#32 else r j) := by
  subst h0
  have hs : sh r 0 = r := rfl
  have hw : ∀ x y, sWrong_0 ps r hi lo pc nx false op s t d a imm x y = 0 := by
    intro x y
    rcases hop with rfl | rfl | rfl | rfl | rfl <;> simp [sWrong_0, aTraps_0, insKind_0]
  rcases hop with rfl | rfl | rfl | rfl | rfl
  all_goals
    refine ⟨?_, ?_, ?_, ?_, ?_, ?_⟩
    · simp [sStep_6, h1, hs, hw, e0, e1, e2, e3, e4, e5, insKind_0]
    · simp [sStep_3, h1, hs, hw, e0, e1, e2, e3, e4, e5, insKind_0, sOn_3, sDoes_4]
    · simp [sStep_5, h1, hs, hw, e0, e1, e2, e3, e4, e5, insKind_0]
    · simp [sStep_4, h1, hs, hw, e0, e1, e2, e3, e4, e5, insKind_0, sOn_4, sDoes_4]
    · simp [sStep_11, h1, hs, hw, e0, e1, e2, e3, e4, e5, insKind_0, sDoes_6, aReckon_1]
    · intro j hj
      simp [sStep_0, h1, hs, hw, e0, e1, e2, e3, e4, e5, insKind_0, sOn_0, sDoes_0, aReckon_1, aWrites_0, sh, upd, hj]
      try (intro hd hj2; rw [hd] at hj2; exact absurd hj2 hj)
end Go.Proofs.Ytchoogeojpllfaa
