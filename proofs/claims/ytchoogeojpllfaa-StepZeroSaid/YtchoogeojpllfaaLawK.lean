/- A part of the walk or of the law. -/
import Derived.Test.YtchoogeojpllfaaMemV
set_option linter.unusedVariables false
set_option linter.unusedSimpArgs false
namespace Go.Proofs.Ytchoogeojpllfaa
open Go.Sx
set_option maxHeartbeats 4000000
section
variable (ps : List PgA) (r : Nat → BitVec 32) (hi lo pc nx : BitVec 32) (sl : Bool) (op s t d a : Int) (imm x y : BitVec 32)
theorem does_pc : sDoes_3 ps r hi lo pc nx sl op s t d a imm x y = pc := by simp [sDoes_3]
theorem does_nx : sDoes_4 ps r hi lo pc nx sl op s t d a imm x y = nx := by simp [sDoes_4]
theorem does_sl : sDoes_5 ps r hi lo pc nx sl op s t d a imm x y = sl := by simp [sDoes_5]
end
/-- A step where nothing is wrong. -/
structure Goes (ps : List PgA) (r : Nat → BitVec 32) (hi lo pc nx : BitVec 32) (sl : Bool) (op s t d a : Int) (imm : BitVec 32) : Prop where
  sout : sStep_6 ps r hi lo pc nx sl = 0
  spc : sStep_3 ps r hi lo pc nx sl = nx
  ssl : sStep_5 ps r hi lo pc nx sl = (insKind_0 op == 2)
  snx : sStep_4 ps r hi lo pc nx sl = (bif insKind_0 op == 2 && aTakes_0 op s t d a imm (upd r 0 0#32 s.toNat) (upd r 0 0#32 t.toNat) then sTarget_0 op s t d a imm nx (upd r 0 0#32 s.toNat) else nx + 4#32)
  sps : sStep_11 ps r hi lo pc nx sl = sDoes_6 ps r hi lo pc nx sl op s t d a imm (upd r 0 0#32 s.toNat) (upd r 0 0#32 t.toNat)
  sr : ∀ j, sStep_0 ps r hi lo pc nx sl j = if j = 0 then 0#32 else sDoes_0 ps r hi lo pc nx sl op s t d a imm (upd r 0 0#32 s.toNat) (upd r 0 0#32 t.toNat) j
  shi : sStep_1 ps r hi lo pc nx sl = sDoes_1 ps r hi lo pc nx sl op s t d a imm (upd r 0 0#32 s.toNat) (upd r 0 0#32 t.toNat)
  slo : sStep_2 ps r hi lo pc nx sl = sDoes_2 ps r hi lo pc nx sl op s t d a imm (upd r 0 0#32 s.toNat) (upd r 0 0#32 t.toNat)
theorem step_ok {ps : List PgA} {r : Nat → BitVec 32} {hi lo pc nx w imm : BitVec 32} {sl : Bool} {op s t d a : Int} (h1 : fetch_1 ps pc = 0) (h0 : fetch_0 ps pc = w) (e0 : iDec_0 w = op) (e1 : iDec_1 w = s) (e2 : iDec_2 w = t) (e3 : iDec_3 w = d) (e4 : iDec_4 w = a) (e5 : iDec_5 w = imm)
    (hop : (op == 35) = false) (hw : sWrong_0 ps r hi lo pc nx sl op s t d a imm (upd r 0 0#32 s.toNat) (upd r 0 0#32 t.toNat) = 0) : Goes ps r hi lo pc nx sl op s t d a imm := by
  subst h0
  have hs : ∀ r : Nat → BitVec 32, sh r 0 = r := fun _ => rfl
  refine ⟨?_, ?_, ?_, ?_, ?_, ?_, ?_, ?_⟩
  · simp [sStep_6, h1, hs, hw, e0, e1, e2, e3, e4, e5, hop]
  · simp [sStep_3, h1, hs, hw, e0, e1, e2, e3, e4, e5, hop, sOn_3, does_nx]
  · cases hk : insKind_0 op == 2 <;> simp [sStep_5, h1, hs, hw, e0, e1, e2, e3, e4, e5, hop, hk, sOn_5]
  · cases hk : insKind_0 op == 2 <;> simp [sStep_4, h1, hs, hw, e0, e1, e2, e3, e4, e5, hop, hk, sOn_4, does_nx]
  · simp [sStep_11, h1, hs, hw, e0, e1, e2, e3, e4, e5, hop]
  · intro j
    simp [sStep_0, h1, hs, hw, e0, e1, e2, e3, e4, e5, hop, sOn_0]
    simp only [upd]
  · simp [sStep_1, h1, hs, hw, e0, e1, e2, e3, e4, e5, hop, sOn_1]
  · simp [sStep_2, h1, hs, hw, e0, e1, e2, e3, e4, e5, hop, sOn_2]
/-- A step that does nothing, for something is wrong. -/
structure Halts (ps : List PgA) (r : Nat → BitVec 32) (hi lo pc nx : BitVec 32) (sl : Bool) (k : Int) (bad : BitVec 32) : Prop where
  sout : sStep_6 ps r hi lo pc nx sl = 2
  skind : sStep_7 ps r hi lo pc nx sl = k
  sfpc : sStep_8 ps r hi lo pc nx sl = pc
  sfsl : sStep_9 ps r hi lo pc nx sl = sl
  sbad : sStep_10 ps r hi lo pc nx sl = bad
  sr : ∀ j, sStep_0 ps r hi lo pc nx sl j = r j
  shi : sStep_1 ps r hi lo pc nx sl = hi
  slo : sStep_2 ps r hi lo pc nx sl = lo
  spc : sStep_3 ps r hi lo pc nx sl = pc
  snx : sStep_4 ps r hi lo pc nx sl = nx
  ssl : sStep_5 ps r hi lo pc nx sl = sl
  sps : sStep_11 ps r hi lo pc nx sl = ps
theorem step_bad {ps : List PgA} {r : Nat → BitVec 32} {hi lo pc nx w imm : BitVec 32} {sl : Bool} {op s t d a k : Int} {bad : BitVec 32} (h1 : fetch_1 ps pc = 0) (h0 : fetch_0 ps pc = w) (e0 : iDec_0 w = op) (e1 : iDec_1 w = s) (e2 : iDec_2 w = t) (e3 : iDec_3 w = d) (e4 : iDec_4 w = a) (e5 : iDec_5 w = imm)
    (hk : (k != 0) = true) (hw : sWrong_0 ps r hi lo pc nx sl op s t d a imm (upd r 0 0#32 s.toNat) (upd r 0 0#32 t.toNat) = k) (hb : sWrong_1 ps r hi lo pc nx sl op s t d a imm (upd r 0 0#32 s.toNat) (upd r 0 0#32 t.toNat) = bad) : Halts ps r hi lo pc nx sl k bad := by
  subst h0
  have hs : ∀ r : Nat → BitVec 32, sh r 0 = r := fun _ => rfl
  have hk2 : (k == 0) = false := by simpa using hk
  refine ⟨?_, ?_, ?_, ?_, ?_, ?_, ?_, ?_, ?_, ?_, ?_, ?_⟩
  · simp [sStep_6, h1, hs, hw, e0, e1, e2, e3, e4, e5, hk, hk2]
  · simp [sStep_7, h1, hs, hw, e0, e1, e2, e3, e4, e5, hk, hk2]
  · simp [sStep_8, h1, hs, hw, e0, e1, e2, e3, e4, e5, hk, hk2]
  · simp [sStep_9, h1, hs, hw, e0, e1, e2, e3, e4, e5, hk, hk2]
  · simp [sStep_10, h1, hs, hw, hb, e0, e1, e2, e3, e4, e5, hk, hk2]
  · intro j
    simp [sStep_0, h1, hs, hw, e0, e1, e2, e3, e4, e5, hk, hk2]
  · simp [sStep_1, h1, hs, hw, e0, e1, e2, e3, e4, e5, hk, hk2]
  · simp [sStep_2, h1, hs, hw, e0, e1, e2, e3, e4, e5, hk, hk2]
  · simp [sStep_3, h1, hs, hw, e0, e1, e2, e3, e4, e5, hk, hk2]
  · simp [sStep_4, h1, hs, hw, e0, e1, e2, e3, e4, e5, hk, hk2]
  · simp [sStep_5, h1, hs, hw, e0, e1, e2, e3, e4, e5, hk, hk2]
  · simp [sStep_11, h1, hs, hw, e0, e1, e2, e3, e4, e5, hk, hk2]
end Go.Proofs.Ytchoogeojpllfaa
