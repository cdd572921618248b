/- A part of the walk or of the law. -/
import Derived.Test.YtchoogeojpllfaaMemN
set_option linter.unusedVariables false
set_option linter.unusedSimpArgs false
namespace Go.Proofs.Ytchoogeojpllfaa
open Go.Sx
theorem zpair : Z1 Try.prog 204 [.c (.w 0), .c (.w 0)] := z1_of (by kernel_rfl) (by kernel_rfl) rfl
noncomputable def I0 : Sp := spOf (P := Try.prog) [⟨_, _, zpair⟩] [] [] [] none none
theorem I0_ok : SpOk Try.prog I0 := spOf_ok _ _ _ _ _ _
/-- (ins.row).slot -/
def iSlot_0 (op form : Int) (nm : Value) (code : BitVec 32) : BitVec 32 := (bif (decide (form < 8)) then 0#32 else (bif (decide (form ≤ 9)) then 28#32 else (bif (form == 16) then 1#32 else code)))
def iSlot_1 (op form : Int) (nm : Value) (code : BitVec 32) : BitVec 32 := (bif (decide (form < 8)) then code else (bif (decide (form ≤ 9)) then code else (bif (form == 16) then code else 0#32)))
def a_iSlot : List E → HP → R V
  | [.agg [.c (.i op), .c (.i form), .c (.raw nm), .c (.w code)]], _ => .ok (.e (.agg [(.c (.w (iSlot_0 op form nm code))), (.c (.w (iSlot_1 op form nm code)))]))
  | _, _ => .fail
noncomputable def q_iSlot : QE Try.prog := ⟨118, a_iSlot, fun args hp Q h => by
  unfold a_iSlot at h
  split at h
  · rename_i op form nm code
    exact qe_of I0_ok hmo Try.func118 (by kernel_rfl) (by kernel_rfl) rfl (Nat.le_of_ble_eq_true (by kernel_rfl)) rfl [0, 0, 0] (ran_of (T' := ((.br (decide (form < 8)) (.leaf (.e (.agg [(.c (.w 0#32)), (.c (.w code))]))) (.br (decide (form ≤ 9)) (.leaf (.e (.agg [(.c (.w 28#32)), (.c (.w code))]))) (.br (form == 16) (.leaf (.e (.agg [(.c (.w 1#32)), (.c (.w code))]))) (.leaf (.e (.agg [(.c (.w code)), (.c (.w 0#32))])))))))) (by kernel_rfl) (coll_sat (needs_no rfl) (by kernel_rfl))) h
  · exact h.elim⟩

end Go.Proofs.Ytchoogeojpllfaa
