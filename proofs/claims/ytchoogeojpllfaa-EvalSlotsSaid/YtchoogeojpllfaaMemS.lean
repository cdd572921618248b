/- A part of the walk or of the law. -/
import Derived.Test.YtchoogeojpllfaaMemR
set_option linter.unusedVariables false
set_option linter.unusedSimpArgs false
namespace Go.Proofs.Ytchoogeojpllfaa
open Go.Sx
theorem zstate : Z1 Try.prog 26 [.ws (fun _ => 0) 32, .c (.w 0), .c (.w 0), .c (.w 0), .c (.w 0), .c (.bool false)] := z1_of (by kernel_rfl) (by kernel_rfl) rfl
theorem zfault : Z1 Try.prog 36 [.c (.i 0), .c (.w 0), .c (.bool false), .c (.w 0)] := z1_of (by kernel_rfl) (by kernel_rfl) rfl
noncomputable def T0 : Sp := spOf (P := Try.prog) [⟨_, _, zstate⟩] [] [] [] none none
theorem T0_ok : SpOk Try.prog T0 := spOf_ok _ _ _ _ _ _
/-- step.On -/
def sOn_0 (r : Nat → BitVec 32) (hi lo pc nx : BitVec 32) (sl : Bool) : Nat → BitVec 32 := (sh (sh (upd r 0 0#32) 0) 0)
def sOn_1 (r : Nat → BitVec 32) (hi lo pc nx : BitVec 32) (sl : Bool) : BitVec 32 := hi
def sOn_2 (r : Nat → BitVec 32) (hi lo pc nx : BitVec 32) (sl : Bool) : BitVec 32 := lo
def sOn_3 (r : Nat → BitVec 32) (hi lo pc nx : BitVec 32) (sl : Bool) : BitVec 32 := nx
def sOn_4 (r : Nat → BitVec 32) (hi lo pc nx : BitVec 32) (sl : Bool) : BitVec 32 := (nx + 4#32)
def sOn_5 (r : Nat → BitVec 32) (hi lo pc nx : BitVec 32) (sl : Bool) : Bool := false
def a_sOn : List E → HP → R V
  | [.agg [.ws r 32, .c (.w hi), .c (.w lo), .c (.w pc), .c (.w nx), .c (.bool sl)]], _ => .ok (.e (.agg [(.ws (sOn_0 r hi lo pc nx sl) 32), (.c (.w (sOn_1 r hi lo pc nx sl))), (.c (.w (sOn_2 r hi lo pc nx sl))), (.c (.w (sOn_3 r hi lo pc nx sl))), (.c (.w (sOn_4 r hi lo pc nx sl))), (.c (.bool (sOn_5 r hi lo pc nx sl)))]))
  | _, _ => .fail
noncomputable def q_sOn : QE Try.prog := ⟨37, a_sOn, fun args hp Q h => by
  unfold a_sOn at h
  split at h
  · rename_i r hi lo pc nx sl
    exact qe_of T0_ok hmo Try.func37 (by kernel_rfl) (by kernel_rfl) rfl (Nat.le_of_ble_eq_true (by kernel_rfl)) rfl [] (ran_of (T' := ((.need ((0 : Int) ≤ (0 : Int) ∧ (0 : Int) < (32 : Int)) (.need ((0 : Nat) < (32 : Nat)) (.leaf (.e (.agg [(.ws (sh (sh (upd r 0 0#32) 0) 0) 32), (.c (.w hi)), (.c (.w lo)), (.c (.w nx)), (.c (.w (nx + 4#32))), (.c (.bool false))]))))))) (by kernel_rfl) (coll_sat ⟨(by decide), ⟨(by decide), trivial⟩⟩ (by kernel_rfl))) h
  · exact h.elim⟩

end Go.Proofs.Ytchoogeojpllfaa
