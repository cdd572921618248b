/- A part of the walk or of the law. -/
import Derived.Test.YtchoogeojpllfaaMemZ
set_option linter.unusedVariables false
set_option linter.unusedSimpArgs false
namespace Go.Proofs.Ytchoogeojpllfaa
open Go.Sx
set_option maxHeartbeats 4000000
noncomputable def L3 : Sp := spOf (P := Try.prog) [⟨_, _, zstate⟩, ⟨_, _, zfault⟩, ⟨_, _, zpart⟩, ⟨_, _, zu32⟩] [] [q_lWord] [m_code, m_memory, m_sStep] none none
theorem L3_ok : SpOk Try.prog L3 := spOf_ok _ _ _ _ _ _
/-- calquelaw11.awake -/
def awk_0  : Bool := true
def a_awk : List E → HP → R V
  | [], _ => .ok (.e (.c (.bool (awk_0 ))))
  | _, _ => .fail
noncomputable def q_awk : QE Try.prog := ⟨15, a_awk, fun args hp Q h => by
  unfold a_awk at h
  split at h
  · skip
    exact qe_of L3_ok hmo Try.func15 (by kernel_rfl) (by kernel_rfl) rfl (Nat.le_of_ble_eq_true (by kernel_rfl)) rfl [] (ran_of (T' := (let x2 := (sh (putB (BitVec.ofNat (32 : Nat) (6291464 : Nat))) (0 : Nat)); let x3 := (me4_ps (BitVec.ofNat (32 : Nat) (8 : Nat)) (7 : Int) x2); (.need ((0 : Int) ≤ (3 : Int) ∧ (3 : Int) < (32 : Int)) (.need ((3 : Nat) < (32 : Nat)) (.need ((33 : Nat) = (33 : Nat) ∧ (5 : Nat) = (5 : Nat) ∧ btOb (5 : Nat) (1 : Nat) [Sg.bs x2 (4 : Nat)] = btOb (5 : Nat) (1 : Nat) [Sg.bs x2 (4 : Nat)]) (.need (IsMem MT PG (memOb MT PG (64 : Int) x3 []) (64 : Int) x3 []) (.leaf (.e (.c (.bool true)))))))))) (by kernel_rfl) (coll_sat ⟨(by decide), ⟨(by decide), ⟨(⟨rfl, rfl, rfl⟩), ⟨is_mem, trivial⟩⟩⟩⟩ (by kernel_rfl))) h
  · exact h.elim⟩

end Go.Proofs.Ytchoogeojpllfaa
