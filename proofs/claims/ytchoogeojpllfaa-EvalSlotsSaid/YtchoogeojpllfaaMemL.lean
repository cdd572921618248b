/- A part of the walk or of the law. -/
import Derived.Test.YtchoogeojpllfaaMemK
set_option linter.unusedVariables false
set_option linter.unusedSimpArgs false
namespace Go.Proofs.Ytchoogeojpllfaa
open Go.Sx
/-- bits.Field -/
def bField_0 (w : BitVec 32) (at_ n : Int) : BitVec 32 := (BitVec.setWidth 32 (BitVec.setWidth 64 w >>> (max 0 (min at_ 31)).toNat &&& 1#64 <<< (max 0 (min n (W64 (32 - max 0 (min at_ 31))))).toNat - 1#64))
def a_bField : List E → HP → R V
  | [.c (.w w), .c (.i at_), .c (.i n)], _ => .ok (.e (.c (.w (bField_0 w at_ n))))
  | _, _ => .fail
noncomputable def q_bField : QE Try.prog := ⟨80, a_bField, fun args hp Q h => by
  unfold a_bField at h
  split at h
  · rename_i w at_ n
    exact qe_of B0_ok hmo Try.func80 (by kernel_rfl) (by kernel_rfl) rfl (Nat.le_of_ble_eq_true (by kernel_rfl)) rfl [] (ran_of (T' := ((.need ((0 : Int) ≤ max (0 : Int) (min at_ (31 : Int))) (.need ((0 : Int) ≤ max (0 : Int) (min n (W64 ((32 : Int) - max (0 : Int) (min at_ (31 : Int)))))) (.leaf (.e (.c (.w (BitVec.setWidth 32 (BitVec.setWidth 64 w >>> (max 0 (min at_ 31)).toNat &&& 1#64 <<< (max 0 (min n (W64 (32 - max 0 (min at_ 31))))).toNat - 1#64)))))))))) (by kernel_rfl) (coll_sat ⟨(Int.le_max_left _ _), ⟨(Int.le_max_left _ _), trivial⟩⟩ (by kernel_rfl))) h
  · exact h.elim⟩

/-- bits.Sext -/
def bSext_0 (w : BitVec 32) (n : Int) : BitVec 32 := ((w <<< (W64 (32 - max 1 (min n 32))).toNat).sshiftRight (W64 (32 - max 1 (min n 32))).toNat)
def a_bSext : List E → HP → R V
  | [.c (.w w), .c (.i n)], _ => .ok (.e (.c (.w (bSext_0 w n))))
  | _, _ => .fail
noncomputable def q_bSext : QE Try.prog := ⟨81, a_bSext, fun args hp Q h => by
  unfold a_bSext at h
  split at h
  · rename_i w n
    exact qe_of B0_ok hmo Try.func81 (by kernel_rfl) (by kernel_rfl) rfl (Nat.le_of_ble_eq_true (by kernel_rfl)) rfl [] (ran_of (T' := ((.need ((0 : Int) ≤ W64 ((32 : Int) - max (1 : Int) (min n (32 : Int)))) (.need ((0 : Int) ≤ W64 ((32 : Int) - max (1 : Int) (min n (32 : Int)))) (.leaf (.e (.c (.w ((w <<< (W64 (32 - max 1 (min n 32))).toNat).sshiftRight (W64 (32 - max 1 (min n 32))).toNat))))))))) (by kernel_rfl) (coll_sat ⟨(sext_need _), ⟨(sext_need _), trivial⟩⟩ (by kernel_rfl))) h
  · exact h.elim⟩

/-- calqueref01.Field -/
def rField_0 (w : BitVec 32) (at_ n : Int) : BitVec 32 := (BitVec.setWidth 32 (BitVec.setWidth 64 w >>> (BitVec.ofInt 64 (min (max at_ 0) 31)).toNat &&& 1#64 <<< (BitVec.ofInt 64 (min (max n 0) (W64 (32 - min (max at_ 0) 31)))).toNat - 1#64))
def a_rField : List E → HP → R V
  | [.c (.w w), .c (.i at_), .c (.i n)], _ => .ok (.e (.c (.w (rField_0 w at_ n))))
  | _, _ => .fail
noncomputable def q_rField : QE Try.prog := ⟨138, a_rField, fun args hp Q h => by
  unfold a_rField at h
  split at h
  · rename_i w at_ n
    exact qe_of B0_ok hmo Try.func138 (by kernel_rfl) (by kernel_rfl) rfl (Nat.le_of_ble_eq_true (by kernel_rfl)) rfl [] (ran_of (T' := ((.leaf (.e (.c (.w (BitVec.setWidth 32 (BitVec.setWidth 64 w >>> (BitVec.ofInt 64 (min (max at_ 0) 31)).toNat &&& 1#64 <<< (BitVec.ofInt 64 (min (max n 0) (W64 (32 - min (max at_ 0) 31)))).toNat - 1#64)))))))) (by kernel_rfl) (coll_sat trivial (by kernel_rfl))) h
  · exact h.elim⟩

/-- calqueref01.Sext -/
def rSext_0 (w : BitVec 32) (n : Int) : BitVec 32 := ((w <<< (BitVec.ofInt 64 (W64 (32 - min (max n 1) 32))).toNat).sshiftRight (BitVec.ofInt 64 (W64 (32 - min (max n 1) 32))).toNat)
def a_rSext : List E → HP → R V
  | [.c (.w w), .c (.i n)], _ => .ok (.e (.c (.w (rSext_0 w n))))
  | _, _ => .fail
noncomputable def q_rSext : QE Try.prog := ⟨139, a_rSext, fun args hp Q h => by
  unfold a_rSext at h
  split at h
  · rename_i w n
    exact qe_of B0_ok hmo Try.func139 (by kernel_rfl) (by kernel_rfl) rfl (Nat.le_of_ble_eq_true (by kernel_rfl)) rfl [] (ran_of (T' := ((.leaf (.e (.c (.w ((w <<< (BitVec.ofInt 64 (W64 (32 - min (max n 1) 32))).toNat).sshiftRight (BitVec.ofInt 64 (W64 (32 - min (max n 1) 32))).toNat))))))) (by kernel_rfl) (coll_sat trivial (by kernel_rfl))) h
  · exact h.elim⟩

end Go.Proofs.Ytchoogeojpllfaa
