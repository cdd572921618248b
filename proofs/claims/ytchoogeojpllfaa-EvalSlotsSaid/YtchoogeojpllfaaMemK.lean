/- A part of the walk or of the law. -/
import Derived.Test.YtchoogeojpllfaaMemI
set_option linter.unusedVariables false
set_option linter.unusedSimpArgs false
namespace Go.Proofs.Ytchoogeojpllfaa
open Go.Sx
noncomputable def B5 : Sp := spOf (P := Try.prog) [] [] [q_bAdd, q_bSub, q_aFlag, q_aLess, q_bMul, q_bDiv] [] none none
theorem B5_ok : SpOk Try.prog B5 := spOf_ok _ _ _ _ _ _
/-- alu.Traps -/
def aTraps_0 (op s t d a : Int) (imm x y : BitVec 32) : Bool := (bif (op == 41) then (bAdd_1 x imm) else (bif (op == 9) then (bAdd_1 x y) else (bif (op == 10) then (bSub_1 x y) else (bif (op == 29) then (!aLess_0 x y) else (bif (op == 30) then (decide (y ≤ x)) else (bif (op == 31) then (aLess_0 x y) else (bif (op == 32) then (decide (x < y)) else (bif (op == 33) then (x == y) else (bif (op == 34) then (x != y) else false)))))))))
def a_aTraps : List E → HP → R V
  | [.agg [.c (.i op), .c (.i s), .c (.i t), .c (.i d), .c (.i a), .c (.w imm)], .c (.w x), .c (.w y)], _ => .ok (.e (.c (.bool (aTraps_0 op s t d a imm x y))))
  | _, _ => .fail
noncomputable def q_aTraps : QE Try.prog := ⟨83, a_aTraps, fun args hp Q h => by
  unfold a_aTraps at h
  split at h
  · rename_i op s t d a imm x y
    exact qe_of B5_ok hmo Try.func83 (by kernel_rfl) (by kernel_rfl) rfl (Nat.le_of_ble_eq_true (by kernel_rfl)) rfl [0, 0, 0, 0, 0, 0, 0, 0, 0] (ran_of (T' := ((.br (op == 41) (.leaf (.e (.c (.bool (bAdd_1 x imm))))) (.br (op == 9) (.leaf (.e (.c (.bool (bAdd_1 x y))))) (.br (op == 10) (.leaf (.e (.c (.bool (bSub_1 x y))))) (.br (op == 29) (.leaf (.e (.c (.bool (!aLess_0 x y))))) (.br (op == 30) (.leaf (.e (.c (.bool (decide (y ≤ x)))))) (.br (op == 31) (.leaf (.e (.c (.bool (aLess_0 x y))))) (.br (op == 32) (.leaf (.e (.c (.bool (decide (x < y)))))) (.br (op == 33) (.leaf (.e (.c (.bool (x == y))))) (.br (op == 34) (.leaf (.e (.c (.bool (x != y))))) (.leaf (.e (.c (.bool false))))))))))))))) (by kernel_rfl) (coll_sat (needs_no rfl) (by kernel_rfl))) h
  · exact h.elim⟩

/-- alu.Takes -/
def aTakes_0 (op s t d a : Int) (imm x y : BitVec 32) : Bool := (bif (op == 60) then (x == y) else (bif (op == 61) then (x != y) else (bif (op == 62) then (!aLess_0 (0#32) x) else (bif (op == 63) then (aLess_0 (0#32) x) else (bif (op == 64) then (aLess_0 x 0#32) else (bif (op == 66) then (aLess_0 x 0#32) else (bif (op == 65) then (!aLess_0 x 0#32) else (bif (op == 67) then (!aLess_0 x 0#32) else (bif bif bif op == 27 then true else op == 28 then true else op == 68 then true else op == 69)))))))))
def a_aTakes : List E → HP → R V
  | [.agg [.c (.i op), .c (.i s), .c (.i t), .c (.i d), .c (.i a), .c (.w imm)], .c (.w x), .c (.w y)], _ => .ok (.e (.c (.bool (aTakes_0 op s t d a imm x y))))
  | _, _ => .fail
noncomputable def q_aTakes : QE Try.prog := ⟨40, a_aTakes, fun args hp Q h => by
  unfold a_aTakes at h
  split at h
  · rename_i op s t d a imm x y
    exact qe_of B5_ok hmo Try.func40 (by kernel_rfl) (by kernel_rfl) rfl (Nat.le_of_ble_eq_true (by kernel_rfl)) rfl [0, 0, 0, 0, 0, 1, 0, 0, 1, 0] (ran_of (T' := ((.br (op == 60) (.leaf (.e (.c (.bool (x == y))))) (.br (op == 61) (.leaf (.e (.c (.bool (x != y))))) (.br (op == 62) (.leaf (.e (.c (.bool (!aLess_0 (0#32) x))))) (.br (op == 63) (.leaf (.e (.c (.bool (aLess_0 (0#32) x))))) (.br (op == 64) (.need ((op == 64) = true) (.leaf (.e (.c (.bool (aLess_0 x 0#32)))))) (.br (op == 66) (.leaf (.e (.c (.bool (aLess_0 x 0#32))))) (.br (op == 65) (.need ((op == 65) = true) (.leaf (.e (.c (.bool (!aLess_0 x 0#32)))))) (.br (op == 67) (.leaf (.e (.c (.bool (!aLess_0 x 0#32))))) (.leaf (.e (.c (.bool (bif bif bif op == 27 then true else op == 28 then true else op == 68 then true else op == 69))))))))))))))) (by kernel_rfl) (coll_sat ⟨fun h => (have h := eq_of_beq h; trivial), fun h => ⟨fun h => (have h := eq_of_beq h; trivial), fun h => ⟨fun h => (have h := eq_of_beq h; trivial), fun h => ⟨fun h => (have h := eq_of_beq h; trivial), fun h => ⟨fun h => (have h := eq_of_beq h; ⟨(by assumption), trivial⟩), fun h => ⟨fun h => (have h := eq_of_beq h; trivial), fun h => ⟨fun h => (have h := eq_of_beq h; ⟨(by assumption), trivial⟩), fun h => (needs_no rfl)⟩⟩⟩⟩⟩⟩⟩ (by kernel_rfl))) h
  · exact h.elim⟩

/-- alu.Long -/
def aLong_0 (op s t d a : Int) (imm x y hi lo : BitVec 32) : BitVec 32 := (bif (op == 19) then (bMul_0 x y (op == 19)) else (bif (op == 20) then (bMul_0 x y (op == 19)) else (bif (op == 21) then (bDiv_1 x y (op == 21)) else (bif (op == 22) then (bDiv_1 x y (op == 21)) else (bif (op == 25) then x else (bif (op == 26) then hi else hi))))))
def aLong_1 (op s t d a : Int) (imm x y hi lo : BitVec 32) : BitVec 32 := (bif (op == 19) then (bMul_1 x y (op == 19)) else (bif (op == 20) then (bMul_1 x y (op == 19)) else (bif (op == 21) then (bDiv_0 x y (op == 21)) else (bif (op == 22) then (bDiv_0 x y (op == 21)) else (bif (op == 25) then lo else (bif (op == 26) then x else lo))))))
def a_aLong : List E → HP → R V
  | [.agg [.c (.i op), .c (.i s), .c (.i t), .c (.i d), .c (.i a), .c (.w imm)], .c (.w x), .c (.w y), .c (.w hi), .c (.w lo)], _ => .ok (.tup [(.c (.w (aLong_0 op s t d a imm x y hi lo))), (.c (.w (aLong_1 op s t d a imm x y hi lo)))])
  | _, _ => .fail
noncomputable def q_aLong : QE Try.prog := ⟨87, a_aLong, fun args hp Q h => by
  unfold a_aLong at h
  split at h
  · rename_i op s t d a imm x y hi lo
    exact qe_of B5_ok hmo Try.func87 (by kernel_rfl) (by kernel_rfl) rfl (Nat.le_of_ble_eq_true (by kernel_rfl)) rfl [0, 1, 0, 0, 1, 0, 0, 0] (ran_of (T' := ((.br (op == 19) (.need ((op == 19) = true) (.leaf (.tup [(.c (.w (bMul_0 x y (op == 19)))), (.c (.w (bMul_1 x y (op == 19))))]))) (.br (op == 20) (.leaf (.tup [(.c (.w (bMul_0 x y (op == 19)))), (.c (.w (bMul_1 x y (op == 19))))])) (.br (op == 21) (.need ((op == 21) = true) (.leaf (.tup [(.c (.w (bDiv_1 x y (op == 21)))), (.c (.w (bDiv_0 x y (op == 21))))]))) (.br (op == 22) (.leaf (.tup [(.c (.w (bDiv_1 x y (op == 21)))), (.c (.w (bDiv_0 x y (op == 21))))])) (.br (op == 25) (.leaf (.tup [(.c (.w x)), (.c (.w lo))])) (.br (op == 26) (.leaf (.tup [(.c (.w hi)), (.c (.w x))])) (.leaf (.tup [(.c (.w hi)), (.c (.w lo))])))))))))) (by kernel_rfl) (coll_sat ⟨fun h => (have h := eq_of_beq h; ⟨(by assumption), trivial⟩), fun h => ⟨fun h => (have h := eq_of_beq h; trivial), fun h => ⟨fun h => (have h := eq_of_beq h; ⟨(by assumption), trivial⟩), fun h => (needs_no rfl)⟩⟩⟩ (by kernel_rfl))) h
  · exact h.elim⟩

/-- step.Target -/
def sTarget_0 (op s t d a : Int) (imm next v : BitVec 32) : BitVec 32 := (bif (op == 28) then v else (bif (op == 27) then v else (bif (op == 69) then (next &&& 4026531840#32 ||| imm) else (bif (op == 68) then (next &&& 4026531840#32 ||| imm) else (next + imm)))))
def a_sTarget : List E → HP → R V
  | [.agg [.c (.i op), .c (.i s), .c (.i t), .c (.i d), .c (.i a), .c (.w imm)], .c (.w next), .c (.w v)], _ => .ok (.e (.c (.w (sTarget_0 op s t d a imm next v))))
  | _, _ => .fail
noncomputable def q_sTarget : QE Try.prog := ⟨41, a_sTarget, fun args hp Q h => by
  unfold a_sTarget at h
  split at h
  · rename_i op s t d a imm next v
    exact qe_of B5_ok hmo Try.func41 (by kernel_rfl) (by kernel_rfl) rfl (Nat.le_of_ble_eq_true (by kernel_rfl)) rfl [0, 0, 0, 0] (ran_of (T' := ((.br (op == 28) (.leaf (.e (.c (.w v)))) (.br (op == 27) (.leaf (.e (.c (.w v)))) (.br (op == 69) (.leaf (.e (.c (.w (next &&& 4026531840#32 ||| imm))))) (.br (op == 68) (.leaf (.e (.c (.w (next &&& 4026531840#32 ||| imm))))) (.leaf (.e (.c (.w (next + imm))))))))))) (by kernel_rfl) (coll_sat (needs_no rfl) (by kernel_rfl))) h
  · exact h.elim⟩

end Go.Proofs.Ytchoogeojpllfaa
