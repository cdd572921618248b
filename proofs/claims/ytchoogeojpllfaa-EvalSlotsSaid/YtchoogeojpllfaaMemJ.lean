/- A part of the walk or of the law. -/
import Derived.Test.YtchoogeojpllfaaMemI
set_option linter.unusedVariables false
set_option linter.unusedSimpArgs false
namespace Go.Proofs.Ytchoogeojpllfaa
open Go.Sx
noncomputable def B1 : Sp := spOf (P := Try.prog) [] [] [q_mbLen] [] none none
theorem B1_ok : SpOk Try.prog B1 := spOf_ok _ _ _ _ _ _
/-- math/bits.LeadingZeros32 -/
def mbLz_0 (a : BitVec 32) : Int := (W64 (32 - mbLen_0 a))
def a_mbLz : List E → HP → R V
  | [.c (.w a)], _ => .ok (.e (.c (.i (mbLz_0 a))))
  | _, _ => .fail
noncomputable def q_mbLz : QE Try.prog := ⟨137, a_mbLz, fun args hp Q h => by
  unfold a_mbLz at h
  split at h
  · rename_i a
    exact qe_of B1_ok hmo Try.func137 (by kernel_rfl) (by kernel_rfl) rfl (Nat.le_of_ble_eq_true (by kernel_rfl)) rfl [] (ran_of (T' := ((.leaf (.e (.c (.i (W64 (32 - mbLen_0 a)))))))) (by kernel_rfl) (coll_sat trivial (by kernel_rfl))) h
  · exact h.elim⟩

noncomputable def B2 : Sp := spOf (P := Try.prog) [] [] [q_mbLz] [] none none
theorem B2_ok : SpOk Try.prog B2 := spOf_ok _ _ _ _ _ _
/-- bits.Zeros -/
def bZeros_0 (a : BitVec 32) : BitVec 32 := (BitVec.ofInt 32 (mbLz_0 a))
def a_bZeros : List E → HP → R V
  | [.c (.w a)], _ => .ok (.e (.c (.w (bZeros_0 a))))
  | _, _ => .fail
noncomputable def q_bZeros : QE Try.prog := ⟨111, a_bZeros, fun args hp Q h => by
  unfold a_bZeros at h
  split at h
  · rename_i a
    exact qe_of B2_ok hmo Try.func111 (by kernel_rfl) (by kernel_rfl) rfl (Nat.le_of_ble_eq_true (by kernel_rfl)) rfl [] (ran_of (T' := ((.leaf (.e (.c (.w (BitVec.ofInt 32 (mbLz_0 a)))))))) (by kernel_rfl) (coll_sat trivial (by kernel_rfl))) h
  · exact h.elim⟩

noncomputable def B3 : Sp := spOf (P := Try.prog) [] [] [q_bZeros] [] none none
theorem B3_ok : SpOk Try.prog B3 := spOf_ok _ _ _ _ _ _
/-- bits.Ones -/
def bOnes_0 (a : BitVec 32) : BitVec 32 := (bZeros_0 (~~~a))
def a_bOnes : List E → HP → R V
  | [.c (.w a)], _ => .ok (.e (.c (.w (bOnes_0 a))))
  | _, _ => .fail
noncomputable def q_bOnes : QE Try.prog := ⟨112, a_bOnes, fun args hp Q h => by
  unfold a_bOnes at h
  split at h
  · rename_i a
    exact qe_of B3_ok hmo Try.func112 (by kernel_rfl) (by kernel_rfl) rfl (Nat.le_of_ble_eq_true (by kernel_rfl)) rfl [] (ran_of (T' := ((.leaf (.e (.c (.w (bZeros_0 (~~~a)))))))) (by kernel_rfl) (coll_sat trivial (by kernel_rfl))) h
  · exact h.elim⟩

noncomputable def B4 : Sp := spOf (P := Try.prog) [] [] [q_bShl, q_bShr, q_bSar, q_bAdd, q_bSub, q_aFlag, q_aLess, q_bMul, q_bDiv, q_bZeros, q_bOnes] [] none none
theorem B4_ok : SpOk Try.prog B4 := spOf_ok _ _ _ _ _ _
/-- alu.Reckon -/
def aReckon_0 (op s t d a : Int) (imm x y : BitVec 32) : BitVec 32 := (bif (op == 40) then (x + imm) else (bif (op == 41) then (x + imm) else (bif (op == 42) then (aFlag_0 (aLess_0 x imm)) else (bif (op == 43) then (aFlag_0 (decide (x < imm))) else (bif (op == 44) then (x &&& imm) else (bif (op == 45) then (x ||| imm) else (bif (op == 46) then (x ^^^ imm) else (bif (op == 9) then (x + y) else (bif (op == 1) then (x + y) else (bif (op == 10) then (x - y) else (bif (op == 2) then (x - y) else (bif (op == 3) then (x &&& y) else (bif (op == 4) then (x ||| y) else (bif (op == 5) then (x ^^^ y) else (bif (op == 6) then (~~~(x ||| y)) else (bif (op == 7) then (aFlag_0 (aLess_0 x y)) else (bif (op == 8) then (aFlag_0 (decide (x < y))) else (bif (op == 11) then (bShl_0 y x) else (bif (op == 12) then (bShr_0 y x) else (bif (op == 13) then (bSar_0 y x) else (bif (op == 16) then (bShl_0 y (BitVec.ofInt 32 a)) else (bif (op == 17) then (bShr_0 y (BitVec.ofInt 32 a)) else (bif (op == 18) then (bSar_0 y (BitVec.ofInt 32 a)) else (bif (op == 37) then (x * y) else (bif (op == 38) then (bZeros_0 x) else (bif (op == 39) then (bOnes_0 x) else (bif (op == 47) then (imm <<< 16) else 0#32)))))))))))))))))))))))))))
def aReckon_1 (op s t d a : Int) (imm x y : BitVec 32) : Bool := (bif (op == 40) then true else (bif (op == 41) then true else (bif (op == 42) then true else (bif (op == 43) then true else (bif (op == 44) then true else (bif (op == 45) then true else (bif (op == 46) then true else (bif (op == 9) then true else (bif (op == 1) then true else (bif (op == 10) then true else (bif (op == 2) then true else (bif (op == 3) then true else (bif (op == 4) then true else (bif (op == 5) then true else (bif (op == 6) then true else (bif (op == 7) then true else (bif (op == 8) then true else (bif (op == 11) then true else (bif (op == 12) then true else (bif (op == 13) then true else (bif (op == 16) then true else (bif (op == 17) then true else (bif (op == 18) then true else (bif (op == 37) then true else (bif (op == 38) then true else (bif (op == 39) then true else (bif (op == 47) then true else false)))))))))))))))))))))))))))
def a_aReckon : List E → HP → R V
  | [.agg [.c (.i op), .c (.i s), .c (.i t), .c (.i d), .c (.i a), .c (.w imm)], .c (.w x), .c (.w y)], _ => .ok (.tup [(.c (.w (aReckon_0 op s t d a imm x y))), (.c (.bool (aReckon_1 op s t d a imm x y)))])
  | _, _ => .fail
noncomputable def q_aReckon : QE Try.prog := ⟨86, a_aReckon, fun args hp Q h => by
  unfold a_aReckon at h
  split at h
  · rename_i op s t d a imm x y
    exact qe_of B4_ok hmo Try.func86 (by kernel_rfl) (by kernel_rfl) rfl (Nat.le_of_ble_eq_true (by kernel_rfl)) rfl [0, 1, 2, 1, 1, 0, 1, 2, 2, 1, 0, 1, 2, 2, 2, 2, 2, 2, 2, 2, 2, 2, 2, 2, 2, 1, 0, 1, 2, 2, 2, 2, 2, 2, 2, 2, 2, 2, 2, 2, 2, 2, 2, 1, 0, 1, 2, 2, 2, 2, 2, 2, 1, 0, 1, 2, 2, 2, 2, 2, 2, 2, 2, 1, 0, 2, 2, 2, 2, 2, 2, 2, 2, 2, 2, 1, 0, 1, 2, 2, 0, 0, 0, 2, 0, 2, 0, 2, 0, 0, 2, 0, 2, 0, 0, 0, 0, 0, 0, 0, 0, 0, 0, 0] (ran_of (T' := ((.br (op == 40) (.need ((op == 40) = true) (.need ((op == 9) = false) (.need ((op == 40) = true) (.need ((op == 40) = true) (.leaf (.tup [(.c (.w (x + imm))), (.c (.bool true))])))))) (.br (op == 41) (.need ((op == 41) = true) (.need ((op == 9) = false) (.need ((op == 40) = false) (.need ((op == 41) = true) (.leaf (.tup [(.c (.w (x + imm))), (.c (.bool true))])))))) (.br (op == 42) (.need ((op == 42) = true) (.need ((op == 9) = false) (.need ((op == 40) = false) (.need ((op == 41) = false) (.need ((op == 1) = false) (.need ((op == 10) = false) (.need ((op == 2) = false) (.need ((op == 44) = false) (.need ((op == 3) = false) (.need ((op == 45) = false) (.need ((op == 4) = false) (.need ((op == 46) = false) (.need ((op == 5) = false) (.need ((op == 6) = false) (.need ((op == 42) = true) (.leaf (.tup [(.c (.w (aFlag_0 (aLess_0 x imm)))), (.c (.bool true))]))))))))))))))))) (.br (op == 43) (.need ((op == 43) = true) (.need ((op == 9) = false) (.need ((op == 40) = false) (.need ((op == 41) = false) (.need ((op == 1) = false) (.need ((op == 10) = false) (.need ((op == 2) = false) (.need ((op == 44) = false) (.need ((op == 3) = false) (.need ((op == 45) = false) (.need ((op == 4) = false) (.need ((op == 46) = false) (.need ((op == 5) = false) (.need ((op == 6) = false) (.need ((op == 42) = false) (.need ((op == 7) = false) (.need ((op == 43) = true) (.leaf (.tup [(.c (.w (aFlag_0 (decide (x < imm))))), (.c (.bool true))]))))))))))))))))))) (.br (op == 44) (.need ((op == 44) = true) (.need ((op == 9) = false) (.need ((op == 40) = false) (.need ((op == 41) = false) (.need ((op == 1) = false) (.need ((op == 10) = false) (.need ((op == 2) = false) (.need ((op == 44) = true) (.leaf (.tup [(.c (.w (x &&& imm))), (.c (.bool true))])))))))))) (.br (op == 45) (.need ((op == 45) = true) (.need ((op == 9) = false) (.need ((op == 40) = false) (.need ((op == 41) = false) (.need ((op == 1) = false) (.need ((op == 10) = false) (.need ((op == 2) = false) (.need ((op == 44) = false) (.need ((op == 3) = false) (.need ((op == 45) = true) (.leaf (.tup [(.c (.w (x ||| imm))), (.c (.bool true))])))))))))))) (.br (op == 46) (.need ((op == 9) = false) (.need ((op == 40) = false) (.need ((op == 41) = false) (.need ((op == 1) = false) (.need ((op == 10) = false) (.need ((op == 2) = false) (.need ((op == 44) = false) (.need ((op == 3) = false) (.need ((op == 45) = false) (.need ((op == 4) = false) (.need ((op == 46) = true) (.leaf (.tup [(.c (.w (x ^^^ imm))), (.c (.bool true))]))))))))))))) (.br (op == 9) (.need ((op == 9) = true) (.leaf (.tup [(.c (.w (x + y))), (.c (.bool true))]))) (.need ((op == 40) = false) (.need ((op == 41) = false) (.br (op == 1) (.leaf (.tup [(.c (.w (x + y))), (.c (.bool true))])) (.br (op == 10) (.leaf (.tup [(.c (.w (x - y))), (.c (.bool true))])) (.br (op == 2) (.leaf (.tup [(.c (.w (x - y))), (.c (.bool true))])) (.need ((op == 44) = false) (.br (op == 3) (.leaf (.tup [(.c (.w (x &&& y))), (.c (.bool true))])) (.need ((op == 45) = false) (.br (op == 4) (.leaf (.tup [(.c (.w (x ||| y))), (.c (.bool true))])) (.need ((op == 46) = false) (.br (op == 5) (.leaf (.tup [(.c (.w (x ^^^ y))), (.c (.bool true))])) (.br (op == 6) (.leaf (.tup [(.c (.w (~~~(x ||| y)))), (.c (.bool true))])) (.need ((op == 42) = false) (.br (op == 7) (.leaf (.tup [(.c (.w (aFlag_0 (aLess_0 x y)))), (.c (.bool true))])) (.need ((op == 43) = false) (.br (op == 8) (.leaf (.tup [(.c (.w (aFlag_0 (decide (x < y))))), (.c (.bool true))])) (.br (op == 11) (.leaf (.tup [(.c (.w (bShl_0 y x))), (.c (.bool true))])) (.br (op == 12) (.leaf (.tup [(.c (.w (bShr_0 y x))), (.c (.bool true))])) (.br (op == 13) (.leaf (.tup [(.c (.w (bSar_0 y x))), (.c (.bool true))])) (.br (op == 16) (.leaf (.tup [(.c (.w (bShl_0 y (BitVec.ofInt 32 a)))), (.c (.bool true))])) (.br (op == 17) (.leaf (.tup [(.c (.w (bShr_0 y (BitVec.ofInt 32 a)))), (.c (.bool true))])) (.br (op == 18) (.leaf (.tup [(.c (.w (bSar_0 y (BitVec.ofInt 32 a)))), (.c (.bool true))])) (.br (op == 37) (.leaf (.tup [(.c (.w (x * y))), (.c (.bool true))])) (.br (op == 38) (.leaf (.tup [(.c (.w (bZeros_0 x))), (.c (.bool true))])) (.br (op == 39) (.leaf (.tup [(.c (.w (bOnes_0 x))), (.c (.bool true))])) (.br (op == 47) (.leaf (.tup [(.c (.w (imm <<< 16))), (.c (.bool true))])) (.leaf (.tup [(.c (.w 0#32)), (.c (.bool false))])))))))))))))))))))))))))))))))))))))) (by kernel_rfl) (coll_sat ⟨fun h => (have h := eq_of_beq h; ⟨(by assumption), ⟨(by (subst_vars; rfl)), ⟨(by assumption), ⟨(by assumption), trivial⟩⟩⟩⟩), fun h => ⟨fun h => (have h := eq_of_beq h; ⟨(by assumption), ⟨(by (subst_vars; rfl)), ⟨(by assumption), ⟨(by assumption), trivial⟩⟩⟩⟩), fun h => ⟨fun h => (have h := eq_of_beq h; ⟨(by assumption), ⟨(by (subst_vars; rfl)), ⟨(by assumption), ⟨(by assumption), ⟨(by (subst_vars; rfl)), ⟨(by (subst_vars; rfl)), ⟨(by (subst_vars; rfl)), ⟨(by (subst_vars; rfl)), ⟨(by (subst_vars; rfl)), ⟨(by (subst_vars; rfl)), ⟨(by (subst_vars; rfl)), ⟨(by (subst_vars; rfl)), ⟨(by (subst_vars; rfl)), ⟨(by (subst_vars; rfl)), ⟨(by assumption), trivial⟩⟩⟩⟩⟩⟩⟩⟩⟩⟩⟩⟩⟩⟩⟩), fun h => ⟨fun h => (have h := eq_of_beq h; ⟨(by assumption), ⟨(by (subst_vars; rfl)), ⟨(by assumption), ⟨(by assumption), ⟨(by (subst_vars; rfl)), ⟨(by (subst_vars; rfl)), ⟨(by (subst_vars; rfl)), ⟨(by (subst_vars; rfl)), ⟨(by (subst_vars; rfl)), ⟨(by (subst_vars; rfl)), ⟨(by (subst_vars; rfl)), ⟨(by (subst_vars; rfl)), ⟨(by (subst_vars; rfl)), ⟨(by (subst_vars; rfl)), ⟨(by assumption), ⟨(by (subst_vars; rfl)), ⟨(by assumption), trivial⟩⟩⟩⟩⟩⟩⟩⟩⟩⟩⟩⟩⟩⟩⟩⟩⟩), fun h => ⟨fun h => (have h := eq_of_beq h; ⟨(by assumption), ⟨(by (subst_vars; rfl)), ⟨(by assumption), ⟨(by assumption), ⟨(by (subst_vars; rfl)), ⟨(by (subst_vars; rfl)), ⟨(by (subst_vars; rfl)), ⟨(by assumption), trivial⟩⟩⟩⟩⟩⟩⟩⟩), fun h => ⟨fun h => (have h := eq_of_beq h; ⟨(by assumption), ⟨(by (subst_vars; rfl)), ⟨(by assumption), ⟨(by assumption), ⟨(by (subst_vars; rfl)), ⟨(by (subst_vars; rfl)), ⟨(by (subst_vars; rfl)), ⟨(by assumption), ⟨(by (subst_vars; rfl)), ⟨(by assumption), trivial⟩⟩⟩⟩⟩⟩⟩⟩⟩⟩), fun h => ⟨fun h => (have h := eq_of_beq h; ⟨(by (subst_vars; rfl)), ⟨(by assumption), ⟨(by assumption), ⟨(by (subst_vars; rfl)), ⟨(by (subst_vars; rfl)), ⟨(by (subst_vars; rfl)), ⟨(by assumption), ⟨(by (subst_vars; rfl)), ⟨(by assumption), ⟨(by (subst_vars; rfl)), ⟨(by assumption), trivial⟩⟩⟩⟩⟩⟩⟩⟩⟩⟩⟩), fun h => ⟨fun h => (have h := eq_of_beq h; ⟨(by assumption), trivial⟩), fun h => ⟨(by assumption), ⟨(by assumption), ⟨fun h => (have h := eq_of_beq h; trivial), fun h => ⟨fun h => (have h := eq_of_beq h; trivial), fun h => ⟨fun h => (have h := eq_of_beq h; trivial), fun h => ⟨(by assumption), ⟨fun h => (have h := eq_of_beq h; trivial), fun h => ⟨(by assumption), ⟨fun h => (have h := eq_of_beq h; trivial), fun h => ⟨(by assumption), ⟨fun h => (have h := eq_of_beq h; trivial), fun h => ⟨fun h => (have h := eq_of_beq h; trivial), fun h => ⟨(by assumption), ⟨fun h => (have h := eq_of_beq h; trivial), fun h => ⟨(by assumption), (needs_no rfl)⟩⟩⟩⟩⟩⟩⟩⟩⟩⟩⟩⟩⟩⟩⟩⟩⟩⟩⟩⟩⟩⟩⟩ (by kernel_rfl))) h
  · exact h.elim⟩

end Go.Proofs.Ytchoogeojpllfaa
