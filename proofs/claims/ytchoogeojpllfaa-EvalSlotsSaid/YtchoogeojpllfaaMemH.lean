/- A part of the walk or of the law. -/
import Derived.Test.YtchoogeojpllfaaMemG
import Derived.Test.YtchoogeojpllfaaSx5
set_option linter.unusedVariables false
set_option linter.unusedSimpArgs false
namespace Go.Proofs.Ytchoogeojpllfaa
open Go.Sx
noncomputable def B0 : Sp := spOf (P := Try.prog) [] [] [] [] none none
theorem B0_ok : SpOk Try.prog B0 := spOf_ok _ _ _ _ _ _
/-- ins.Kind -/
def insKind_0 (op : Int) : Int := (bif (bif decide (op < 1) then true else decide (69 < op)) then 0 else (bif (bif bif op == 27 then true else op == 28 then true else decide (60 ≤ op)) then 2 else (bif (bif op == 35 then true else op == 36) then 3 else (bif (bif decide (48 ≤ op) then decide (op ≤ 54) else false) then 4 else (bif (bif decide (55 ≤ op) then decide (op ≤ 59) else false) then 5 else (bif (bif bif bif op == 9 then true else op == 10 then true else op == 41 then true else bif decide (29 ≤ op) then decide (op ≤ 34) else false) then 6 else 1))))))
def a_insKind : List E → HP → R V
  | [.c (.i op)], _ => .ok (.e (.c (.i (insKind_0 op))))
  | _, _ => .fail
noncomputable def q_insKind : QE Try.prog := ⟨39, a_insKind, fun args hp Q h => by
  unfold a_insKind at h
  split at h
  · rename_i op
    exact qe_of B0_ok hmo Try.func39 (by kernel_rfl) (by kernel_rfl) rfl (Nat.le_of_ble_eq_true (by kernel_rfl)) rfl [0, 0, 0, 0, 0, 0] (ran_of (T' := ((.br (bif decide (op < 1) then true else decide (69 < op)) (.leaf (.e (.c (.i 0)))) (.br (bif bif op == 27 then true else op == 28 then true else decide (60 ≤ op)) (.leaf (.e (.c (.i 2)))) (.br (bif op == 35 then true else op == 36) (.leaf (.e (.c (.i 3)))) (.br (bif decide (48 ≤ op) then decide (op ≤ 54) else false) (.leaf (.e (.c (.i 4)))) (.br (bif decide (55 ≤ op) then decide (op ≤ 59) else false) (.leaf (.e (.c (.i 5)))) (.br (bif bif bif op == 9 then true else op == 10 then true else op == 41 then true else bif decide (29 ≤ op) then decide (op ≤ 34) else false) (.leaf (.e (.c (.i 6)))) (.leaf (.e (.c (.i 1)))))))))))) (by kernel_rfl) (coll_sat (needs_no rfl) (by kernel_rfl))) h
  · exact h.elim⟩

/-- bits.Shl -/
def bShl_0 (v n : BitVec 32) : BitVec 32 := (v <<< (n &&& 31#32).toNat)
def a_bShl : List E → HP → R V
  | [.c (.w v), .c (.w n)], _ => .ok (.e (.c (.w (bShl_0 v n))))
  | _, _ => .fail
noncomputable def q_bShl : QE Try.prog := ⟨108, a_bShl, fun args hp Q h => by
  unfold a_bShl at h
  split at h
  · rename_i v n
    exact qe_of B0_ok hmo Try.func108 (by kernel_rfl) (by kernel_rfl) rfl (Nat.le_of_ble_eq_true (by kernel_rfl)) rfl [] (ran_of (T' := ((.leaf (.e (.c (.w (v <<< (n &&& 31#32).toNat))))))) (by kernel_rfl) (coll_sat trivial (by kernel_rfl))) h
  · exact h.elim⟩

/-- bits.Shr -/
def bShr_0 (v n : BitVec 32) : BitVec 32 := (v >>> (n &&& 31#32).toNat)
def a_bShr : List E → HP → R V
  | [.c (.w v), .c (.w n)], _ => .ok (.e (.c (.w (bShr_0 v n))))
  | _, _ => .fail
noncomputable def q_bShr : QE Try.prog := ⟨109, a_bShr, fun args hp Q h => by
  unfold a_bShr at h
  split at h
  · rename_i v n
    exact qe_of B0_ok hmo Try.func109 (by kernel_rfl) (by kernel_rfl) rfl (Nat.le_of_ble_eq_true (by kernel_rfl)) rfl [] (ran_of (T' := ((.leaf (.e (.c (.w (v >>> (n &&& 31#32).toNat))))))) (by kernel_rfl) (coll_sat trivial (by kernel_rfl))) h
  · exact h.elim⟩

/-- bits.Sar -/
def bSar_0 (v n : BitVec 32) : BitVec 32 := (v.sshiftRight (n &&& 31#32).toNat)
def a_bSar : List E → HP → R V
  | [.c (.w v), .c (.w n)], _ => .ok (.e (.c (.w (bSar_0 v n))))
  | _, _ => .fail
noncomputable def q_bSar : QE Try.prog := ⟨110, a_bSar, fun args hp Q h => by
  unfold a_bSar at h
  split at h
  · rename_i v n
    exact qe_of B0_ok hmo Try.func110 (by kernel_rfl) (by kernel_rfl) rfl (Nat.le_of_ble_eq_true (by kernel_rfl)) rfl [] (ran_of (T' := ((.leaf (.e (.c (.w (v.sshiftRight (n &&& 31#32).toNat))))))) (by kernel_rfl) (coll_sat trivial (by kernel_rfl))) h
  · exact h.elim⟩

/-- bits.AddOver -/
def bAdd_0 (a b : BitVec 32) : BitVec 32 := (a + b)
def bAdd_1 (a b : BitVec 32) : Bool := ((a ^^^ a + b) &&& (b ^^^ a + b) &&& 2147483648#32 != 0#32)
def a_bAdd : List E → HP → R V
  | [.c (.w a), .c (.w b)], _ => .ok (.tup [(.c (.w (bAdd_0 a b))), (.c (.bool (bAdd_1 a b)))])
  | _, _ => .fail
noncomputable def q_bAdd : QE Try.prog := ⟨104, a_bAdd, fun args hp Q h => by
  unfold a_bAdd at h
  split at h
  · rename_i a b
    exact qe_of B0_ok hmo Try.func104 (by kernel_rfl) (by kernel_rfl) rfl (Nat.le_of_ble_eq_true (by kernel_rfl)) rfl [] (ran_of (T' := ((.leaf (.tup [(.c (.w (a + b))), (.c (.bool ((a ^^^ a + b) &&& (b ^^^ a + b) &&& 2147483648#32 != 0#32)))])))) (by kernel_rfl) (coll_sat trivial (by kernel_rfl))) h
  · exact h.elim⟩

/-- bits.SubOver -/
def bSub_0 (a b : BitVec 32) : BitVec 32 := (a - b)
def bSub_1 (a b : BitVec 32) : Bool := ((a ^^^ b) &&& (a ^^^ a - b) &&& 2147483648#32 != 0#32)
def a_bSub : List E → HP → R V
  | [.c (.w a), .c (.w b)], _ => .ok (.tup [(.c (.w (bSub_0 a b))), (.c (.bool (bSub_1 a b)))])
  | _, _ => .fail
noncomputable def q_bSub : QE Try.prog := ⟨105, a_bSub, fun args hp Q h => by
  unfold a_bSub at h
  split at h
  · rename_i a b
    exact qe_of B0_ok hmo Try.func105 (by kernel_rfl) (by kernel_rfl) rfl (Nat.le_of_ble_eq_true (by kernel_rfl)) rfl [] (ran_of (T' := ((.leaf (.tup [(.c (.w (a - b))), (.c (.bool ((a ^^^ b) &&& (a ^^^ a - b) &&& 2147483648#32 != 0#32)))])))) (by kernel_rfl) (coll_sat trivial (by kernel_rfl))) h
  · exact h.elim⟩

/-- alu.flag -/
def aFlag_0 (b : Bool) : BitVec 32 := (bif b then 1#32 else 0#32)
def a_aFlag : List E → HP → R V
  | [.c (.bool b)], _ => .ok (.e (.c (.w (aFlag_0 b))))
  | _, _ => .fail
noncomputable def q_aFlag : QE Try.prog := ⟨120, a_aFlag, fun args hp Q h => by
  unfold a_aFlag at h
  split at h
  · rename_i b
    exact qe_of B0_ok hmo Try.func120 (by kernel_rfl) (by kernel_rfl) rfl (Nat.le_of_ble_eq_true (by kernel_rfl)) rfl [0] (ran_of (T' := ((.br b (.leaf (.e (.c (.w 1#32)))) (.leaf (.e (.c (.w 0#32))))))) (by kernel_rfl) (coll_sat (needs_no rfl) (by kernel_rfl))) h
  · exact h.elim⟩

/-- alu.less -/
def aLess_0 (a b : BitVec 32) : Bool := (a.slt b)
def a_aLess : List E → HP → R V
  | [.c (.w a), .c (.w b)], _ => .ok (.e (.c (.bool (aLess_0 a b))))
  | _, _ => .fail
noncomputable def q_aLess : QE Try.prog := ⟨90, a_aLess, fun args hp Q h => by
  unfold a_aLess at h
  split at h
  · rename_i a b
    exact qe_of B0_ok hmo Try.func90 (by kernel_rfl) (by kernel_rfl) rfl (Nat.le_of_ble_eq_true (by kernel_rfl)) rfl [] (ran_of (T' := ((.leaf (.e (.c (.bool (a.slt b))))))) (by kernel_rfl) (coll_sat trivial (by kernel_rfl))) h
  · exact h.elim⟩

/-- alu.Writes -/
def aWrites_0 (op s t d a : Int) (imm : BitVec 32) : Int := (bif (bif bif bif bif bif decide (1 ≤ op) then decide (op ≤ 18) else false then true else op == 23 then true else op == 24 then true else op == 28 then true else bif decide (37 ≤ op) then decide (op ≤ 39) else false) then d else (bif (bif decide (40 ≤ op) then decide (op ≤ 54) else false) then t else (bif (bif bif op == 66 then true else op == 67 then true else op == 69) then 31 else 0)))
def a_aWrites : List E → HP → R V
  | [.agg [.c (.i op), .c (.i s), .c (.i t), .c (.i d), .c (.i a), .c (.w imm)]], _ => .ok (.e (.c (.i (aWrites_0 op s t d a imm))))
  | _, _ => .fail
noncomputable def q_aWrites : QE Try.prog := ⟨85, a_aWrites, fun args hp Q h => by
  unfold a_aWrites at h
  split at h
  · rename_i op s t d a imm
    exact qe_of B0_ok hmo Try.func85 (by kernel_rfl) (by kernel_rfl) rfl (Nat.le_of_ble_eq_true (by kernel_rfl)) rfl [0, 0, 0] (ran_of (T' := ((.br (bif bif bif bif bif decide (1 ≤ op) then decide (op ≤ 18) else false then true else op == 23 then true else op == 24 then true else op == 28 then true else bif decide (37 ≤ op) then decide (op ≤ 39) else false) (.leaf (.e (.c (.i d)))) (.br (bif decide (40 ≤ op) then decide (op ≤ 54) else false) (.leaf (.e (.c (.i t)))) (.br (bif bif op == 66 then true else op == 67 then true else op == 69) (.leaf (.e (.c (.i 31)))) (.leaf (.e (.c (.i 0))))))))) (by kernel_rfl) (coll_sat (needs_no rfl) (by kernel_rfl))) h
  · exact h.elim⟩

/-- access.wide -/
def acWide_0 (op : Int) : BitVec 32 := (bif (op == 49) then 2#32 else (bif (op == 53) then 2#32 else (bif (op == 56) then 2#32 else (bif (op == 51) then 4#32 else (bif (op == 58) then 4#32 else 1#32)))))
def a_acWide : List E → HP → R V
  | [.c (.i op)], _ => .ok (.e (.c (.w (acWide_0 op))))
  | _, _ => .fail
noncomputable def q_acWide : QE Try.prog := ⟨119, a_acWide, fun args hp Q h => by
  unfold a_acWide at h
  split at h
  · rename_i op
    exact qe_of B0_ok hmo Try.func119 (by kernel_rfl) (by kernel_rfl) rfl (Nat.le_of_ble_eq_true (by kernel_rfl)) rfl [0, 1, 0, 0, 0, 0] (ran_of (T' := ((.br (op == 49) (.need ((op == 49) = true) (.leaf (.e (.c (.w 2#32))))) (.br (op == 53) (.leaf (.e (.c (.w 2#32)))) (.br (op == 56) (.leaf (.e (.c (.w 2#32)))) (.br (op == 51) (.leaf (.e (.c (.w 4#32)))) (.br (op == 58) (.leaf (.e (.c (.w 4#32)))) (.leaf (.e (.c (.w 1#32))))))))))) (by kernel_rfl) (coll_sat ⟨fun h => (have h := eq_of_beq h; ⟨(by assumption), trivial⟩), fun h => (needs_no rfl)⟩ (by kernel_rfl))) h
  · exact h.elim⟩

end Go.Proofs.Ytchoogeojpllfaa
