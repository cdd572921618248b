/- A part of the walk or of the law. -/
import Derived.Test.YtchoogeojpllfaaMemR
import Derived.Test.YtchoogeojpllfaaMemJ
import Derived.Test.YtchoogeojpllfaaSx5
set_option linter.unusedVariables false
set_option linter.unusedSimpArgs false
namespace Go.Proofs.Ytchoogeojpllfaa
open Go.Sx
set_option maxHeartbeats 4000000
set_option maxRecDepth 20000
theorem zop : Z1 Try.prog 124 [.c (.i 0), .c (.i 0), .c (.i 0), .c (.i 0), .c (.w 0), .c (.i 0)] := z1_of (by kernel_rfl) (by kernel_rfl) rfl
theorem zshape : Z1 Try.prog 183 [.c (.bool false), .c (.bool false), .c (.bool false), .c (.bool false), .c (.bool false)] := z1_of (by kernel_rfl) (by kernel_rfl) rfl
noncomputable def WA0 : Sp := spOf (P := Try.prog) [⟨_, _, zop⟩, ⟨_, _, zshape⟩, ⟨_, _, zins⟩] [] [q_insKind, q_iDec, q_bAdd, q_bSub, q_bShl, q_bShr, q_bSar, q_bMul, q_bDiv, q_bZeros, q_bOnes] [] none none
theorem WA0_ok : SpOk Try.prog WA0 := spOf_ok _ _ _ _ _ _
/-- ir.of -/
def irOf_0 (k : Int) : Bool := (bif (k == 1) then false else (bif (k == 2) then true else (bif (k == 21) then true else (bif (k == 22) then true else (bif (bif decide (27 ≤ k) then decide (k ≤ 30) else false) then true else (bif (k == 23) then true else (bif (k == 24) then true else (bif (bif decide (3 ≤ k) then decide (k ≤ 32) else false) then true else (bif (bif decide (33 ≤ k) then decide (k ≤ 38) else false) then true else (bif (bif decide (40 ≤ k) then decide (k ≤ 46) else false) then true else (bif (bif decide (50 ≤ k) then decide (k ≤ 54) else false) then true else (bif (k == 60) then false else (bif (k == 61) then true else (bif (k == 62) then true else false))))))))))))))
def irOf_1 (k : Int) : Bool := (bif (k == 1) then false else (bif (k == 2) then false else (bif (k == 21) then false else (bif (k == 22) then false else (bif (bif decide (27 ≤ k) then decide (k ≤ 30) else false) then false else (bif (k == 23) then true else (bif (k == 24) then true else (bif (bif decide (3 ≤ k) then decide (k ≤ 32) else false) then true else (bif (bif decide (33 ≤ k) then decide (k ≤ 38) else false) then true else (bif (bif decide (40 ≤ k) then decide (k ≤ 46) else false) then true else (bif (bif decide (50 ≤ k) then decide (k ≤ 54) else false) then true else (bif (k == 60) then false else (bif (k == 61) then false else (bif (k == 62) then false else false))))))))))))))
def irOf_2 (k : Int) : Bool := (bif (k == 1) then false else (bif (k == 2) then false else (bif (k == 21) then false else (bif (k == 22) then false else (bif (bif decide (27 ≤ k) then decide (k ≤ 30) else false) then false else (bif (k == 23) then true else (bif (k == 24) then true else (bif (bif decide (3 ≤ k) then decide (k ≤ 32) else false) then false else (bif (bif decide (33 ≤ k) then decide (k ≤ 38) else false) then false else (bif (bif decide (40 ≤ k) then decide (k ≤ 46) else false) then false else (bif (bif decide (50 ≤ k) then decide (k ≤ 54) else false) then false else (bif (k == 60) then false else (bif (k == 61) then false else (bif (k == 62) then false else false))))))))))))))
def irOf_3 (k : Int) : Bool := (bif (k == 1) then true else (bif (k == 2) then true else (bif (k == 21) then true else (bif (k == 22) then true else (bif (bif decide (27 ≤ k) then decide (k ≤ 30) else false) then true else (bif (k == 23) then true else (bif (k == 24) then true else (bif (bif decide (3 ≤ k) then decide (k ≤ 32) else false) then true else (bif (bif decide (33 ≤ k) then decide (k ≤ 38) else false) then false else (bif (bif decide (40 ≤ k) then decide (k ≤ 46) else false) then true else (bif (bif decide (50 ≤ k) then decide (k ≤ 54) else false) then false else (bif (k == 60) then false else (bif (k == 61) then false else (bif (k == 62) then false else false))))))))))))))
def irOf_4 (k : Int) : Bool := (bif (k == 1) then true else (bif (k == 2) then false else (bif (k == 21) then false else (bif (k == 22) then false else (bif (bif decide (27 ≤ k) then decide (k ≤ 30) else false) then false else (bif (k == 23) then false else (bif (k == 24) then false else (bif (bif decide (3 ≤ k) then decide (k ≤ 32) else false) then false else (bif (bif decide (33 ≤ k) then decide (k ≤ 38) else false) then false else (bif (bif decide (40 ≤ k) then decide (k ≤ 46) else false) then true else (bif (bif decide (50 ≤ k) then decide (k ≤ 54) else false) then true else (bif (k == 60) then true else (bif (k == 61) then false else (bif (k == 62) then true else false))))))))))))))
def irOf_5 (k : Int) : Bool := (bif (k == 1) then true else (bif (k == 2) then true else (bif (k == 21) then true else (bif (k == 22) then true else (bif (bif decide (27 ≤ k) then decide (k ≤ 30) else false) then true else (bif (k == 23) then true else (bif (k == 24) then true else (bif (bif decide (3 ≤ k) then decide (k ≤ 32) else false) then true else (bif (bif decide (33 ≤ k) then decide (k ≤ 38) else false) then true else (bif (bif decide (40 ≤ k) then decide (k ≤ 46) else false) then true else (bif (bif decide (50 ≤ k) then decide (k ≤ 54) else false) then true else (bif (k == 60) then true else (bif (k == 61) then true else (bif (k == 62) then true else false))))))))))))))
def a_irOf : List E → HP → R V
  | [.c (.i k)], _ => .ok (.tup [(.agg [(.c (.bool (irOf_0 k))), (.c (.bool (irOf_1 k))), (.c (.bool (irOf_2 k))), (.c (.bool (irOf_3 k))), (.c (.bool (irOf_4 k)))]), (.c (.bool (irOf_5 k)))])
  | _, _ => .fail
noncomputable def q_irOf : QE Try.prog := ⟨100, a_irOf, fun args hp Q h => by
  unfold a_irOf at h
  split at h
  · rename_i k
    exact qe_of WA0_ok hmo Try.func100 (by kernel_rfl) (by kernel_rfl) rfl (Nat.le_of_ble_eq_true (by kernel_rfl)) rfl [0, 0, 1, 0, 1, 0, 1, 0, 0, 1, 0, 0, 0, 0, 0, 0, 0, 0] (ran_of (T' := ((.br (k == 1) (.leaf (.tup [(.agg [(.c (.bool false)), (.c (.bool false)), (.c (.bool false)), (.c (.bool true)), (.c (.bool true))]), (.c (.bool true))])) (.br (k == 2) (.need ((k == 2) = true) (.leaf (.tup [(.agg [(.c (.bool true)), (.c (.bool false)), (.c (.bool false)), (.c (.bool true)), (.c (.bool false))]), (.c (.bool true))]))) (.br (k == 21) (.need ((k == 21) = true) (.leaf (.tup [(.agg [(.c (.bool true)), (.c (.bool false)), (.c (.bool false)), (.c (.bool true)), (.c (.bool false))]), (.c (.bool true))]))) (.br (k == 22) (.need ((k == 22) = true) (.leaf (.tup [(.agg [(.c (.bool true)), (.c (.bool false)), (.c (.bool false)), (.c (.bool true)), (.c (.bool false))]), (.c (.bool true))]))) (.br (bif decide (27 ≤ k) then decide (k ≤ 30) else false) (.leaf (.tup [(.agg [(.c (.bool true)), (.c (.bool false)), (.c (.bool false)), (.c (.bool true)), (.c (.bool false))]), (.c (.bool true))])) (.br (k == 23) (.need ((k == 23) = true) (.leaf (.tup [(.agg [(.c (.bool true)), (.c (.bool true)), (.c (.bool true)), (.c (.bool true)), (.c (.bool false))]), (.c (.bool true))]))) (.br (k == 24) (.leaf (.tup [(.agg [(.c (.bool true)), (.c (.bool true)), (.c (.bool true)), (.c (.bool true)), (.c (.bool false))]), (.c (.bool true))])) (.br (bif decide (3 ≤ k) then decide (k ≤ 32) else false) (.leaf (.tup [(.agg [(.c (.bool true)), (.c (.bool true)), (.c (.bool false)), (.c (.bool true)), (.c (.bool false))]), (.c (.bool true))])) (.br (bif decide (33 ≤ k) then decide (k ≤ 38) else false) (.leaf (.tup [(.agg [(.c (.bool true)), (.c (.bool true)), (.c (.bool false)), (.c (.bool false)), (.c (.bool false))]), (.c (.bool true))])) (.br (bif decide (40 ≤ k) then decide (k ≤ 46) else false) (.leaf (.tup [(.agg [(.c (.bool true)), (.c (.bool true)), (.c (.bool false)), (.c (.bool true)), (.c (.bool true))]), (.c (.bool true))])) (.br (bif decide (50 ≤ k) then decide (k ≤ 54) else false) (.leaf (.tup [(.agg [(.c (.bool true)), (.c (.bool true)), (.c (.bool false)), (.c (.bool false)), (.c (.bool true))]), (.c (.bool true))])) (.br (k == 60) (.leaf (.tup [(.agg [(.c (.bool false)), (.c (.bool false)), (.c (.bool false)), (.c (.bool false)), (.c (.bool true))]), (.c (.bool true))])) (.br (k == 61) (.leaf (.tup [(.agg [(.c (.bool true)), (.c (.bool false)), (.c (.bool false)), (.c (.bool false)), (.c (.bool false))]), (.c (.bool true))])) (.br (k == 62) (.leaf (.tup [(.agg [(.c (.bool true)), (.c (.bool false)), (.c (.bool false)), (.c (.bool false)), (.c (.bool true))]), (.c (.bool true))])) (.leaf (.tup [(.agg [(.c (.bool false)), (.c (.bool false)), (.c (.bool false)), (.c (.bool false)), (.c (.bool false))]), (.c (.bool false))])))))))))))))))))) (by kernel_rfl) (coll_sat ⟨fun h => (have h := eq_of_beq h; trivial), fun h => ⟨fun h => (have h := eq_of_beq h; ⟨(by assumption), trivial⟩), fun h => ⟨fun h => (have h := eq_of_beq h; ⟨(by assumption), trivial⟩), fun h => ⟨fun h => (have h := eq_of_beq h; ⟨(by assumption), trivial⟩), fun h => ⟨fun h => trivial, fun h => ⟨fun h => (have h := eq_of_beq h; ⟨(by assumption), trivial⟩), fun h => (needs_no rfl)⟩⟩⟩⟩⟩⟩ (by kernel_rfl))) h
  · exact h.elim⟩

/-- ir.Pure -/
def irPure_0 (k : Int) : Bool := (bif decide (1 ≤ k) then decide (k ≤ 30) else false)
def a_irPure : List E → HP → R V
  | [.c (.i k)], _ => .ok (.e (.c (.bool (irPure_0 k))))
  | _, _ => .fail
noncomputable def q_irPure : QE Try.prog := ⟨56, a_irPure, fun args hp Q h => by
  unfold a_irPure at h
  split at h
  · rename_i k
    exact qe_of WA0_ok hmo Try.func56 (by kernel_rfl) (by kernel_rfl) rfl (Nat.le_of_ble_eq_true (by kernel_rfl)) rfl [] (ran_of (T' := ((.leaf (.e (.c (.bool (bif decide (1 ≤ k) then decide (k ≤ 30) else false))))))) (by kernel_rfl) (coll_sat trivial (by kernel_rfl))) h
  · exact h.elim⟩

/-- ir.place -/
def irPlace_0 (at_ : Int) (is_ : Bool) : Bool := (bif (!is_) then (at_ == 0) else (bif decide (0 ≤ at_) then decide (at_ ≤ 63) else false))
def a_irPlace : List E → HP → R V
  | [.c (.i at_), .c (.bool is_)], _ => .ok (.e (.c (.bool (irPlace_0 at_ is_))))
  | _, _ => .fail
noncomputable def q_irPlace : QE Try.prog := ⟨135, a_irPlace, fun args hp Q h => by
  unfold a_irPlace at h
  split at h
  · rename_i at_ is_
    exact qe_of WA0_ok hmo Try.func135 (by kernel_rfl) (by kernel_rfl) rfl (Nat.le_of_ble_eq_true (by kernel_rfl)) rfl [0] (ran_of (T' := ((.br (!is_) (.leaf (.e (.c (.bool (at_ == 0))))) (.leaf (.e (.c (.bool (bif decide (0 ≤ at_) then decide (at_ ≤ 63) else false)))))))) (by kernel_rfl) (coll_sat (needs_no rfl) (by kernel_rfl))) h
  · exact h.elim⟩

/-- ir.under -/
def irUnder_0 (x y : BitVec 32) : Bool := (x.slt y)
def a_irUnder : List E → HP → R V
  | [.c (.w x), .c (.w y)], _ => .ok (.e (.c (.bool (irUnder_0 x y))))
  | _, _ => .fail
noncomputable def q_irUnder : QE Try.prog := ⟨106, a_irUnder, fun args hp Q h => by
  unfold a_irUnder at h
  split at h
  · rename_i x y
    exact qe_of WA0_ok hmo Try.func106 (by kernel_rfl) (by kernel_rfl) rfl (Nat.le_of_ble_eq_true (by kernel_rfl)) rfl [] (ran_of (T' := ((.leaf (.e (.c (.bool (x.slt y))))))) (by kernel_rfl) (coll_sat trivial (by kernel_rfl))) h
  · exact h.elim⟩

/-- ir.flag -/
def irFlag_0 (b : Bool) : BitVec 32 := (bif b then 1#32 else 0#32)
def a_irFlag : List E → HP → R V
  | [.c (.bool b)], _ => .ok (.e (.c (.w (irFlag_0 b))))
  | _, _ => .fail
noncomputable def q_irFlag : QE Try.prog := ⟨107, a_irFlag, fun args hp Q h => by
  unfold a_irFlag at h
  split at h
  · rename_i b
    exact qe_of WA0_ok hmo Try.func107 (by kernel_rfl) (by kernel_rfl) rfl (Nat.le_of_ble_eq_true (by kernel_rfl)) rfl [0] (ran_of (T' := ((.br b (.leaf (.e (.c (.w 1#32)))) (.leaf (.e (.c (.w 0#32))))))) (by kernel_rfl) (coll_sat (needs_no rfl) (by kernel_rfl))) h
  · exact h.elim⟩

/-- ir.long -/
def irLong_0 (k : Int) (x y : BitVec 32) : BitVec 32 := (bif (k == 14) then (bMul_1 x y (k != 16)) else (bif (k == 15) then (bMul_0 x y (k != 16)) else (bif (k == 16) then (bMul_0 x y (k != 16)) else (bif (k == 17) then (bDiv_0 x y (bif k == 17 then true else k == 19)) else (bif (k == 18) then (bDiv_0 x y (bif k == 17 then true else k == 19)) else (bif (k == 19) then (bDiv_1 x y (bif k == 17 then true else k == 19)) else (bif (k == 20) then (bDiv_1 x y (bif k == 17 then true else k == 19)) else 0#32)))))))
def a_irLong : List E → HP → R V
  | [.c (.i k), .c (.w x), .c (.w y)], _ => .ok (.e (.c (.w (irLong_0 k x y))))
  | _, _ => .fail
noncomputable def q_irLong : QE Try.prog := ⟨113, a_irLong, fun args hp Q h => by
  unfold a_irLong at h
  split at h
  · rename_i k x y
    exact qe_of WA0_ok hmo Try.func113 (by kernel_rfl) (by kernel_rfl) rfl (Nat.le_of_ble_eq_true (by kernel_rfl)) rfl [0, 0, 1, 0, 0, 1, 0, 0, 1, 0] (ran_of (T' := ((.br (k == 14) (.leaf (.e (.c (.w (bMul_1 x y (k != 16)))))) (.br (k == 15) (.need ((k == 15) = true) (.leaf (.e (.c (.w (bMul_0 x y (k != 16))))))) (.br (k == 16) (.leaf (.e (.c (.w (bMul_0 x y (k != 16)))))) (.br (k == 17) (.need ((k == 17) = true) (.leaf (.e (.c (.w (bDiv_0 x y (bif k == 17 then true else k == 19))))))) (.br (k == 18) (.leaf (.e (.c (.w (bDiv_0 x y (bif k == 17 then true else k == 19)))))) (.br (k == 19) (.need ((k == 19) = true) (.leaf (.e (.c (.w (bDiv_1 x y (bif k == 17 then true else k == 19))))))) (.br (k == 20) (.leaf (.e (.c (.w (bDiv_1 x y (bif k == 17 then true else k == 19)))))) (.leaf (.e (.c (.w 0#32))))))))))))) (by kernel_rfl) (coll_sat ⟨fun h => (have h := eq_of_beq h; trivial), fun h => ⟨fun h => (have h := eq_of_beq h; ⟨(by assumption), trivial⟩), fun h => ⟨fun h => (have h := eq_of_beq h; trivial), fun h => ⟨fun h => (have h := eq_of_beq h; ⟨(by assumption), trivial⟩), fun h => ⟨fun h => (have h := eq_of_beq h; trivial), fun h => ⟨fun h => (have h := eq_of_beq h; ⟨(by assumption), trivial⟩), fun h => (needs_no rfl)⟩⟩⟩⟩⟩⟩ (by kernel_rfl))) h
  · exact h.elim⟩

/-- block.Plain -/
def blPlainOp_0 (op : Int) : Bool := (bif (insKind_0 op == 1) then true else (bif (insKind_0 op == 4) then true else (bif (insKind_0 op == 5) then true else (bif (insKind_0 op == 6) then true else false))))
def a_blPlainOp : List E → HP → R V
  | [.c (.i op)], _ => .ok (.e (.c (.bool (blPlainOp_0 op))))
  | _, _ => .fail
noncomputable def q_blPlainOp : QE Try.prog := ⟨134, a_blPlainOp, fun args hp Q h => by
  unfold a_blPlainOp at h
  split at h
  · rename_i op
    exact qe_of WA0_ok hmo Try.func134 (by kernel_rfl) (by kernel_rfl) rfl (Nat.le_of_ble_eq_true (by kernel_rfl)) rfl [0, 1, 0, 1, 0, 1, 0] (ran_of (T' := ((.br (insKind_0 op == 1) (.need ((insKind_0 op == 1) = true) (.leaf (.e (.c (.bool true))))) (.br (insKind_0 op == 4) (.need ((insKind_0 op == 4) = true) (.leaf (.e (.c (.bool true))))) (.br (insKind_0 op == 5) (.need ((insKind_0 op == 5) = true) (.leaf (.e (.c (.bool true))))) (.br (insKind_0 op == 6) (.leaf (.e (.c (.bool true)))) (.leaf (.e (.c (.bool false)))))))))) (by kernel_rfl) (coll_sat ⟨fun h => ⟨(by assumption), trivial⟩, fun h => ⟨fun h => ⟨(by assumption), trivial⟩, fun h => ⟨fun h => ⟨(by assumption), trivial⟩, fun h => (needs_no rfl)⟩⟩⟩ (by kernel_rfl))) h
  · exact h.elim⟩

/-- eval.guest -/
def evGuest_0 (k : Int) : Int := (bif (decide (50 ≤ k)) then (W64 (W64 (k - 50) + 55)) else (W64 (W64 (k - 40) + 48)))
def evGuest_1 (k : Int) : Int := (bif (decide (50 ≤ k)) then 0 else 0)
def evGuest_2 (k : Int) : Int := (bif (decide (50 ≤ k)) then 0 else 0)
def evGuest_3 (k : Int) : Int := (bif (decide (50 ≤ k)) then 0 else 0)
def evGuest_4 (k : Int) : Int := (bif (decide (50 ≤ k)) then 0 else 0)
def evGuest_5 (k : Int) : BitVec 32 := (bif (decide (50 ≤ k)) then 0#32 else 0#32)
def a_evGuest : List E → HP → R V
  | [.c (.i k)], _ => .ok (.e (.agg [(.c (.i (evGuest_0 k))), (.c (.i (evGuest_1 k))), (.c (.i (evGuest_2 k))), (.c (.i (evGuest_3 k))), (.c (.i (evGuest_4 k))), (.c (.w (evGuest_5 k)))]))
  | _, _ => .fail
noncomputable def q_evGuest : QE Try.prog := ⟨103, a_evGuest, fun args hp Q h => by
  unfold a_evGuest at h
  split at h
  · rename_i k
    exact qe_of WA0_ok hmo Try.func103 (by kernel_rfl) (by kernel_rfl) rfl (Nat.le_of_ble_eq_true (by kernel_rfl)) rfl [0] (ran_of (T' := ((.br (decide (50 ≤ k)) (.leaf (.e (.agg [(.c (.i (W64 (W64 (k - 50) + 55)))), (.c (.i 0)), (.c (.i 0)), (.c (.i 0)), (.c (.i 0)), (.c (.w 0#32))]))) (.leaf (.e (.agg [(.c (.i (W64 (W64 (k - 40) + 48)))), (.c (.i 0)), (.c (.i 0)), (.c (.i 0)), (.c (.i 0)), (.c (.w 0#32))])))))) (by kernel_rfl) (coll_sat (needs_no rfl) (by kernel_rfl))) h
  · exact h.elim⟩

noncomputable def WA1 : Sp := spOf (P := Try.prog) [⟨_, _, zop⟩, ⟨_, _, zshape⟩, ⟨_, _, zins⟩] [] [q_insKind, q_iDec, q_bAdd, q_bSub, q_bShl, q_bShr, q_bSar, q_bZeros, q_bOnes, q_irOf, q_irUnder, q_irFlag, q_irLong, q_blPlainOp] [] none none
theorem WA1_ok : SpOk Try.prog WA1 := spOf_ok _ _ _ _ _ _
/-- ir.Writes -/
def irWrites_0 (k d a b : Int) (imm : BitVec 32) (at_ : Int) : Int := (bif (irOf_3 k) then d else (-1))
def a_irWrites : List E → HP → R V
  | [.agg [.c (.i k), .c (.i d), .c (.i a), .c (.i b), .c (.w imm), .c (.i at_)]], _ => .ok (.e (.c (.i (irWrites_0 k d a b imm at_))))
  | _, _ => .fail
noncomputable def q_irWrites : QE Try.prog := ⟨55, a_irWrites, fun args hp Q h => by
  unfold a_irWrites at h
  split at h
  · rename_i k d a b imm at_
    exact qe_of WA1_ok hmo Try.func55 (by kernel_rfl) (by kernel_rfl) rfl (Nat.le_of_ble_eq_true (by kernel_rfl)) rfl [0] (ran_of (T' := ((.br (irOf_3 k) (.leaf (.e (.c (.i d)))) (.leaf (.e (.c (.i (-1)))))))) (by kernel_rfl) (coll_sat (needs_no rfl) (by kernel_rfl))) h
  · exact h.elim⟩

/-- ir.Stops -/
def irStops_0 (k d a b : Int) (imm : BitVec 32) (at_ : Int) (x y : BitVec 32) : Bool := (bif (k == 31) then (bAdd_1 x y) else (bif (k == 32) then (bSub_1 x y) else (bif (k == 33) then (!irUnder_0 x y) else (bif (k == 34) then (decide (y ≤ x)) else (bif (k == 35) then (irUnder_0 x y) else (bif (k == 36) then (decide (x < y)) else (bif (k == 37) then (x == y) else (bif (k == 38) then (x != y) else false))))))))
def a_irStops : List E → HP → R V
  | [.agg [.c (.i k), .c (.i d), .c (.i a), .c (.i b), .c (.w imm), .c (.i at_)], .c (.w x), .c (.w y)], _ => .ok (.e (.c (.bool (irStops_0 k d a b imm at_ x y))))
  | _, _ => .fail
noncomputable def q_irStops : QE Try.prog := ⟨64, a_irStops, fun args hp Q h => by
  unfold a_irStops at h
  split at h
  · rename_i k d a b imm at_ x y
    exact qe_of WA1_ok hmo Try.func64 (by kernel_rfl) (by kernel_rfl) rfl (Nat.le_of_ble_eq_true (by kernel_rfl)) rfl [0, 0, 0, 0, 0, 0, 0, 0] (ran_of (T' := ((.br (k == 31) (.leaf (.e (.c (.bool (bAdd_1 x y))))) (.br (k == 32) (.leaf (.e (.c (.bool (bSub_1 x y))))) (.br (k == 33) (.leaf (.e (.c (.bool (!irUnder_0 x y))))) (.br (k == 34) (.leaf (.e (.c (.bool (decide (y ≤ x)))))) (.br (k == 35) (.leaf (.e (.c (.bool (irUnder_0 x y))))) (.br (k == 36) (.leaf (.e (.c (.bool (decide (x < y)))))) (.br (k == 37) (.leaf (.e (.c (.bool (x == y))))) (.br (k == 38) (.leaf (.e (.c (.bool (x != y))))) (.leaf (.e (.c (.bool false)))))))))))))) (by kernel_rfl) (coll_sat (needs_no rfl) (by kernel_rfl))) h
  · exact h.elim⟩

/-- ir.Reckon -/
def irReckon_0 (k d a b : Int) (imm : BitVec 32) (at_ : Int) (x y z : BitVec 32) : BitVec 32 := (bif (k == 1) then imm else (bif (k == 2) then x else (bif (k == 31) then (x + y) else (bif (k == 3) then (x + y) else (bif (k == 32) then (x - y) else (bif (k == 4) then (x - y) else (bif (k == 5) then (x &&& y) else (bif (k == 6) then (x ||| y) else (bif (k == 7) then (x ^^^ y) else (bif (k == 8) then (~~~(x ||| y)) else (bif (k == 9) then (irFlag_0 (irUnder_0 x y)) else (bif (k == 10) then (irFlag_0 (decide (x < y))) else (bif (k == 11) then (bShl_0 x y) else (bif (k == 12) then (bShr_0 x y) else (bif (k == 13) then (bSar_0 x y) else (bif (k == 21) then (bZeros_0 x) else (bif (k == 22) then (bOnes_0 x) else (bif (k == 23) then (bif ((y == 0#32) == (k == 23)) then x else z) else (bif (k == 24) then (bif ((y == 0#32) == (k == 23)) then x else z) else (bif (k == 25) then (irFlag_0 (x == y)) else (bif (k == 26) then (irFlag_0 (x != y)) else (bif (k == 27) then (irFlag_0 !irUnder_0 (0#32) x) else (bif (k == 28) then (irFlag_0 (irUnder_0 (0#32) x)) else (bif (k == 29) then (irFlag_0 (irUnder_0 x 0#32)) else (bif (k == 30) then (irFlag_0 !irUnder_0 x 0#32) else (irLong_0 k x y))))))))))))))))))))))))))
def a_irReckon : List E → HP → R V
  | [.agg [.c (.i k), .c (.i d), .c (.i a), .c (.i b), .c (.w imm), .c (.i at_)], .c (.w x), .c (.w y), .c (.w z)], _ => .ok (.e (.c (.w (irReckon_0 k d a b imm at_ x y z))))
  | _, _ => .fail
noncomputable def q_irReckon : QE Try.prog := ⟨65, a_irReckon, fun args hp Q h => by
  unfold a_irReckon at h
  split at h
  · rename_i k d a b imm at_ x y z
    exact qe_of WA1_ok hmo Try.func65 (by kernel_rfl) (by kernel_rfl) rfl (Nat.le_of_ble_eq_true (by kernel_rfl)) rfl [0, 0, 0, 0, 0, 0, 0, 0, 0, 0, 0, 0, 0, 0, 0, 0, 0, 0, 1, 0, 0, 0, 0, 0, 0, 0, 0, 0] (ran_of (T' := ((.br (k == 1) (.leaf (.e (.c (.w imm)))) (.br (k == 2) (.leaf (.e (.c (.w x)))) (.br (k == 31) (.leaf (.e (.c (.w (x + y))))) (.br (k == 3) (.leaf (.e (.c (.w (x + y))))) (.br (k == 32) (.leaf (.e (.c (.w (x - y))))) (.br (k == 4) (.leaf (.e (.c (.w (x - y))))) (.br (k == 5) (.leaf (.e (.c (.w (x &&& y))))) (.br (k == 6) (.leaf (.e (.c (.w (x ||| y))))) (.br (k == 7) (.leaf (.e (.c (.w (x ^^^ y))))) (.br (k == 8) (.leaf (.e (.c (.w (~~~(x ||| y)))))) (.br (k == 9) (.leaf (.e (.c (.w (irFlag_0 (irUnder_0 x y)))))) (.br (k == 10) (.leaf (.e (.c (.w (irFlag_0 (decide (x < y))))))) (.br (k == 11) (.leaf (.e (.c (.w (bShl_0 x y))))) (.br (k == 12) (.leaf (.e (.c (.w (bShr_0 x y))))) (.br (k == 13) (.leaf (.e (.c (.w (bSar_0 x y))))) (.br (k == 21) (.leaf (.e (.c (.w (bZeros_0 x))))) (.br (k == 22) (.leaf (.e (.c (.w (bOnes_0 x))))) (.br (k == 23) (.need ((k == 23) = true) (.br ((y == 0#32) == (k == 23)) (.leaf (.e (.c (.w x)))) (.leaf (.e (.c (.w z)))))) (.br (k == 24) (.br ((y == 0#32) == (k == 23)) (.leaf (.e (.c (.w x)))) (.leaf (.e (.c (.w z))))) (.br (k == 25) (.leaf (.e (.c (.w (irFlag_0 (x == y)))))) (.br (k == 26) (.leaf (.e (.c (.w (irFlag_0 (x != y)))))) (.br (k == 27) (.leaf (.e (.c (.w (irFlag_0 !irUnder_0 (0#32) x))))) (.br (k == 28) (.leaf (.e (.c (.w (irFlag_0 (irUnder_0 (0#32) x)))))) (.br (k == 29) (.leaf (.e (.c (.w (irFlag_0 (irUnder_0 x 0#32)))))) (.br (k == 30) (.leaf (.e (.c (.w (irFlag_0 !irUnder_0 x 0#32))))) (.leaf (.e (.c (.w (irLong_0 k x y)))))))))))))))))))))))))))))))) (by kernel_rfl) (coll_sat ⟨fun h => (have h := eq_of_beq h; trivial), fun h => ⟨fun h => (have h := eq_of_beq h; trivial), fun h => ⟨fun h => (have h := eq_of_beq h; trivial), fun h => ⟨fun h => (have h := eq_of_beq h; trivial), fun h => ⟨fun h => (have h := eq_of_beq h; trivial), fun h => ⟨fun h => (have h := eq_of_beq h; trivial), fun h => ⟨fun h => (have h := eq_of_beq h; trivial), fun h => ⟨fun h => (have h := eq_of_beq h; trivial), fun h => ⟨fun h => (have h := eq_of_beq h; trivial), fun h => ⟨fun h => (have h := eq_of_beq h; trivial), fun h => ⟨fun h => (have h := eq_of_beq h; trivial), fun h => ⟨fun h => (have h := eq_of_beq h; trivial), fun h => ⟨fun h => (have h := eq_of_beq h; trivial), fun h => ⟨fun h => (have h := eq_of_beq h; trivial), fun h => ⟨fun h => (have h := eq_of_beq h; trivial), fun h => ⟨fun h => (have h := eq_of_beq h; trivial), fun h => ⟨fun h => (have h := eq_of_beq h; trivial), fun h => ⟨fun h => (have h := eq_of_beq h; ⟨(by assumption), (needs_no rfl)⟩), fun h => (needs_no rfl)⟩⟩⟩⟩⟩⟩⟩⟩⟩⟩⟩⟩⟩⟩⟩⟩⟩⟩ (by kernel_rfl))) h
  · exact h.elim⟩

/-- block.plain -/
def blPlainW_0 (w : BitVec 32) : Bool := (blPlainOp_0 (iDec_0 w))
def a_blPlainW : List E → HP → R V
  | [.c (.w w)], _ => .ok (.e (.c (.bool (blPlainW_0 w))))
  | _, _ => .fail
noncomputable def q_blPlainW : QE Try.prog := ⟨98, a_blPlainW, fun args hp Q h => by
  unfold a_blPlainW at h
  split at h
  · rename_i w
    exact qe_of WA1_ok hmo Try.func98 (by kernel_rfl) (by kernel_rfl) rfl (Nat.le_of_ble_eq_true (by kernel_rfl)) rfl [] (ran_of (T' := ((.leaf (.e (.c (.bool (blPlainOp_0 (iDec_0 w)))))))) (by kernel_rfl) (coll_sat trivial (by kernel_rfl))) h
  · exact h.elim⟩

/-- block.jumps -/
def blJumpsW_0 (w : BitVec 32) : Bool := (insKind_0 (iDec_0 w) == 2)
def a_blJumpsW : List E → HP → R V
  | [.c (.w w)], _ => .ok (.e (.c (.bool (blJumpsW_0 w))))
  | _, _ => .fail
noncomputable def q_blJumpsW : QE Try.prog := ⟨99, a_blJumpsW, fun args hp Q h => by
  unfold a_blJumpsW at h
  split at h
  · rename_i w
    exact qe_of WA1_ok hmo Try.func99 (by kernel_rfl) (by kernel_rfl) rfl (Nat.le_of_ble_eq_true (by kernel_rfl)) rfl [] (ran_of (T' := ((.leaf (.e (.c (.bool (insKind_0 (iDec_0 w) == 2))))))) (by kernel_rfl) (coll_sat trivial (by kernel_rfl))) h
  · exact h.elim⟩

end Go.Proofs.Ytchoogeojpllfaa
