/- A part of the walk or of the law. -/
import Derived.Test.YtchoogeojpllfaaMemX
set_option linter.unusedVariables false
set_option linter.unusedSimpArgs false
namespace Go.Proofs.Ytchoogeojpllfaa
open Go.Sx
set_option maxHeartbeats 4000000
noncomputable def e_ins : EE Try.prog := eeOf Try.prog 84 (by kernel_rfl) (by kernel_rfl)
noncomputable def R3 : Sp := ((spOf (P := Try.prog) [⟨_, _, ztrow⟩, ⟨_, _, ztab⟩, ⟨_, _, zins⟩] [e_ins] [q_tab, q_rWord, q_rDec] [] none none).un 70).ck
theorem R3_ok : SpOk Try.prog R3 := Sp.ck_ok (Sp.un_ok (spOf_ok _ _ _ _ _ _) 70)
/-- An instruction's word; is it told by it? -/
def wordOf (op s t d a : Int) (imm : BitVec 32) (r : TRow) : BitVec 32 := rWord_0 r.op r.form r.o r.f r.nm op s t d a imm
def enc_0 (op s t d a : Int) (imm : BitVec 32) : BitVec 32 := scanT 0 (wordOf op s t d a imm) (fun r => r.op == op) tabT
def told (op s t d a : Int) (imm w : BitVec 32) : Bool := rDec_0 w == op && (rDec_1 w == s && (rDec_2 w == t && (rDec_3 w == d && (rDec_4 w == a && rDec_5 w == imm))))
def enc_1 (op s t d a : Int) (imm : BitVec 32) : Bool := scanT false (fun r => told op s t d a imm (wordOf op s t d a imm r)) (fun r => r.op == op) tabT
def v_enc (op s t d a : Int) (imm : BitVec 32) : V := .tup [.c (.w (enc_0 op s t d a imm)), .c (.bool (enc_1 op s t d a imm))]
set_option maxRecDepth 100000 in
theorem enc_ran (op s t d a : Int) (imm : BitVec 32) : collF (fexec Try.prog R3 Try.f42 (bodyOf Try.f42) [.agg [.c (.i op), .c (.i s), .c (.i t), .c (.i d), .c (.i a), .c (.w imm)]] ⟨[], 0⟩ fun v _ => v) = some (v_enc op s t d a imm) := by kernel_rfl
def a_enc : List E → HP → R V
  | [.agg [.c (.i op), .c (.i s), .c (.i t), .c (.i d), .c (.i a), .c (.w imm)]], _ => .ok (v_enc op s t d a imm)
  | _, _ => .fail
noncomputable def q_enc : QE Try.prog := ⟨42, a_enc, fun args hp Q h => by
  unfold a_enc at h
  split at h
  · rename_i op s t d a imm
    exact qe_of R3_ok hmo Try.func42 (by kernel_rfl) (by kernel_rfl) rfl (Nat.le_of_ble_eq_true (by kernel_rfl)) rfl [] (ran_F (enc_ran op s t d a imm)) h
  · exact h.elim⟩
noncomputable def R4 : Sp := spOf (P := Try.prog) [⟨_, _, zins⟩] [] [q_enc] [] none none
theorem R4_ok : SpOk Try.prog R4 := spOf_ok _ _ _ _ _ _
/-- calquelaw00.Word -/
def lWord_0 (op s t d a : Int) (imm : BitVec 32) : BitVec 32 := (enc_0 op s t d a imm)
def a_lWord : List E → HP → R V
  | [.c (.i op), .c (.i s), .c (.i t), .c (.i d), .c (.i a), .c (.w imm)], _ => .ok (.e (.c (.w (lWord_0 op s t d a imm))))
  | _, _ => .fail
noncomputable def q_lWord : QE Try.prog := ⟨16, a_lWord, fun args hp Q h => by
  unfold a_lWord at h
  split at h
  · rename_i op s t d a imm
    exact qe_of R4_ok hmo Try.func16 (by kernel_rfl) (by kernel_rfl) rfl (Nat.le_of_ble_eq_true (by kernel_rfl)) rfl [] (ran_of (T' := ((.leaf (.e (.c (.w (enc_0 op s t d a imm))))))) (by kernel_rfl) (coll_sat trivial (by kernel_rfl))) h
  · exact h.elim⟩


/-- calquelaw00.Place -/
def lPlace_0 (v n : Int) : Int := (bif (decide (v.tmod n < 0)) then (W64 (v.tmod n + n)) else (v.tmod n))
def a_lPlace : List E → HP → R V
  | [.c (.i v), .c (.i n)], _ => .need (n ≠ 0) (.ok (.e (.c (.i (lPlace_0 v n)))))
  | _, _ => .fail
noncomputable def q_lPlace : QE Try.prog := ⟨18, a_lPlace, fun args hp Q h => by
  unfold a_lPlace at h
  split at h
  · rename_i v n
    obtain ⟨hpre, h⟩ := h
    exact qe_of B0_ok hmo Try.func18 (by kernel_rfl) (by kernel_rfl) rfl (Nat.le_of_ble_eq_true (by kernel_rfl)) rfl [0] (ran_of (T' := ((.need (n ≠ (0 : Int)) (.br (decide (v.tmod n < 0)) (.leaf (.e (.c (.i (W64 (v.tmod n + n)))))) (.leaf (.e (.c (.i (v.tmod n))))))))) (by kernel_rfl) (coll_sat ⟨(by assumption), (needs_no rfl)⟩ (by kernel_rfl))) h
  · exact h.elim⟩

noncomputable def R5 : Sp := spOf (P := Try.prog) [] [] [q_lWord, q_lPlace] [] none none
theorem R5_ok : SpOk Try.prog R5 := spOf_ok _ _ _ _ _ _
/-- calquelaw00.Plain -/
def lPlain_0 (v : Int) : BitVec 32 := let x1 := (lPlace_0 v 1073741824); let x2 := (lWord_0 (W64 (1 + x1.tmod 23)) ((iShr x1 6).tmod 8) ((iShr x1 9).tmod 8) ((iShr x1 12).tmod 8) 0 0#32); (bif (x1.tmod 23 == 0) then x2 else (bif (x1.tmod 23 == 1) then x2 else (bif (x1.tmod 23 == 2) then x2 else (bif (x1.tmod 23 == 3) then x2 else (bif (x1.tmod 23 == 4) then x2 else (bif (x1.tmod 23 == 5) then x2 else (bif (x1.tmod 23 == 6) then x2 else (bif (x1.tmod 23 == 7) then x2 else (bif (x1.tmod 23 == 8) then x2 else (bif (x1.tmod 23 == 9) then x2 else (bif (x1.tmod 23 == 10) then (lWord_0 (W64 (6 + x1.tmod 23)) 0 ((iShr x1 9).tmod 8) ((iShr x1 12).tmod 8) (↑(BitVec.ofInt 32 (iBits (fun x y => x &&& y) (iShr x1 15) 63) &&& 31#32).toNat : Int) 0#32) else (bif (x1.tmod 23 == 11) then (lWord_0 (W64 (6 + x1.tmod 23)) 0 ((iShr x1 9).tmod 8) ((iShr x1 12).tmod 8) (↑(BitVec.ofInt 32 (iBits (fun x y => x &&& y) (iShr x1 15) 63) &&& 31#32).toNat : Int) 0#32) else (bif (x1.tmod 23 == 12) then (lWord_0 (W64 (6 + x1.tmod 23)) 0 ((iShr x1 9).tmod 8) ((iShr x1 12).tmod 8) (↑(BitVec.ofInt 32 (iBits (fun x y => x &&& y) (iShr x1 15) 63) &&& 31#32).toNat : Int) 0#32) else (bif (x1.tmod 23 == 13) then (lWord_0 (W64 (19 + (iShr x1 21).tmod 4)) ((iShr x1 6).tmod 8) ((iShr x1 9).tmod 8) 0 0 0#32) else (bif (x1.tmod 23 == 14) then (lWord_0 (W64 (23 + (iShr x1 21).tmod 2)) 0 0 ((iShr x1 12).tmod 8) 0 0#32) else (bif (x1.tmod 23 == 15) then (lWord_0 (W64 (40 + (iShr x1 21).tmod 4)) ((iShr x1 6).tmod 8) ((iShr x1 9).tmod 8) 0 0 (BitVec.ofInt 32 (iBits (fun x y => x &&& y) (iShr x1 15) 63) - 20#32)) else (bif (x1.tmod 23 == 16) then (lWord_0 (W64 (44 + (iShr x1 21).tmod 3)) ((iShr x1 6).tmod 8) ((iShr x1 9).tmod 8) 0 0 (BitVec.ofInt 32 (iBits (fun x y => x &&& y) (iShr x1 15) 63))) else (bif (x1.tmod 23 == 17) then (lWord_0 37 ((iShr x1 6).tmod 8) ((iShr x1 9).tmod 8) ((iShr x1 12).tmod 8) 0 0#32) else (bif (x1.tmod 23 == 18) then (lWord_0 (W64 (14 + (iShr x1 21).tmod 2)) ((iShr x1 6).tmod 8) ((iShr x1 9).tmod 8) ((iShr x1 12).tmod 8) 0 0#32) else (bif (x1.tmod 23 == 19) then (lWord_0 (W64 (48 + (iShr x1 21).tmod 7)) 28 ((iShr x1 9).tmod 8) 0 0 (BitVec.ofInt 32 (iBits (fun x y => x &&& y) (iShr x1 15) 63))) else (bif (x1.tmod 23 == 20) then (lWord_0 (W64 (55 + (iShr x1 21).tmod 5)) 28 ((iShr x1 9).tmod 8) 0 0 (BitVec.ofInt 32 (iBits (fun x y => x &&& y) (iShr x1 15) 63))) else (bif (x1.tmod 23 == 21) then (lWord_0 (W64 (29 + (iShr x1 21).tmod 4)) ((iShr x1 6).tmod 8) ((iShr x1 9).tmod 8) 0 0 0#32) else (lWord_0 (W64 (38 + (iShr x1 21).tmod 2)) ((iShr x1 6).tmod 8) ((iShr x1 12).tmod 8) ((iShr x1 12).tmod 8) 0 0#32)))))))))))))))))))))))
def a_lPlain : List E → HP → R V
  | [.c (.i v)], _ => .ok (.e (.c (.w (lPlain_0 v))))
  | _, _ => .fail
noncomputable def q_lPlain : QE Try.prog := ⟨13, a_lPlain, fun args hp Q h => by
  unfold a_lPlain at h
  split at h
  · rename_i v
    exact qe_of R5_ok hmo Try.func13 (by kernel_rfl) (by kernel_rfl) rfl (Nat.le_of_ble_eq_true (by kernel_rfl)) rfl [0, 1, 0, 1, 0, 1, 0, 1, 0, 1, 0, 1, 0, 1, 0, 1, 0, 1, 0, 0, 1, 0, 1, 0, 0, 0, 0, 0, 0, 0, 0, 0, 0] (ran_of (T' := (let x1 := (lPlace_0 v 1073741824); let x2 := (lWord_0 (W64 (1 + x1.tmod 23)) ((iShr x1 6).tmod 8) ((iShr x1 9).tmod 8) ((iShr x1 12).tmod 8) 0 0#32); (.need ((1073741824 : Int) ≠ (0 : Int)) (.need ((8 : Int) ≠ (0 : Int)) (.need ((8 : Int) ≠ (0 : Int)) (.need ((8 : Int) ≠ (0 : Int)) (.need ((23 : Int) ≠ (0 : Int)) (.br (x1.tmod 23 == 0) (.need ((x1.tmod 23 == 0) = true) (.need ((23 : Int) ≠ (0 : Int)) (.leaf (.e (.c (.w x2)))))) (.br (x1.tmod 23 == 1) (.need ((x1.tmod 23 == 1) = true) (.need ((23 : Int) ≠ (0 : Int)) (.leaf (.e (.c (.w x2)))))) (.br (x1.tmod 23 == 2) (.need ((x1.tmod 23 == 2) = true) (.need ((23 : Int) ≠ (0 : Int)) (.leaf (.e (.c (.w x2)))))) (.br (x1.tmod 23 == 3) (.need ((x1.tmod 23 == 3) = true) (.need ((23 : Int) ≠ (0 : Int)) (.leaf (.e (.c (.w x2)))))) (.br (x1.tmod 23 == 4) (.need ((x1.tmod 23 == 4) = true) (.need ((23 : Int) ≠ (0 : Int)) (.leaf (.e (.c (.w x2)))))) (.br (x1.tmod 23 == 5) (.need ((x1.tmod 23 == 5) = true) (.need ((23 : Int) ≠ (0 : Int)) (.leaf (.e (.c (.w x2)))))) (.br (x1.tmod 23 == 6) (.need ((x1.tmod 23 == 6) = true) (.need ((23 : Int) ≠ (0 : Int)) (.leaf (.e (.c (.w x2)))))) (.br (x1.tmod 23 == 7) (.need ((x1.tmod 23 == 7) = true) (.need ((23 : Int) ≠ (0 : Int)) (.leaf (.e (.c (.w x2)))))) (.br (x1.tmod 23 == 8) (.need ((x1.tmod 23 == 8) = true) (.need ((23 : Int) ≠ (0 : Int)) (.leaf (.e (.c (.w x2)))))) (.br (x1.tmod 23 == 9) (.need ((23 : Int) ≠ (0 : Int)) (.leaf (.e (.c (.w x2))))) (.br (x1.tmod 23 == 10) (.need ((x1.tmod 23 == 10) = true) (.need ((23 : Int) ≠ (0 : Int)) (.leaf (.e (.c (.w (lWord_0 (W64 (6 + x1.tmod 23)) 0 ((iShr x1 9).tmod 8) ((iShr x1 12).tmod 8) (↑(BitVec.ofInt 32 (iBits (fun x y => x &&& y) (iShr x1 15) 63) &&& 31#32).toNat : Int) 0#32))))))) (.br (x1.tmod 23 == 11) (.need ((x1.tmod 23 == 11) = true) (.need ((23 : Int) ≠ (0 : Int)) (.leaf (.e (.c (.w (lWord_0 (W64 (6 + x1.tmod 23)) 0 ((iShr x1 9).tmod 8) ((iShr x1 12).tmod 8) (↑(BitVec.ofInt 32 (iBits (fun x y => x &&& y) (iShr x1 15) 63) &&& 31#32).toNat : Int) 0#32))))))) (.br (x1.tmod 23 == 12) (.need ((23 : Int) ≠ (0 : Int)) (.leaf (.e (.c (.w (lWord_0 (W64 (6 + x1.tmod 23)) 0 ((iShr x1 9).tmod 8) ((iShr x1 12).tmod 8) (↑(BitVec.ofInt 32 (iBits (fun x y => x &&& y) (iShr x1 15) 63) &&& 31#32).toNat : Int) 0#32)))))) (.br (x1.tmod 23 == 13) (.need ((4 : Int) ≠ (0 : Int)) (.leaf (.e (.c (.w (lWord_0 (W64 (19 + (iShr x1 21).tmod 4)) ((iShr x1 6).tmod 8) ((iShr x1 9).tmod 8) 0 0 0#32)))))) (.br (x1.tmod 23 == 14) (.need ((2 : Int) ≠ (0 : Int)) (.leaf (.e (.c (.w (lWord_0 (W64 (23 + (iShr x1 21).tmod 2)) 0 0 ((iShr x1 12).tmod 8) 0 0#32)))))) (.br (x1.tmod 23 == 15) (.need ((4 : Int) ≠ (0 : Int)) (.leaf (.e (.c (.w (lWord_0 (W64 (40 + (iShr x1 21).tmod 4)) ((iShr x1 6).tmod 8) ((iShr x1 9).tmod 8) 0 0 (BitVec.ofInt 32 (iBits (fun x y => x &&& y) (iShr x1 15) 63) - 20#32))))))) (.br (x1.tmod 23 == 16) (.need ((3 : Int) ≠ (0 : Int)) (.leaf (.e (.c (.w (lWord_0 (W64 (44 + (iShr x1 21).tmod 3)) ((iShr x1 6).tmod 8) ((iShr x1 9).tmod 8) 0 0 (BitVec.ofInt 32 (iBits (fun x y => x &&& y) (iShr x1 15) 63)))))))) (.br (x1.tmod 23 == 17) (.leaf (.e (.c (.w (lWord_0 37 ((iShr x1 6).tmod 8) ((iShr x1 9).tmod 8) ((iShr x1 12).tmod 8) 0 0#32))))) (.br (x1.tmod 23 == 18) (.need ((2 : Int) ≠ (0 : Int)) (.leaf (.e (.c (.w (lWord_0 (W64 (14 + (iShr x1 21).tmod 2)) ((iShr x1 6).tmod 8) ((iShr x1 9).tmod 8) ((iShr x1 12).tmod 8) 0 0#32)))))) (.br (x1.tmod 23 == 19) (.need ((7 : Int) ≠ (0 : Int)) (.leaf (.e (.c (.w (lWord_0 (W64 (48 + (iShr x1 21).tmod 7)) 28 ((iShr x1 9).tmod 8) 0 0 (BitVec.ofInt 32 (iBits (fun x y => x &&& y) (iShr x1 15) 63)))))))) (.br (x1.tmod 23 == 20) (.need ((5 : Int) ≠ (0 : Int)) (.leaf (.e (.c (.w (lWord_0 (W64 (55 + (iShr x1 21).tmod 5)) 28 ((iShr x1 9).tmod 8) 0 0 (BitVec.ofInt 32 (iBits (fun x y => x &&& y) (iShr x1 15) 63)))))))) (.br (x1.tmod 23 == 21) (.need ((4 : Int) ≠ (0 : Int)) (.leaf (.e (.c (.w (lWord_0 (W64 (29 + (iShr x1 21).tmod 4)) ((iShr x1 6).tmod 8) ((iShr x1 9).tmod 8) 0 0 0#32)))))) (.need ((2 : Int) ≠ (0 : Int)) (.leaf (.e (.c (.w (lWord_0 (W64 (38 + (iShr x1 21).tmod 2)) ((iShr x1 6).tmod 8) ((iShr x1 12).tmod 8) ((iShr x1 12).tmod 8) 0 0#32))))))))))))))))))))))))))))))))))) (by kernel_rfl) (coll_sat ⟨(by decide), ⟨(by decide), ⟨(by decide), ⟨(by decide), ⟨(by decide), ⟨fun h => ⟨(by assumption), ⟨(by decide), trivial⟩⟩, fun h => ⟨fun h => ⟨(by assumption), ⟨(by decide), trivial⟩⟩, fun h => ⟨fun h => ⟨(by assumption), ⟨(by decide), trivial⟩⟩, fun h => ⟨fun h => ⟨(by assumption), ⟨(by decide), trivial⟩⟩, fun h => ⟨fun h => ⟨(by assumption), ⟨(by decide), trivial⟩⟩, fun h => ⟨fun h => ⟨(by assumption), ⟨(by decide), trivial⟩⟩, fun h => ⟨fun h => ⟨(by assumption), ⟨(by decide), trivial⟩⟩, fun h => ⟨fun h => ⟨(by assumption), ⟨(by decide), trivial⟩⟩, fun h => ⟨fun h => ⟨(by assumption), ⟨(by decide), trivial⟩⟩, fun h => ⟨fun h => ⟨(by decide), trivial⟩, fun h => ⟨fun h => ⟨(by assumption), ⟨(by decide), trivial⟩⟩, fun h => ⟨fun h => ⟨(by assumption), ⟨(by decide), trivial⟩⟩, fun h => ⟨fun h => ⟨(by decide), trivial⟩, fun h => ⟨fun h => ⟨(by decide), trivial⟩, fun h => ⟨fun h => ⟨(by decide), trivial⟩, fun h => ⟨fun h => ⟨(by decide), trivial⟩, fun h => ⟨fun h => ⟨(by decide), trivial⟩, fun h => ⟨fun h => trivial, fun h => ⟨fun h => ⟨(by decide), trivial⟩, fun h => ⟨fun h => ⟨(by decide), trivial⟩, fun h => ⟨fun h => ⟨(by decide), trivial⟩, fun h => ⟨fun h => ⟨(by decide), trivial⟩, fun h => ⟨(by decide), trivial⟩⟩⟩⟩⟩⟩⟩⟩⟩⟩⟩⟩⟩⟩⟩⟩⟩⟩⟩⟩⟩⟩⟩⟩⟩⟩⟩⟩ (by kernel_rfl))) h
  · exact h.elim⟩

end Go.Proofs.Ytchoogeojpllfaa
