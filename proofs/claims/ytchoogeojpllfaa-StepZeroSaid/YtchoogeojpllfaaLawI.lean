/- A part of the walk or of the law. -/
import Derived.Test.YtchoogeojpllfaaLawH
import Derived.Test.YtchoogeojpllfaaLawK
set_option linter.unusedVariables false
set_option linter.unusedSimpArgs false
namespace Go.Proofs.Ytchoogeojpllfaa
open Go.Sx
set_option maxHeartbeats 4000000
/-! ### Plain words, decoded -/
theorem place_lt (v n : Int) (h : 0 < n) (h2 : n ≤ 1073741824) : 0 ≤ lPlace_0 v n ∧ lPlace_0 v n < n := by
  have h3 := Int.tmod_lt_of_pos v h
  have h4 := Int.lt_tmod_of_pos v h
  unfold lPlace_0
  by_cases hc : v.tmod n < 0
  · simp only [hc, decide_true, cond_true]
    rw [W64_of (by omega) (by omega)]
    omega
  · simp only [hc, decide_false, cond_false]
    omega
/-- The number of a plain word. -/
def pN (v : Int) : Int := lPlace_0 v 1073741824
theorem pN_ok (v : Int) : 0 ≤ pN v ∧ pN v < 1073741824 := place_lt v _ (by decide) (by decide)
theorem shr_ok {x : Int} (h : 0 ≤ x) (k : Nat) : 0 ≤ iShr x k := by
  obtain ⟨n, rfl⟩ : ∃ n : Nat, x = n := ⟨x.toNat, by omega⟩
  exact Int.fdiv_nonneg h (Int.pow_nonneg (by decide))
theorem tm_ok {x m : Int} (h : 0 ≤ x) (hm : 0 < m) : 0 ≤ x.tmod m ∧ x.tmod m < m := ⟨Int.tmod_nonneg _ h, Int.tmod_lt_of_pos _ hm⟩
def pS (v : Int) : Int := (iShr (pN v) 6).tmod 8
def pT (v : Int) : Int := (iShr (pN v) 9).tmod 8
def pD (v : Int) : Int := (iShr (pN v) 12).tmod 8
def pI (v : Int) : BitVec 32 := BitVec.ofInt 32 (iBits (fun x y => x &&& y) (iShr (pN v) 15) 63)
def pA (v : Int) : Int := ((pI v &&& 31#32).toNat : Int)
theorem reg_8 {x : Int} (h : 0 ≤ x) : Reg (x.tmod 8) := by have := tm_ok h (m := 8) (by decide); unfold Reg; omega
theorem pS_ok (v : Int) : Reg (pS v) := reg_8 (shr_ok (pN_ok v).1 _)
theorem pT_ok (v : Int) : Reg (pT v) := reg_8 (shr_ok (pN_ok v).1 _)
theorem pD_ok (v : Int) : Reg (pD v) := reg_8 (shr_ok (pN_ok v).1 _)
theorem pA_ok (v : Int) : Reg (pA v) := by
  have e : (pI v &&& 31#32).toNat = (pI v).toNat % 32 := low_nat _ 31#32 5 rfl
  unfold Reg pA
  omega
theorem reg_28 : Reg 28 := by unfold Reg; decide
theorem cond_t {α : Type} {c : Bool} (h : c = true) (a b : α) : (bif c then a else b) = a := by rw [h]; rfl
theorem cond_f {α : Type} {c : Bool} (h : c = false) (a b : α) : (bif c then a else b) = b := by rw [h]; rfl
theorem trn {α : Type} {a b c : α} (h : a = b) (g : b = c) : a = c := h.trans g
def plX (n k : Int) : BitVec 32 := let x2 := (lWord_0 (W64 (1 + k)) ((iShr n 6).tmod 8) ((iShr n 9).tmod 8) ((iShr n 12).tmod 8) 0 0#32); (bif (k == 0) then x2 else (bif (k == 1) then x2 else (bif (k == 2) then x2 else (bif (k == 3) then x2 else (bif (k == 4) then x2 else (bif (k == 5) then x2 else (bif (k == 6) then x2 else (bif (k == 7) then x2 else (bif (k == 8) then x2 else (bif (k == 9) then x2 else (bif (k == 10) then (lWord_0 (W64 (6 + k)) 0 ((iShr n 9).tmod 8) ((iShr n 12).tmod 8) (↑(BitVec.ofInt 32 (iBits (fun x y => x &&& y) (iShr n 15) 63) &&& 31#32).toNat : Int) 0#32) else (bif (k == 11) then (lWord_0 (W64 (6 + k)) 0 ((iShr n 9).tmod 8) ((iShr n 12).tmod 8) (↑(BitVec.ofInt 32 (iBits (fun x y => x &&& y) (iShr n 15) 63) &&& 31#32).toNat : Int) 0#32) else (bif (k == 12) then (lWord_0 (W64 (6 + k)) 0 ((iShr n 9).tmod 8) ((iShr n 12).tmod 8) (↑(BitVec.ofInt 32 (iBits (fun x y => x &&& y) (iShr n 15) 63) &&& 31#32).toNat : Int) 0#32) else (bif (k == 13) then (lWord_0 (W64 (19 + (iShr n 21).tmod 4)) ((iShr n 6).tmod 8) ((iShr n 9).tmod 8) 0 0 0#32) else (bif (k == 14) then (lWord_0 (W64 (23 + (iShr n 21).tmod 2)) 0 0 ((iShr n 12).tmod 8) 0 0#32) else (bif (k == 15) then (lWord_0 (W64 (40 + (iShr n 21).tmod 4)) ((iShr n 6).tmod 8) ((iShr n 9).tmod 8) 0 0 (BitVec.ofInt 32 (iBits (fun x y => x &&& y) (iShr n 15) 63) - 20#32)) else (bif (k == 16) then (lWord_0 (W64 (44 + (iShr n 21).tmod 3)) ((iShr n 6).tmod 8) ((iShr n 9).tmod 8) 0 0 (BitVec.ofInt 32 (iBits (fun x y => x &&& y) (iShr n 15) 63))) else (bif (k == 17) then (lWord_0 37 ((iShr n 6).tmod 8) ((iShr n 9).tmod 8) ((iShr n 12).tmod 8) 0 0#32) else (bif (k == 18) then (lWord_0 (W64 (14 + (iShr n 21).tmod 2)) ((iShr n 6).tmod 8) ((iShr n 9).tmod 8) ((iShr n 12).tmod 8) 0 0#32) else (bif (k == 19) then (lWord_0 (W64 (48 + (iShr n 21).tmod 7)) 28 ((iShr n 9).tmod 8) 0 0 (BitVec.ofInt 32 (iBits (fun x y => x &&& y) (iShr n 15) 63))) else (bif (k == 20) then (lWord_0 (W64 (55 + (iShr n 21).tmod 5)) 28 ((iShr n 9).tmod 8) 0 0 (BitVec.ofInt 32 (iBits (fun x y => x &&& y) (iShr n 15) 63))) else (bif (k == 21) then (lWord_0 (W64 (29 + (iShr n 21).tmod 4)) ((iShr n 6).tmod 8) ((iShr n 9).tmod 8) 0 0 0#32) else (lWord_0 (W64 (38 + (iShr n 21).tmod 2)) ((iShr n 6).tmod 8) ((iShr n 12).tmod 8) ((iShr n 12).tmod 8) 0 0#32)))))))))))))))))))))))
theorem plX_eq (v : Int) : lPlain_0 v = plX (pN v) ((pN v).tmod 23) := by kernel_rfl
theorem plain0 (v : Int) (h : (pN v).tmod 23 = 0) : lPlain_0 v = enc_0 1 (pS v) (pT v) (pD v) 0 0#32 := by
  rw [plX_eq, h]
  have e : plX (pN v) 0 = lWord_0 (W64 (1 + 0)) (pS v) (pT v) (pD v) 0 0#32 := by
    delta plX
    exact cond_t rfl _ _
  have e2 : W64 (1 + 0) = 1 := by kernel_rfl
  rw [e, e2]
  rfl
theorem plain1 (v : Int) (h : (pN v).tmod 23 = 1) : lPlain_0 v = enc_0 2 (pS v) (pT v) (pD v) 0 0#32 := by
  rw [plX_eq, h]
  have e : plX (pN v) 1 = lWord_0 (W64 (1 + 1)) (pS v) (pT v) (pD v) 0 0#32 := by
    delta plX
    exact trn (cond_f rfl _ _) (cond_t rfl _ _)
  have e2 : W64 (1 + 1) = 2 := by kernel_rfl
  rw [e, e2]
  rfl
theorem plain2 (v : Int) (h : (pN v).tmod 23 = 2) : lPlain_0 v = enc_0 3 (pS v) (pT v) (pD v) 0 0#32 := by
  rw [plX_eq, h]
  have e : plX (pN v) 2 = lWord_0 (W64 (1 + 2)) (pS v) (pT v) (pD v) 0 0#32 := by
    delta plX
    exact trn (cond_f rfl _ _) (trn (cond_f rfl _ _) (cond_t rfl _ _))
  have e2 : W64 (1 + 2) = 3 := by kernel_rfl
  rw [e, e2]
  rfl
theorem plain3 (v : Int) (h : (pN v).tmod 23 = 3) : lPlain_0 v = enc_0 4 (pS v) (pT v) (pD v) 0 0#32 := by
  rw [plX_eq, h]
  have e : plX (pN v) 3 = lWord_0 (W64 (1 + 3)) (pS v) (pT v) (pD v) 0 0#32 := by
    delta plX
    exact trn (cond_f rfl _ _) (trn (cond_f rfl _ _) (trn (cond_f rfl _ _) (cond_t rfl _ _)))
  have e2 : W64 (1 + 3) = 4 := by kernel_rfl
  rw [e, e2]
  rfl
theorem plain4 (v : Int) (h : (pN v).tmod 23 = 4) : lPlain_0 v = enc_0 5 (pS v) (pT v) (pD v) 0 0#32 := by
  rw [plX_eq, h]
  have e : plX (pN v) 4 = lWord_0 (W64 (1 + 4)) (pS v) (pT v) (pD v) 0 0#32 := by
    delta plX
    exact trn (cond_f rfl _ _) (trn (cond_f rfl _ _) (trn (cond_f rfl _ _) (trn (cond_f rfl _ _) (cond_t rfl _ _))))
  have e2 : W64 (1 + 4) = 5 := by kernel_rfl
  rw [e, e2]
  rfl
theorem plain5 (v : Int) (h : (pN v).tmod 23 = 5) : lPlain_0 v = enc_0 6 (pS v) (pT v) (pD v) 0 0#32 := by
  rw [plX_eq, h]
  have e : plX (pN v) 5 = lWord_0 (W64 (1 + 5)) (pS v) (pT v) (pD v) 0 0#32 := by
    delta plX
    exact trn (cond_f rfl _ _) (trn (cond_f rfl _ _) (trn (cond_f rfl _ _) (trn (cond_f rfl _ _) (trn (cond_f rfl _ _) (cond_t rfl _ _)))))
  have e2 : W64 (1 + 5) = 6 := by kernel_rfl
  rw [e, e2]
  rfl
theorem plain6 (v : Int) (h : (pN v).tmod 23 = 6) : lPlain_0 v = enc_0 7 (pS v) (pT v) (pD v) 0 0#32 := by
  rw [plX_eq, h]
  have e : plX (pN v) 6 = lWord_0 (W64 (1 + 6)) (pS v) (pT v) (pD v) 0 0#32 := by
    delta plX
    exact trn (cond_f rfl _ _) (trn (cond_f rfl _ _) (trn (cond_f rfl _ _) (trn (cond_f rfl _ _) (trn (cond_f rfl _ _) (trn (cond_f rfl _ _) (cond_t rfl _ _))))))
  have e2 : W64 (1 + 6) = 7 := by kernel_rfl
  rw [e, e2]
  rfl
theorem plain7 (v : Int) (h : (pN v).tmod 23 = 7) : lPlain_0 v = enc_0 8 (pS v) (pT v) (pD v) 0 0#32 := by
  rw [plX_eq, h]
  have e : plX (pN v) 7 = lWord_0 (W64 (1 + 7)) (pS v) (pT v) (pD v) 0 0#32 := by
    delta plX
    exact trn (cond_f rfl _ _) (trn (cond_f rfl _ _) (trn (cond_f rfl _ _) (trn (cond_f rfl _ _) (trn (cond_f rfl _ _) (trn (cond_f rfl _ _) (trn (cond_f rfl _ _) (cond_t rfl _ _)))))))
  have e2 : W64 (1 + 7) = 8 := by kernel_rfl
  rw [e, e2]
  rfl
theorem plain8 (v : Int) (h : (pN v).tmod 23 = 8) : lPlain_0 v = enc_0 9 (pS v) (pT v) (pD v) 0 0#32 := by
  rw [plX_eq, h]
  have e : plX (pN v) 8 = lWord_0 (W64 (1 + 8)) (pS v) (pT v) (pD v) 0 0#32 := by
    delta plX
    exact trn (cond_f rfl _ _) (trn (cond_f rfl _ _) (trn (cond_f rfl _ _) (trn (cond_f rfl _ _) (trn (cond_f rfl _ _) (trn (cond_f rfl _ _) (trn (cond_f rfl _ _) (trn (cond_f rfl _ _) (cond_t rfl _ _))))))))
  have e2 : W64 (1 + 8) = 9 := by kernel_rfl
  rw [e, e2]
  rfl
theorem plain9 (v : Int) (h : (pN v).tmod 23 = 9) : lPlain_0 v = enc_0 10 (pS v) (pT v) (pD v) 0 0#32 := by
  rw [plX_eq, h]
  have e : plX (pN v) 9 = lWord_0 (W64 (1 + 9)) (pS v) (pT v) (pD v) 0 0#32 := by
    delta plX
    exact trn (cond_f rfl _ _) (trn (cond_f rfl _ _) (trn (cond_f rfl _ _) (trn (cond_f rfl _ _) (trn (cond_f rfl _ _) (trn (cond_f rfl _ _) (trn (cond_f rfl _ _) (trn (cond_f rfl _ _) (trn (cond_f rfl _ _) (cond_t rfl _ _)))))))))
  have e2 : W64 (1 + 9) = 10 := by kernel_rfl
  rw [e, e2]
  rfl
theorem plain10 (v : Int) (h : (pN v).tmod 23 = 10) : lPlain_0 v = enc_0 16 0 (pT v) (pD v) (pA v) 0#32 := by
  rw [plX_eq, h]
  have e : plX (pN v) 10 = lWord_0 (W64 (6 + 10)) 0 (pT v) (pD v) (pA v) 0#32 := by
    delta plX
    exact trn (cond_f rfl _ _) (trn (cond_f rfl _ _) (trn (cond_f rfl _ _) (trn (cond_f rfl _ _) (trn (cond_f rfl _ _) (trn (cond_f rfl _ _) (trn (cond_f rfl _ _) (trn (cond_f rfl _ _) (trn (cond_f rfl _ _) (trn (cond_f rfl _ _) (cond_t rfl _ _))))))))))
  have e2 : W64 (6 + 10) = 16 := by kernel_rfl
  rw [e, e2]
  rfl
theorem plain11 (v : Int) (h : (pN v).tmod 23 = 11) : lPlain_0 v = enc_0 17 0 (pT v) (pD v) (pA v) 0#32 := by
  rw [plX_eq, h]
  have e : plX (pN v) 11 = lWord_0 (W64 (6 + 11)) 0 (pT v) (pD v) (pA v) 0#32 := by
    delta plX
    exact trn (cond_f rfl _ _) (trn (cond_f rfl _ _) (trn (cond_f rfl _ _) (trn (cond_f rfl _ _) (trn (cond_f rfl _ _) (trn (cond_f rfl _ _) (trn (cond_f rfl _ _) (trn (cond_f rfl _ _) (trn (cond_f rfl _ _) (trn (cond_f rfl _ _) (trn (cond_f rfl _ _) (cond_t rfl _ _)))))))))))
  have e2 : W64 (6 + 11) = 17 := by kernel_rfl
  rw [e, e2]
  rfl
theorem plain12 (v : Int) (h : (pN v).tmod 23 = 12) : lPlain_0 v = enc_0 18 0 (pT v) (pD v) (pA v) 0#32 := by
  rw [plX_eq, h]
  have e : plX (pN v) 12 = lWord_0 (W64 (6 + 12)) 0 (pT v) (pD v) (pA v) 0#32 := by
    delta plX
    exact trn (cond_f rfl _ _) (trn (cond_f rfl _ _) (trn (cond_f rfl _ _) (trn (cond_f rfl _ _) (trn (cond_f rfl _ _) (trn (cond_f rfl _ _) (trn (cond_f rfl _ _) (trn (cond_f rfl _ _) (trn (cond_f rfl _ _) (trn (cond_f rfl _ _) (trn (cond_f rfl _ _) (trn (cond_f rfl _ _) (cond_t rfl _ _))))))))))))
  have e2 : W64 (6 + 12) = 18 := by kernel_rfl
  rw [e, e2]
  rfl
theorem plain13_0 (v : Int) (h : (pN v).tmod 23 = 13) (h2 : (iShr (pN v) 21).tmod 4 = 0) : lPlain_0 v = enc_0 19 (pS v) (pT v) 0 0 0#32 := by
  rw [plX_eq, h]
  have e : plX (pN v) 13 = lWord_0 (W64 (19 + (iShr (pN v) 21).tmod 4)) (pS v) (pT v) 0 0 0#32 := by
    delta plX
    exact trn (cond_f rfl _ _) (trn (cond_f rfl _ _) (trn (cond_f rfl _ _) (trn (cond_f rfl _ _) (trn (cond_f rfl _ _) (trn (cond_f rfl _ _) (trn (cond_f rfl _ _) (trn (cond_f rfl _ _) (trn (cond_f rfl _ _) (trn (cond_f rfl _ _) (trn (cond_f rfl _ _) (trn (cond_f rfl _ _) (trn (cond_f rfl _ _) (cond_t rfl _ _)))))))))))))
  have e2 : W64 (19 + 0) = 19 := by kernel_rfl
  rw [e, h2, e2]
  rfl
theorem plain13_1 (v : Int) (h : (pN v).tmod 23 = 13) (h2 : (iShr (pN v) 21).tmod 4 = 1) : lPlain_0 v = enc_0 20 (pS v) (pT v) 0 0 0#32 := by
  rw [plX_eq, h]
  have e : plX (pN v) 13 = lWord_0 (W64 (19 + (iShr (pN v) 21).tmod 4)) (pS v) (pT v) 0 0 0#32 := by
    delta plX
    exact trn (cond_f rfl _ _) (trn (cond_f rfl _ _) (trn (cond_f rfl _ _) (trn (cond_f rfl _ _) (trn (cond_f rfl _ _) (trn (cond_f rfl _ _) (trn (cond_f rfl _ _) (trn (cond_f rfl _ _) (trn (cond_f rfl _ _) (trn (cond_f rfl _ _) (trn (cond_f rfl _ _) (trn (cond_f rfl _ _) (trn (cond_f rfl _ _) (cond_t rfl _ _)))))))))))))
  have e2 : W64 (19 + 1) = 20 := by kernel_rfl
  rw [e, h2, e2]
  rfl
theorem plain13_2 (v : Int) (h : (pN v).tmod 23 = 13) (h2 : (iShr (pN v) 21).tmod 4 = 2) : lPlain_0 v = enc_0 21 (pS v) (pT v) 0 0 0#32 := by
  rw [plX_eq, h]
  have e : plX (pN v) 13 = lWord_0 (W64 (19 + (iShr (pN v) 21).tmod 4)) (pS v) (pT v) 0 0 0#32 := by
    delta plX
    exact trn (cond_f rfl _ _) (trn (cond_f rfl _ _) (trn (cond_f rfl _ _) (trn (cond_f rfl _ _) (trn (cond_f rfl _ _) (trn (cond_f rfl _ _) (trn (cond_f rfl _ _) (trn (cond_f rfl _ _) (trn (cond_f rfl _ _) (trn (cond_f rfl _ _) (trn (cond_f rfl _ _) (trn (cond_f rfl _ _) (trn (cond_f rfl _ _) (cond_t rfl _ _)))))))))))))
  have e2 : W64 (19 + 2) = 21 := by kernel_rfl
  rw [e, h2, e2]
  rfl
theorem plain13_3 (v : Int) (h : (pN v).tmod 23 = 13) (h2 : (iShr (pN v) 21).tmod 4 = 3) : lPlain_0 v = enc_0 22 (pS v) (pT v) 0 0 0#32 := by
  rw [plX_eq, h]
  have e : plX (pN v) 13 = lWord_0 (W64 (19 + (iShr (pN v) 21).tmod 4)) (pS v) (pT v) 0 0 0#32 := by
    delta plX
    exact trn (cond_f rfl _ _) (trn (cond_f rfl _ _) (trn (cond_f rfl _ _) (trn (cond_f rfl _ _) (trn (cond_f rfl _ _) (trn (cond_f rfl _ _) (trn (cond_f rfl _ _) (trn (cond_f rfl _ _) (trn (cond_f rfl _ _) (trn (cond_f rfl _ _) (trn (cond_f rfl _ _) (trn (cond_f rfl _ _) (trn (cond_f rfl _ _) (cond_t rfl _ _)))))))))))))
  have e2 : W64 (19 + 3) = 22 := by kernel_rfl
  rw [e, h2, e2]
  rfl
theorem plain14_0 (v : Int) (h : (pN v).tmod 23 = 14) (h2 : (iShr (pN v) 21).tmod 2 = 0) : lPlain_0 v = enc_0 23 0 0 (pD v) 0 0#32 := by
  rw [plX_eq, h]
  have e : plX (pN v) 14 = lWord_0 (W64 (23 + (iShr (pN v) 21).tmod 2)) 0 0 (pD v) 0 0#32 := by
    delta plX
    exact trn (cond_f rfl _ _) (trn (cond_f rfl _ _) (trn (cond_f rfl _ _) (trn (cond_f rfl _ _) (trn (cond_f rfl _ _) (trn (cond_f rfl _ _) (trn (cond_f rfl _ _) (trn (cond_f rfl _ _) (trn (cond_f rfl _ _) (trn (cond_f rfl _ _) (trn (cond_f rfl _ _) (trn (cond_f rfl _ _) (trn (cond_f rfl _ _) (trn (cond_f rfl _ _) (cond_t rfl _ _))))))))))))))
  have e2 : W64 (23 + 0) = 23 := by kernel_rfl
  rw [e, h2, e2]
  rfl
theorem plain14_1 (v : Int) (h : (pN v).tmod 23 = 14) (h2 : (iShr (pN v) 21).tmod 2 = 1) : lPlain_0 v = enc_0 24 0 0 (pD v) 0 0#32 := by
  rw [plX_eq, h]
  have e : plX (pN v) 14 = lWord_0 (W64 (23 + (iShr (pN v) 21).tmod 2)) 0 0 (pD v) 0 0#32 := by
    delta plX
    exact trn (cond_f rfl _ _) (trn (cond_f rfl _ _) (trn (cond_f rfl _ _) (trn (cond_f rfl _ _) (trn (cond_f rfl _ _) (trn (cond_f rfl _ _) (trn (cond_f rfl _ _) (trn (cond_f rfl _ _) (trn (cond_f rfl _ _) (trn (cond_f rfl _ _) (trn (cond_f rfl _ _) (trn (cond_f rfl _ _) (trn (cond_f rfl _ _) (trn (cond_f rfl _ _) (cond_t rfl _ _))))))))))))))
  have e2 : W64 (23 + 1) = 24 := by kernel_rfl
  rw [e, h2, e2]
  rfl
theorem plain15_0 (v : Int) (h : (pN v).tmod 23 = 15) (h2 : (iShr (pN v) 21).tmod 4 = 0) : lPlain_0 v = enc_0 40 (pS v) (pT v) 0 0 (pI v - 20#32) := by
  rw [plX_eq, h]
  have e : plX (pN v) 15 = lWord_0 (W64 (40 + (iShr (pN v) 21).tmod 4)) (pS v) (pT v) 0 0 (pI v - 20#32) := by
    delta plX
    exact trn (cond_f rfl _ _) (trn (cond_f rfl _ _) (trn (cond_f rfl _ _) (trn (cond_f rfl _ _) (trn (cond_f rfl _ _) (trn (cond_f rfl _ _) (trn (cond_f rfl _ _) (trn (cond_f rfl _ _) (trn (cond_f rfl _ _) (trn (cond_f rfl _ _) (trn (cond_f rfl _ _) (trn (cond_f rfl _ _) (trn (cond_f rfl _ _) (trn (cond_f rfl _ _) (trn (cond_f rfl _ _) (cond_t rfl _ _)))))))))))))))
  have e2 : W64 (40 + 0) = 40 := by kernel_rfl
  rw [e, h2, e2]
  rfl
theorem plain15_1 (v : Int) (h : (pN v).tmod 23 = 15) (h2 : (iShr (pN v) 21).tmod 4 = 1) : lPlain_0 v = enc_0 41 (pS v) (pT v) 0 0 (pI v - 20#32) := by
  rw [plX_eq, h]
  have e : plX (pN v) 15 = lWord_0 (W64 (40 + (iShr (pN v) 21).tmod 4)) (pS v) (pT v) 0 0 (pI v - 20#32) := by
    delta plX
    exact trn (cond_f rfl _ _) (trn (cond_f rfl _ _) (trn (cond_f rfl _ _) (trn (cond_f rfl _ _) (trn (cond_f rfl _ _) (trn (cond_f rfl _ _) (trn (cond_f rfl _ _) (trn (cond_f rfl _ _) (trn (cond_f rfl _ _) (trn (cond_f rfl _ _) (trn (cond_f rfl _ _) (trn (cond_f rfl _ _) (trn (cond_f rfl _ _) (trn (cond_f rfl _ _) (trn (cond_f rfl _ _) (cond_t rfl _ _)))))))))))))))
  have e2 : W64 (40 + 1) = 41 := by kernel_rfl
  rw [e, h2, e2]
  rfl
theorem plain15_2 (v : Int) (h : (pN v).tmod 23 = 15) (h2 : (iShr (pN v) 21).tmod 4 = 2) : lPlain_0 v = enc_0 42 (pS v) (pT v) 0 0 (pI v - 20#32) := by
  rw [plX_eq, h]
  have e : plX (pN v) 15 = lWord_0 (W64 (40 + (iShr (pN v) 21).tmod 4)) (pS v) (pT v) 0 0 (pI v - 20#32) := by
    delta plX
    exact trn (cond_f rfl _ _) (trn (cond_f rfl _ _) (trn (cond_f rfl _ _) (trn (cond_f rfl _ _) (trn (cond_f rfl _ _) (trn (cond_f rfl _ _) (trn (cond_f rfl _ _) (trn (cond_f rfl _ _) (trn (cond_f rfl _ _) (trn (cond_f rfl _ _) (trn (cond_f rfl _ _) (trn (cond_f rfl _ _) (trn (cond_f rfl _ _) (trn (cond_f rfl _ _) (trn (cond_f rfl _ _) (cond_t rfl _ _)))))))))))))))
  have e2 : W64 (40 + 2) = 42 := by kernel_rfl
  rw [e, h2, e2]
  rfl
theorem plain15_3 (v : Int) (h : (pN v).tmod 23 = 15) (h2 : (iShr (pN v) 21).tmod 4 = 3) : lPlain_0 v = enc_0 43 (pS v) (pT v) 0 0 (pI v - 20#32) := by
  rw [plX_eq, h]
  have e : plX (pN v) 15 = lWord_0 (W64 (40 + (iShr (pN v) 21).tmod 4)) (pS v) (pT v) 0 0 (pI v - 20#32) := by
    delta plX
    exact trn (cond_f rfl _ _) (trn (cond_f rfl _ _) (trn (cond_f rfl _ _) (trn (cond_f rfl _ _) (trn (cond_f rfl _ _) (trn (cond_f rfl _ _) (trn (cond_f rfl _ _) (trn (cond_f rfl _ _) (trn (cond_f rfl _ _) (trn (cond_f rfl _ _) (trn (cond_f rfl _ _) (trn (cond_f rfl _ _) (trn (cond_f rfl _ _) (trn (cond_f rfl _ _) (trn (cond_f rfl _ _) (cond_t rfl _ _)))))))))))))))
  have e2 : W64 (40 + 3) = 43 := by kernel_rfl
  rw [e, h2, e2]
  rfl
theorem plain16_0 (v : Int) (h : (pN v).tmod 23 = 16) (h2 : (iShr (pN v) 21).tmod 3 = 0) : lPlain_0 v = enc_0 44 (pS v) (pT v) 0 0 (pI v) := by
  rw [plX_eq, h]
  have e : plX (pN v) 16 = lWord_0 (W64 (44 + (iShr (pN v) 21).tmod 3)) (pS v) (pT v) 0 0 (pI v) := by
    delta plX
    exact trn (cond_f rfl _ _) (trn (cond_f rfl _ _) (trn (cond_f rfl _ _) (trn (cond_f rfl _ _) (trn (cond_f rfl _ _) (trn (cond_f rfl _ _) (trn (cond_f rfl _ _) (trn (cond_f rfl _ _) (trn (cond_f rfl _ _) (trn (cond_f rfl _ _) (trn (cond_f rfl _ _) (trn (cond_f rfl _ _) (trn (cond_f rfl _ _) (trn (cond_f rfl _ _) (trn (cond_f rfl _ _) (trn (cond_f rfl _ _) (cond_t rfl _ _))))))))))))))))
  have e2 : W64 (44 + 0) = 44 := by kernel_rfl
  rw [e, h2, e2]
  rfl
theorem plain16_1 (v : Int) (h : (pN v).tmod 23 = 16) (h2 : (iShr (pN v) 21).tmod 3 = 1) : lPlain_0 v = enc_0 45 (pS v) (pT v) 0 0 (pI v) := by
  rw [plX_eq, h]
  have e : plX (pN v) 16 = lWord_0 (W64 (44 + (iShr (pN v) 21).tmod 3)) (pS v) (pT v) 0 0 (pI v) := by
    delta plX
    exact trn (cond_f rfl _ _) (trn (cond_f rfl _ _) (trn (cond_f rfl _ _) (trn (cond_f rfl _ _) (trn (cond_f rfl _ _) (trn (cond_f rfl _ _) (trn (cond_f rfl _ _) (trn (cond_f rfl _ _) (trn (cond_f rfl _ _) (trn (cond_f rfl _ _) (trn (cond_f rfl _ _) (trn (cond_f rfl _ _) (trn (cond_f rfl _ _) (trn (cond_f rfl _ _) (trn (cond_f rfl _ _) (trn (cond_f rfl _ _) (cond_t rfl _ _))))))))))))))))
  have e2 : W64 (44 + 1) = 45 := by kernel_rfl
  rw [e, h2, e2]
  rfl
theorem plain16_2 (v : Int) (h : (pN v).tmod 23 = 16) (h2 : (iShr (pN v) 21).tmod 3 = 2) : lPlain_0 v = enc_0 46 (pS v) (pT v) 0 0 (pI v) := by
  rw [plX_eq, h]
  have e : plX (pN v) 16 = lWord_0 (W64 (44 + (iShr (pN v) 21).tmod 3)) (pS v) (pT v) 0 0 (pI v) := by
    delta plX
    exact trn (cond_f rfl _ _) (trn (cond_f rfl _ _) (trn (cond_f rfl _ _) (trn (cond_f rfl _ _) (trn (cond_f rfl _ _) (trn (cond_f rfl _ _) (trn (cond_f rfl _ _) (trn (cond_f rfl _ _) (trn (cond_f rfl _ _) (trn (cond_f rfl _ _) (trn (cond_f rfl _ _) (trn (cond_f rfl _ _) (trn (cond_f rfl _ _) (trn (cond_f rfl _ _) (trn (cond_f rfl _ _) (trn (cond_f rfl _ _) (cond_t rfl _ _))))))))))))))))
  have e2 : W64 (44 + 2) = 46 := by kernel_rfl
  rw [e, h2, e2]
  rfl
theorem plain17 (v : Int) (h : (pN v).tmod 23 = 17) : lPlain_0 v = enc_0 37 (pS v) (pT v) (pD v) 0 0#32 := by
  rw [plX_eq, h]
  have e : plX (pN v) 17 = lWord_0 (37) (pS v) (pT v) (pD v) 0 0#32 := by
    delta plX
    exact trn (cond_f rfl _ _) (trn (cond_f rfl _ _) (trn (cond_f rfl _ _) (trn (cond_f rfl _ _) (trn (cond_f rfl _ _) (trn (cond_f rfl _ _) (trn (cond_f rfl _ _) (trn (cond_f rfl _ _) (trn (cond_f rfl _ _) (trn (cond_f rfl _ _) (trn (cond_f rfl _ _) (trn (cond_f rfl _ _) (trn (cond_f rfl _ _) (trn (cond_f rfl _ _) (trn (cond_f rfl _ _) (trn (cond_f rfl _ _) (trn (cond_f rfl _ _) (cond_t rfl _ _)))))))))))))))))
  rw [e]
  rfl
theorem plain18_0 (v : Int) (h : (pN v).tmod 23 = 18) (h2 : (iShr (pN v) 21).tmod 2 = 0) : lPlain_0 v = enc_0 14 (pS v) (pT v) (pD v) 0 0#32 := by
  rw [plX_eq, h]
  have e : plX (pN v) 18 = lWord_0 (W64 (14 + (iShr (pN v) 21).tmod 2)) (pS v) (pT v) (pD v) 0 0#32 := by
    delta plX
    exact trn (cond_f rfl _ _) (trn (cond_f rfl _ _) (trn (cond_f rfl _ _) (trn (cond_f rfl _ _) (trn (cond_f rfl _ _) (trn (cond_f rfl _ _) (trn (cond_f rfl _ _) (trn (cond_f rfl _ _) (trn (cond_f rfl _ _) (trn (cond_f rfl _ _) (trn (cond_f rfl _ _) (trn (cond_f rfl _ _) (trn (cond_f rfl _ _) (trn (cond_f rfl _ _) (trn (cond_f rfl _ _) (trn (cond_f rfl _ _) (trn (cond_f rfl _ _) (trn (cond_f rfl _ _) (cond_t rfl _ _))))))))))))))))))
  have e2 : W64 (14 + 0) = 14 := by kernel_rfl
  rw [e, h2, e2]
  rfl
theorem plain18_1 (v : Int) (h : (pN v).tmod 23 = 18) (h2 : (iShr (pN v) 21).tmod 2 = 1) : lPlain_0 v = enc_0 15 (pS v) (pT v) (pD v) 0 0#32 := by
  rw [plX_eq, h]
  have e : plX (pN v) 18 = lWord_0 (W64 (14 + (iShr (pN v) 21).tmod 2)) (pS v) (pT v) (pD v) 0 0#32 := by
    delta plX
    exact trn (cond_f rfl _ _) (trn (cond_f rfl _ _) (trn (cond_f rfl _ _) (trn (cond_f rfl _ _) (trn (cond_f rfl _ _) (trn (cond_f rfl _ _) (trn (cond_f rfl _ _) (trn (cond_f rfl _ _) (trn (cond_f rfl _ _) (trn (cond_f rfl _ _) (trn (cond_f rfl _ _) (trn (cond_f rfl _ _) (trn (cond_f rfl _ _) (trn (cond_f rfl _ _) (trn (cond_f rfl _ _) (trn (cond_f rfl _ _) (trn (cond_f rfl _ _) (trn (cond_f rfl _ _) (cond_t rfl _ _))))))))))))))))))
  have e2 : W64 (14 + 1) = 15 := by kernel_rfl
  rw [e, h2, e2]
  rfl
theorem plain19_0 (v : Int) (h : (pN v).tmod 23 = 19) (h2 : (iShr (pN v) 21).tmod 7 = 0) : lPlain_0 v = enc_0 48 28 (pT v) 0 0 (pI v) := by
  rw [plX_eq, h]
  have e : plX (pN v) 19 = lWord_0 (W64 (48 + (iShr (pN v) 21).tmod 7)) 28 (pT v) 0 0 (pI v) := by
    delta plX
    exact trn (cond_f rfl _ _) (trn (cond_f rfl _ _) (trn (cond_f rfl _ _) (trn (cond_f rfl _ _) (trn (cond_f rfl _ _) (trn (cond_f rfl _ _) (trn (cond_f rfl _ _) (trn (cond_f rfl _ _) (trn (cond_f rfl _ _) (trn (cond_f rfl _ _) (trn (cond_f rfl _ _) (trn (cond_f rfl _ _) (trn (cond_f rfl _ _) (trn (cond_f rfl _ _) (trn (cond_f rfl _ _) (trn (cond_f rfl _ _) (trn (cond_f rfl _ _) (trn (cond_f rfl _ _) (trn (cond_f rfl _ _) (cond_t rfl _ _)))))))))))))))))))
  have e2 : W64 (48 + 0) = 48 := by kernel_rfl
  rw [e, h2, e2]
  rfl
theorem plain19_1 (v : Int) (h : (pN v).tmod 23 = 19) (h2 : (iShr (pN v) 21).tmod 7 = 1) : lPlain_0 v = enc_0 49 28 (pT v) 0 0 (pI v) := by
  rw [plX_eq, h]
  have e : plX (pN v) 19 = lWord_0 (W64 (48 + (iShr (pN v) 21).tmod 7)) 28 (pT v) 0 0 (pI v) := by
    delta plX
    exact trn (cond_f rfl _ _) (trn (cond_f rfl _ _) (trn (cond_f rfl _ _) (trn (cond_f rfl _ _) (trn (cond_f rfl _ _) (trn (cond_f rfl _ _) (trn (cond_f rfl _ _) (trn (cond_f rfl _ _) (trn (cond_f rfl _ _) (trn (cond_f rfl _ _) (trn (cond_f rfl _ _) (trn (cond_f rfl _ _) (trn (cond_f rfl _ _) (trn (cond_f rfl _ _) (trn (cond_f rfl _ _) (trn (cond_f rfl _ _) (trn (cond_f rfl _ _) (trn (cond_f rfl _ _) (trn (cond_f rfl _ _) (cond_t rfl _ _)))))))))))))))))))
  have e2 : W64 (48 + 1) = 49 := by kernel_rfl
  rw [e, h2, e2]
  rfl
theorem plain19_2 (v : Int) (h : (pN v).tmod 23 = 19) (h2 : (iShr (pN v) 21).tmod 7 = 2) : lPlain_0 v = enc_0 50 28 (pT v) 0 0 (pI v) := by
  rw [plX_eq, h]
  have e : plX (pN v) 19 = lWord_0 (W64 (48 + (iShr (pN v) 21).tmod 7)) 28 (pT v) 0 0 (pI v) := by
    delta plX
    exact trn (cond_f rfl _ _) (trn (cond_f rfl _ _) (trn (cond_f rfl _ _) (trn (cond_f rfl _ _) (trn (cond_f rfl _ _) (trn (cond_f rfl _ _) (trn (cond_f rfl _ _) (trn (cond_f rfl _ _) (trn (cond_f rfl _ _) (trn (cond_f rfl _ _) (trn (cond_f rfl _ _) (trn (cond_f rfl _ _) (trn (cond_f rfl _ _) (trn (cond_f rfl _ _) (trn (cond_f rfl _ _) (trn (cond_f rfl _ _) (trn (cond_f rfl _ _) (trn (cond_f rfl _ _) (trn (cond_f rfl _ _) (cond_t rfl _ _)))))))))))))))))))
  have e2 : W64 (48 + 2) = 50 := by kernel_rfl
  rw [e, h2, e2]
  rfl
theorem plain19_3 (v : Int) (h : (pN v).tmod 23 = 19) (h2 : (iShr (pN v) 21).tmod 7 = 3) : lPlain_0 v = enc_0 51 28 (pT v) 0 0 (pI v) := by
  rw [plX_eq, h]
  have e : plX (pN v) 19 = lWord_0 (W64 (48 + (iShr (pN v) 21).tmod 7)) 28 (pT v) 0 0 (pI v) := by
    delta plX
    exact trn (cond_f rfl _ _) (trn (cond_f rfl _ _) (trn (cond_f rfl _ _) (trn (cond_f rfl _ _) (trn (cond_f rfl _ _) (trn (cond_f rfl _ _) (trn (cond_f rfl _ _) (trn (cond_f rfl _ _) (trn (cond_f rfl _ _) (trn (cond_f rfl _ _) (trn (cond_f rfl _ _) (trn (cond_f rfl _ _) (trn (cond_f rfl _ _) (trn (cond_f rfl _ _) (trn (cond_f rfl _ _) (trn (cond_f rfl _ _) (trn (cond_f rfl _ _) (trn (cond_f rfl _ _) (trn (cond_f rfl _ _) (cond_t rfl _ _)))))))))))))))))))
  have e2 : W64 (48 + 3) = 51 := by kernel_rfl
  rw [e, h2, e2]
  rfl
theorem plain19_4 (v : Int) (h : (pN v).tmod 23 = 19) (h2 : (iShr (pN v) 21).tmod 7 = 4) : lPlain_0 v = enc_0 52 28 (pT v) 0 0 (pI v) := by
  rw [plX_eq, h]
  have e : plX (pN v) 19 = lWord_0 (W64 (48 + (iShr (pN v) 21).tmod 7)) 28 (pT v) 0 0 (pI v) := by
    delta plX
    exact trn (cond_f rfl _ _) (trn (cond_f rfl _ _) (trn (cond_f rfl _ _) (trn (cond_f rfl _ _) (trn (cond_f rfl _ _) (trn (cond_f rfl _ _) (trn (cond_f rfl _ _) (trn (cond_f rfl _ _) (trn (cond_f rfl _ _) (trn (cond_f rfl _ _) (trn (cond_f rfl _ _) (trn (cond_f rfl _ _) (trn (cond_f rfl _ _) (trn (cond_f rfl _ _) (trn (cond_f rfl _ _) (trn (cond_f rfl _ _) (trn (cond_f rfl _ _) (trn (cond_f rfl _ _) (trn (cond_f rfl _ _) (cond_t rfl _ _)))))))))))))))))))
  have e2 : W64 (48 + 4) = 52 := by kernel_rfl
  rw [e, h2, e2]
  rfl
theorem plain19_5 (v : Int) (h : (pN v).tmod 23 = 19) (h2 : (iShr (pN v) 21).tmod 7 = 5) : lPlain_0 v = enc_0 53 28 (pT v) 0 0 (pI v) := by
  rw [plX_eq, h]
  have e : plX (pN v) 19 = lWord_0 (W64 (48 + (iShr (pN v) 21).tmod 7)) 28 (pT v) 0 0 (pI v) := by
    delta plX
    exact trn (cond_f rfl _ _) (trn (cond_f rfl _ _) (trn (cond_f rfl _ _) (trn (cond_f rfl _ _) (trn (cond_f rfl _ _) (trn (cond_f rfl _ _) (trn (cond_f rfl _ _) (trn (cond_f rfl _ _) (trn (cond_f rfl _ _) (trn (cond_f rfl _ _) (trn (cond_f rfl _ _) (trn (cond_f rfl _ _) (trn (cond_f rfl _ _) (trn (cond_f rfl _ _) (trn (cond_f rfl _ _) (trn (cond_f rfl _ _) (trn (cond_f rfl _ _) (trn (cond_f rfl _ _) (trn (cond_f rfl _ _) (cond_t rfl _ _)))))))))))))))))))
  have e2 : W64 (48 + 5) = 53 := by kernel_rfl
  rw [e, h2, e2]
  rfl
theorem plain19_6 (v : Int) (h : (pN v).tmod 23 = 19) (h2 : (iShr (pN v) 21).tmod 7 = 6) : lPlain_0 v = enc_0 54 28 (pT v) 0 0 (pI v) := by
  rw [plX_eq, h]
  have e : plX (pN v) 19 = lWord_0 (W64 (48 + (iShr (pN v) 21).tmod 7)) 28 (pT v) 0 0 (pI v) := by
    delta plX
    exact trn (cond_f rfl _ _) (trn (cond_f rfl _ _) (trn (cond_f rfl _ _) (trn (cond_f rfl _ _) (trn (cond_f rfl _ _) (trn (cond_f rfl _ _) (trn (cond_f rfl _ _) (trn (cond_f rfl _ _) (trn (cond_f rfl _ _) (trn (cond_f rfl _ _) (trn (cond_f rfl _ _) (trn (cond_f rfl _ _) (trn (cond_f rfl _ _) (trn (cond_f rfl _ _) (trn (cond_f rfl _ _) (trn (cond_f rfl _ _) (trn (cond_f rfl _ _) (trn (cond_f rfl _ _) (trn (cond_f rfl _ _) (cond_t rfl _ _)))))))))))))))))))
  have e2 : W64 (48 + 6) = 54 := by kernel_rfl
  rw [e, h2, e2]
  rfl
theorem plain20_0 (v : Int) (h : (pN v).tmod 23 = 20) (h2 : (iShr (pN v) 21).tmod 5 = 0) : lPlain_0 v = enc_0 55 28 (pT v) 0 0 (pI v) := by
  rw [plX_eq, h]
  have e : plX (pN v) 20 = lWord_0 (W64 (55 + (iShr (pN v) 21).tmod 5)) 28 (pT v) 0 0 (pI v) := by
    delta plX
    exact trn (cond_f rfl _ _) (trn (cond_f rfl _ _) (trn (cond_f rfl _ _) (trn (cond_f rfl _ _) (trn (cond_f rfl _ _) (trn (cond_f rfl _ _) (trn (cond_f rfl _ _) (trn (cond_f rfl _ _) (trn (cond_f rfl _ _) (trn (cond_f rfl _ _) (trn (cond_f rfl _ _) (trn (cond_f rfl _ _) (trn (cond_f rfl _ _) (trn (cond_f rfl _ _) (trn (cond_f rfl _ _) (trn (cond_f rfl _ _) (trn (cond_f rfl _ _) (trn (cond_f rfl _ _) (trn (cond_f rfl _ _) (trn (cond_f rfl _ _) (cond_t rfl _ _))))))))))))))))))))
  have e2 : W64 (55 + 0) = 55 := by kernel_rfl
  rw [e, h2, e2]
  rfl
theorem plain20_1 (v : Int) (h : (pN v).tmod 23 = 20) (h2 : (iShr (pN v) 21).tmod 5 = 1) : lPlain_0 v = enc_0 56 28 (pT v) 0 0 (pI v) := by
  rw [plX_eq, h]
  have e : plX (pN v) 20 = lWord_0 (W64 (55 + (iShr (pN v) 21).tmod 5)) 28 (pT v) 0 0 (pI v) := by
    delta plX
    exact trn (cond_f rfl _ _) (trn (cond_f rfl _ _) (trn (cond_f rfl _ _) (trn (cond_f rfl _ _) (trn (cond_f rfl _ _) (trn (cond_f rfl _ _) (trn (cond_f rfl _ _) (trn (cond_f rfl _ _) (trn (cond_f rfl _ _) (trn (cond_f rfl _ _) (trn (cond_f rfl _ _) (trn (cond_f rfl _ _) (trn (cond_f rfl _ _) (trn (cond_f rfl _ _) (trn (cond_f rfl _ _) (trn (cond_f rfl _ _) (trn (cond_f rfl _ _) (trn (cond_f rfl _ _) (trn (cond_f rfl _ _) (trn (cond_f rfl _ _) (cond_t rfl _ _))))))))))))))))))))
  have e2 : W64 (55 + 1) = 56 := by kernel_rfl
  rw [e, h2, e2]
  rfl
theorem plain20_2 (v : Int) (h : (pN v).tmod 23 = 20) (h2 : (iShr (pN v) 21).tmod 5 = 2) : lPlain_0 v = enc_0 57 28 (pT v) 0 0 (pI v) := by
  rw [plX_eq, h]
  have e : plX (pN v) 20 = lWord_0 (W64 (55 + (iShr (pN v) 21).tmod 5)) 28 (pT v) 0 0 (pI v) := by
    delta plX
    exact trn (cond_f rfl _ _) (trn (cond_f rfl _ _) (trn (cond_f rfl _ _) (trn (cond_f rfl _ _) (trn (cond_f rfl _ _) (trn (cond_f rfl _ _) (trn (cond_f rfl _ _) (trn (cond_f rfl _ _) (trn (cond_f rfl _ _) (trn (cond_f rfl _ _) (trn (cond_f rfl _ _) (trn (cond_f rfl _ _) (trn (cond_f rfl _ _) (trn (cond_f rfl _ _) (trn (cond_f rfl _ _) (trn (cond_f rfl _ _) (trn (cond_f rfl _ _) (trn (cond_f rfl _ _) (trn (cond_f rfl _ _) (trn (cond_f rfl _ _) (cond_t rfl _ _))))))))))))))))))))
  have e2 : W64 (55 + 2) = 57 := by kernel_rfl
  rw [e, h2, e2]
  rfl
theorem plain20_3 (v : Int) (h : (pN v).tmod 23 = 20) (h2 : (iShr (pN v) 21).tmod 5 = 3) : lPlain_0 v = enc_0 58 28 (pT v) 0 0 (pI v) := by
  rw [plX_eq, h]
  have e : plX (pN v) 20 = lWord_0 (W64 (55 + (iShr (pN v) 21).tmod 5)) 28 (pT v) 0 0 (pI v) := by
    delta plX
    exact trn (cond_f rfl _ _) (trn (cond_f rfl _ _) (trn (cond_f rfl _ _) (trn (cond_f rfl _ _) (trn (cond_f rfl _ _) (trn (cond_f rfl _ _) (trn (cond_f rfl _ _) (trn (cond_f rfl _ _) (trn (cond_f rfl _ _) (trn (cond_f rfl _ _) (trn (cond_f rfl _ _) (trn (cond_f rfl _ _) (trn (cond_f rfl _ _) (trn (cond_f rfl _ _) (trn (cond_f rfl _ _) (trn (cond_f rfl _ _) (trn (cond_f rfl _ _) (trn (cond_f rfl _ _) (trn (cond_f rfl _ _) (trn (cond_f rfl _ _) (cond_t rfl _ _))))))))))))))))))))
  have e2 : W64 (55 + 3) = 58 := by kernel_rfl
  rw [e, h2, e2]
  rfl
theorem plain20_4 (v : Int) (h : (pN v).tmod 23 = 20) (h2 : (iShr (pN v) 21).tmod 5 = 4) : lPlain_0 v = enc_0 59 28 (pT v) 0 0 (pI v) := by
  rw [plX_eq, h]
  have e : plX (pN v) 20 = lWord_0 (W64 (55 + (iShr (pN v) 21).tmod 5)) 28 (pT v) 0 0 (pI v) := by
    delta plX
    exact trn (cond_f rfl _ _) (trn (cond_f rfl _ _) (trn (cond_f rfl _ _) (trn (cond_f rfl _ _) (trn (cond_f rfl _ _) (trn (cond_f rfl _ _) (trn (cond_f rfl _ _) (trn (cond_f rfl _ _) (trn (cond_f rfl _ _) (trn (cond_f rfl _ _) (trn (cond_f rfl _ _) (trn (cond_f rfl _ _) (trn (cond_f rfl _ _) (trn (cond_f rfl _ _) (trn (cond_f rfl _ _) (trn (cond_f rfl _ _) (trn (cond_f rfl _ _) (trn (cond_f rfl _ _) (trn (cond_f rfl _ _) (trn (cond_f rfl _ _) (cond_t rfl _ _))))))))))))))))))))
  have e2 : W64 (55 + 4) = 59 := by kernel_rfl
  rw [e, h2, e2]
  rfl
theorem plain21_0 (v : Int) (h : (pN v).tmod 23 = 21) (h2 : (iShr (pN v) 21).tmod 4 = 0) : lPlain_0 v = enc_0 29 (pS v) (pT v) 0 0 0#32 := by
  rw [plX_eq, h]
  have e : plX (pN v) 21 = lWord_0 (W64 (29 + (iShr (pN v) 21).tmod 4)) (pS v) (pT v) 0 0 0#32 := by
    delta plX
    exact trn (cond_f rfl _ _) (trn (cond_f rfl _ _) (trn (cond_f rfl _ _) (trn (cond_f rfl _ _) (trn (cond_f rfl _ _) (trn (cond_f rfl _ _) (trn (cond_f rfl _ _) (trn (cond_f rfl _ _) (trn (cond_f rfl _ _) (trn (cond_f rfl _ _) (trn (cond_f rfl _ _) (trn (cond_f rfl _ _) (trn (cond_f rfl _ _) (trn (cond_f rfl _ _) (trn (cond_f rfl _ _) (trn (cond_f rfl _ _) (trn (cond_f rfl _ _) (trn (cond_f rfl _ _) (trn (cond_f rfl _ _) (trn (cond_f rfl _ _) (trn (cond_f rfl _ _) (cond_t rfl _ _)))))))))))))))))))))
  have e2 : W64 (29 + 0) = 29 := by kernel_rfl
  rw [e, h2, e2]
  rfl
theorem plain21_1 (v : Int) (h : (pN v).tmod 23 = 21) (h2 : (iShr (pN v) 21).tmod 4 = 1) : lPlain_0 v = enc_0 30 (pS v) (pT v) 0 0 0#32 := by
  rw [plX_eq, h]
  have e : plX (pN v) 21 = lWord_0 (W64 (29 + (iShr (pN v) 21).tmod 4)) (pS v) (pT v) 0 0 0#32 := by
    delta plX
    exact trn (cond_f rfl _ _) (trn (cond_f rfl _ _) (trn (cond_f rfl _ _) (trn (cond_f rfl _ _) (trn (cond_f rfl _ _) (trn (cond_f rfl _ _) (trn (cond_f rfl _ _) (trn (cond_f rfl _ _) (trn (cond_f rfl _ _) (trn (cond_f rfl _ _) (trn (cond_f rfl _ _) (trn (cond_f rfl _ _) (trn (cond_f rfl _ _) (trn (cond_f rfl _ _) (trn (cond_f rfl _ _) (trn (cond_f rfl _ _) (trn (cond_f rfl _ _) (trn (cond_f rfl _ _) (trn (cond_f rfl _ _) (trn (cond_f rfl _ _) (trn (cond_f rfl _ _) (cond_t rfl _ _)))))))))))))))))))))
  have e2 : W64 (29 + 1) = 30 := by kernel_rfl
  rw [e, h2, e2]
  rfl
theorem plain21_2 (v : Int) (h : (pN v).tmod 23 = 21) (h2 : (iShr (pN v) 21).tmod 4 = 2) : lPlain_0 v = enc_0 31 (pS v) (pT v) 0 0 0#32 := by
  rw [plX_eq, h]
  have e : plX (pN v) 21 = lWord_0 (W64 (29 + (iShr (pN v) 21).tmod 4)) (pS v) (pT v) 0 0 0#32 := by
    delta plX
    exact trn (cond_f rfl _ _) (trn (cond_f rfl _ _) (trn (cond_f rfl _ _) (trn (cond_f rfl _ _) (trn (cond_f rfl _ _) (trn (cond_f rfl _ _) (trn (cond_f rfl _ _) (trn (cond_f rfl _ _) (trn (cond_f rfl _ _) (trn (cond_f rfl _ _) (trn (cond_f rfl _ _) (trn (cond_f rfl _ _) (trn (cond_f rfl _ _) (trn (cond_f rfl _ _) (trn (cond_f rfl _ _) (trn (cond_f rfl _ _) (trn (cond_f rfl _ _) (trn (cond_f rfl _ _) (trn (cond_f rfl _ _) (trn (cond_f rfl _ _) (trn (cond_f rfl _ _) (cond_t rfl _ _)))))))))))))))))))))
  have e2 : W64 (29 + 2) = 31 := by kernel_rfl
  rw [e, h2, e2]
  rfl
theorem plain21_3 (v : Int) (h : (pN v).tmod 23 = 21) (h2 : (iShr (pN v) 21).tmod 4 = 3) : lPlain_0 v = enc_0 32 (pS v) (pT v) 0 0 0#32 := by
  rw [plX_eq, h]
  have e : plX (pN v) 21 = lWord_0 (W64 (29 + (iShr (pN v) 21).tmod 4)) (pS v) (pT v) 0 0 0#32 := by
    delta plX
    exact trn (cond_f rfl _ _) (trn (cond_f rfl _ _) (trn (cond_f rfl _ _) (trn (cond_f rfl _ _) (trn (cond_f rfl _ _) (trn (cond_f rfl _ _) (trn (cond_f rfl _ _) (trn (cond_f rfl _ _) (trn (cond_f rfl _ _) (trn (cond_f rfl _ _) (trn (cond_f rfl _ _) (trn (cond_f rfl _ _) (trn (cond_f rfl _ _) (trn (cond_f rfl _ _) (trn (cond_f rfl _ _) (trn (cond_f rfl _ _) (trn (cond_f rfl _ _) (trn (cond_f rfl _ _) (trn (cond_f rfl _ _) (trn (cond_f rfl _ _) (trn (cond_f rfl _ _) (cond_t rfl _ _)))))))))))))))))))))
  have e2 : W64 (29 + 3) = 32 := by kernel_rfl
  rw [e, h2, e2]
  rfl
theorem plain22_0 (v : Int) (h : (pN v).tmod 23 = 22) (h2 : (iShr (pN v) 21).tmod 2 = 0) : lPlain_0 v = enc_0 38 (pS v) (pD v) (pD v) 0 0#32 := by
  rw [plX_eq, h]
  have e : plX (pN v) 22 = lWord_0 (W64 (38 + (iShr (pN v) 21).tmod 2)) (pS v) (pD v) (pD v) 0 0#32 := by
    delta plX
    exact trn (cond_f rfl _ _) (trn (cond_f rfl _ _) (trn (cond_f rfl _ _) (trn (cond_f rfl _ _) (trn (cond_f rfl _ _) (trn (cond_f rfl _ _) (trn (cond_f rfl _ _) (trn (cond_f rfl _ _) (trn (cond_f rfl _ _) (trn (cond_f rfl _ _) (trn (cond_f rfl _ _) (trn (cond_f rfl _ _) (trn (cond_f rfl _ _) (trn (cond_f rfl _ _) (trn (cond_f rfl _ _) (trn (cond_f rfl _ _) (trn (cond_f rfl _ _) (trn (cond_f rfl _ _) (trn (cond_f rfl _ _) (trn (cond_f rfl _ _) (trn (cond_f rfl _ _) (trn (cond_f rfl _ _) (rfl))))))))))))))))))))))
  have e2 : W64 (38 + 0) = 38 := by kernel_rfl
  rw [e, h2, e2]
  rfl
theorem plain22_1 (v : Int) (h : (pN v).tmod 23 = 22) (h2 : (iShr (pN v) 21).tmod 2 = 1) : lPlain_0 v = enc_0 39 (pS v) (pD v) (pD v) 0 0#32 := by
  rw [plX_eq, h]
  have e : plX (pN v) 22 = lWord_0 (W64 (38 + (iShr (pN v) 21).tmod 2)) (pS v) (pD v) (pD v) 0 0#32 := by
    delta plX
    exact trn (cond_f rfl _ _) (trn (cond_f rfl _ _) (trn (cond_f rfl _ _) (trn (cond_f rfl _ _) (trn (cond_f rfl _ _) (trn (cond_f rfl _ _) (trn (cond_f rfl _ _) (trn (cond_f rfl _ _) (trn (cond_f rfl _ _) (trn (cond_f rfl _ _) (trn (cond_f rfl _ _) (trn (cond_f rfl _ _) (trn (cond_f rfl _ _) (trn (cond_f rfl _ _) (trn (cond_f rfl _ _) (trn (cond_f rfl _ _) (trn (cond_f rfl _ _) (trn (cond_f rfl _ _) (trn (cond_f rfl _ _) (trn (cond_f rfl _ _) (trn (cond_f rfl _ _) (trn (cond_f rfl _ _) (rfl))))))))))))))))))))))
  have e2 : W64 (38 + 1) = 39 := by kernel_rfl
  rw [e, h2, e2]
  rfl
theorem pdec0 (v : Int) : ∃ s t d a i, IsDec (enc_0 1 (pS v) (pT v) (pD v) 0 0#32) 1 s t d a i := by
  obtain ⟨hf, hR⟩ := row_1 (pS_ok v) (pT_ok v) (pD_ok v) reg_0 (imm := 0#32)
  have hd := (pD_ok v)
  have ha := reg_0
  unfold Reg at hd ha
  exact ⟨_, _, _, _, _, decF_D hR hf (by omega)⟩
theorem pdec1 (v : Int) : ∃ s t d a i, IsDec (enc_0 2 (pS v) (pT v) (pD v) 0 0#32) 2 s t d a i := by
  obtain ⟨hf, hR⟩ := row_2 (pS_ok v) (pT_ok v) (pD_ok v) reg_0 (imm := 0#32)
  have hd := (pD_ok v)
  have ha := reg_0
  unfold Reg at hd ha
  exact ⟨_, _, _, _, _, decF_D hR hf (by omega)⟩
theorem pdec2 (v : Int) : ∃ s t d a i, IsDec (enc_0 3 (pS v) (pT v) (pD v) 0 0#32) 3 s t d a i := by
  obtain ⟨hf, hR⟩ := row_3 (pS_ok v) (pT_ok v) (pD_ok v) reg_0 (imm := 0#32)
  have hd := (pD_ok v)
  have ha := reg_0
  unfold Reg at hd ha
  exact ⟨_, _, _, _, _, decF_D hR hf (by omega)⟩
theorem pdec3 (v : Int) : ∃ s t d a i, IsDec (enc_0 4 (pS v) (pT v) (pD v) 0 0#32) 4 s t d a i := by
  obtain ⟨hf, hR⟩ := row_4 (pS_ok v) (pT_ok v) (pD_ok v) reg_0 (imm := 0#32)
  have hd := (pD_ok v)
  have ha := reg_0
  unfold Reg at hd ha
  exact ⟨_, _, _, _, _, decF_D hR hf (by omega)⟩
theorem pdec4 (v : Int) : ∃ s t d a i, IsDec (enc_0 5 (pS v) (pT v) (pD v) 0 0#32) 5 s t d a i := by
  obtain ⟨hf, hR⟩ := row_5 (pS_ok v) (pT_ok v) (pD_ok v) reg_0 (imm := 0#32)
  have hd := (pD_ok v)
  have ha := reg_0
  unfold Reg at hd ha
  exact ⟨_, _, _, _, _, decF_D hR hf (by omega)⟩
theorem pdec5 (v : Int) : ∃ s t d a i, IsDec (enc_0 6 (pS v) (pT v) (pD v) 0 0#32) 6 s t d a i := by
  obtain ⟨hf, hR⟩ := row_6 (pS_ok v) (pT_ok v) (pD_ok v) reg_0 (imm := 0#32)
  have hd := (pD_ok v)
  have ha := reg_0
  unfold Reg at hd ha
  exact ⟨_, _, _, _, _, decF_D hR hf (by omega)⟩
theorem pdec6 (v : Int) : ∃ s t d a i, IsDec (enc_0 7 (pS v) (pT v) (pD v) 0 0#32) 7 s t d a i := by
  obtain ⟨hf, hR⟩ := row_7 (pS_ok v) (pT_ok v) (pD_ok v) reg_0 (imm := 0#32)
  have hd := (pD_ok v)
  have ha := reg_0
  unfold Reg at hd ha
  exact ⟨_, _, _, _, _, decF_D hR hf (by omega)⟩
theorem pdec7 (v : Int) : ∃ s t d a i, IsDec (enc_0 8 (pS v) (pT v) (pD v) 0 0#32) 8 s t d a i := by
  obtain ⟨hf, hR⟩ := row_8 (pS_ok v) (pT_ok v) (pD_ok v) reg_0 (imm := 0#32)
  have hd := (pD_ok v)
  have ha := reg_0
  unfold Reg at hd ha
  exact ⟨_, _, _, _, _, decF_D hR hf (by omega)⟩
theorem pdec8 (v : Int) : ∃ s t d a i, IsDec (enc_0 9 (pS v) (pT v) (pD v) 0 0#32) 9 s t d a i := by
  obtain ⟨hf, hR⟩ := row_9 (pS_ok v) (pT_ok v) (pD_ok v) reg_0 (imm := 0#32)
  have hd := (pD_ok v)
  have ha := reg_0
  unfold Reg at hd ha
  exact ⟨_, _, _, _, _, decF_D hR hf (by omega)⟩
theorem pdec9 (v : Int) : ∃ s t d a i, IsDec (enc_0 10 (pS v) (pT v) (pD v) 0 0#32) 10 s t d a i := by
  obtain ⟨hf, hR⟩ := row_10 (pS_ok v) (pT_ok v) (pD_ok v) reg_0 (imm := 0#32)
  have hd := (pD_ok v)
  have ha := reg_0
  unfold Reg at hd ha
  exact ⟨_, _, _, _, _, decF_D hR hf (by omega)⟩
theorem pdec10 (v : Int) : ∃ s t d a i, IsDec (enc_0 16 0 (pT v) (pD v) (pA v) 0#32) 16 s t d a i := by
  obtain ⟨hf, hR⟩ := row_16 reg_0 (pT_ok v) (pD_ok v) (pA_ok v) (imm := 0#32)
  have hd := (pD_ok v)
  have ha := (pA_ok v)
  unfold Reg at hd ha
  exact ⟨_, _, _, _, _, decF_H hR hf rfl⟩
theorem pdec11 (v : Int) : ∃ s t d a i, IsDec (enc_0 17 0 (pT v) (pD v) (pA v) 0#32) 17 s t d a i := by
  obtain ⟨hf, hR⟩ := row_17 reg_0 (pT_ok v) (pD_ok v) (pA_ok v) (imm := 0#32)
  have hd := (pD_ok v)
  have ha := (pA_ok v)
  unfold Reg at hd ha
  exact ⟨_, _, _, _, _, decF_H hR hf rfl⟩
theorem pdec12 (v : Int) : ∃ s t d a i, IsDec (enc_0 18 0 (pT v) (pD v) (pA v) 0#32) 18 s t d a i := by
  obtain ⟨hf, hR⟩ := row_18 reg_0 (pT_ok v) (pD_ok v) (pA_ok v) (imm := 0#32)
  have hd := (pD_ok v)
  have ha := (pA_ok v)
  unfold Reg at hd ha
  exact ⟨_, _, _, _, _, decF_H hR hf rfl⟩
theorem pdec13_0 (v : Int) : ∃ s t d a i, IsDec (enc_0 19 (pS v) (pT v) 0 0 0#32) 19 s t d a i := by
  obtain ⟨hf, hR⟩ := row_19 (pS_ok v) (pT_ok v) reg_0 reg_0 (imm := 0#32)
  have hd := reg_0
  have ha := reg_0
  unfold Reg at hd ha
  exact ⟨_, _, _, _, _, decF_M hR hf (by omega) (by omega)⟩
theorem pdec13_1 (v : Int) : ∃ s t d a i, IsDec (enc_0 20 (pS v) (pT v) 0 0 0#32) 20 s t d a i := by
  obtain ⟨hf, hR⟩ := row_20 (pS_ok v) (pT_ok v) reg_0 reg_0 (imm := 0#32)
  have hd := reg_0
  have ha := reg_0
  unfold Reg at hd ha
  exact ⟨_, _, _, _, _, decF_M hR hf (by omega) (by omega)⟩
theorem pdec13_2 (v : Int) : ∃ s t d a i, IsDec (enc_0 21 (pS v) (pT v) 0 0 0#32) 21 s t d a i := by
  obtain ⟨hf, hR⟩ := row_21 (pS_ok v) (pT_ok v) reg_0 reg_0 (imm := 0#32)
  have hd := reg_0
  have ha := reg_0
  unfold Reg at hd ha
  exact ⟨_, _, _, _, _, decF_M hR hf (by omega) (by omega)⟩
theorem pdec13_3 (v : Int) : ∃ s t d a i, IsDec (enc_0 22 (pS v) (pT v) 0 0 0#32) 22 s t d a i := by
  obtain ⟨hf, hR⟩ := row_22 (pS_ok v) (pT_ok v) reg_0 reg_0 (imm := 0#32)
  have hd := reg_0
  have ha := reg_0
  unfold Reg at hd ha
  exact ⟨_, _, _, _, _, decF_M hR hf (by omega) (by omega)⟩
theorem pdec14_0 (v : Int) : ∃ s t d a i, IsDec (enc_0 23 0 0 (pD v) 0 0#32) 23 s t d a i := by
  obtain ⟨hf, hR⟩ := row_23 reg_0 reg_0 (pD_ok v) reg_0 (imm := 0#32)
  have hd := (pD_ok v)
  have ha := reg_0
  unfold Reg at hd ha
  exact ⟨_, _, _, _, _, decF_F hR hf (by omega) rfl rfl⟩
theorem pdec14_1 (v : Int) : ∃ s t d a i, IsDec (enc_0 24 0 0 (pD v) 0 0#32) 24 s t d a i := by
  obtain ⟨hf, hR⟩ := row_24 reg_0 reg_0 (pD_ok v) reg_0 (imm := 0#32)
  have hd := (pD_ok v)
  have ha := reg_0
  unfold Reg at hd ha
  exact ⟨_, _, _, _, _, decF_F hR hf (by omega) rfl rfl⟩
theorem pdec15_0 (v : Int) : ∃ s t d a i, IsDec (enc_0 40 (pS v) (pT v) 0 0 (pI v - 20#32)) 40 s t d a i := by
  obtain ⟨hf, hR⟩ := row_40 (pS_ok v) (pT_ok v) (imm := (pI v - 20#32)) (d := 0) (a := 0)
  exact ⟨_, _, _, _, _, decF_I hR hf⟩
theorem pdec15_1 (v : Int) : ∃ s t d a i, IsDec (enc_0 41 (pS v) (pT v) 0 0 (pI v - 20#32)) 41 s t d a i := by
  obtain ⟨hf, hR⟩ := row_41 (pS_ok v) (pT_ok v) (imm := (pI v - 20#32)) (d := 0) (a := 0)
  exact ⟨_, _, _, _, _, decF_I hR hf⟩
theorem pdec15_2 (v : Int) : ∃ s t d a i, IsDec (enc_0 42 (pS v) (pT v) 0 0 (pI v - 20#32)) 42 s t d a i := by
  obtain ⟨hf, hR⟩ := row_42 (pS_ok v) (pT_ok v) (imm := (pI v - 20#32)) (d := 0) (a := 0)
  exact ⟨_, _, _, _, _, decF_I hR hf⟩
theorem pdec15_3 (v : Int) : ∃ s t d a i, IsDec (enc_0 43 (pS v) (pT v) 0 0 (pI v - 20#32)) 43 s t d a i := by
  obtain ⟨hf, hR⟩ := row_43 (pS_ok v) (pT_ok v) (imm := (pI v - 20#32)) (d := 0) (a := 0)
  exact ⟨_, _, _, _, _, decF_I hR hf⟩
theorem pdec16_0 (v : Int) : ∃ s t d a i, IsDec (enc_0 44 (pS v) (pT v) 0 0 (pI v)) 44 s t d a i := by
  obtain ⟨hf, hR⟩ := row_44 (pS_ok v) (pT_ok v) (imm := (pI v)) (d := 0) (a := 0)
  exact ⟨_, _, _, _, _, decF_U hR hf⟩
theorem pdec16_1 (v : Int) : ∃ s t d a i, IsDec (enc_0 45 (pS v) (pT v) 0 0 (pI v)) 45 s t d a i := by
  obtain ⟨hf, hR⟩ := row_45 (pS_ok v) (pT_ok v) (imm := (pI v)) (d := 0) (a := 0)
  exact ⟨_, _, _, _, _, decF_U hR hf⟩
theorem pdec16_2 (v : Int) : ∃ s t d a i, IsDec (enc_0 46 (pS v) (pT v) 0 0 (pI v)) 46 s t d a i := by
  obtain ⟨hf, hR⟩ := row_46 (pS_ok v) (pT_ok v) (imm := (pI v)) (d := 0) (a := 0)
  exact ⟨_, _, _, _, _, decF_U hR hf⟩
theorem pdec17 (v : Int) : ∃ s t d a i, IsDec (enc_0 37 (pS v) (pT v) (pD v) 0 0#32) 37 s t d a i := by
  obtain ⟨hf, hR⟩ := row_37 (pS_ok v) (pT_ok v) (pD_ok v) reg_0 (imm := 0#32)
  have hd := (pD_ok v)
  have ha := reg_0
  unfold Reg at hd ha
  exact ⟨_, _, _, _, _, decF_X hR hf (by omega)⟩
theorem pdec18_0 (v : Int) : ∃ s t d a i, IsDec (enc_0 14 (pS v) (pT v) (pD v) 0 0#32) 14 s t d a i := by
  obtain ⟨hf, hR⟩ := row_14 (pS_ok v) (pT_ok v) (pD_ok v) reg_0 (imm := 0#32)
  have hd := (pD_ok v)
  have ha := reg_0
  unfold Reg at hd ha
  exact ⟨_, _, _, _, _, decF_D hR hf (by omega)⟩
theorem pdec18_1 (v : Int) : ∃ s t d a i, IsDec (enc_0 15 (pS v) (pT v) (pD v) 0 0#32) 15 s t d a i := by
  obtain ⟨hf, hR⟩ := row_15 (pS_ok v) (pT_ok v) (pD_ok v) reg_0 (imm := 0#32)
  have hd := (pD_ok v)
  have ha := reg_0
  unfold Reg at hd ha
  exact ⟨_, _, _, _, _, decF_D hR hf (by omega)⟩
theorem pdec19_0 (v : Int) : ∃ s t d a i, IsDec (enc_0 48 28 (pT v) 0 0 (pI v)) 48 s t d a i := by
  obtain ⟨hf, hR⟩ := row_48 reg_28 (pT_ok v) (imm := (pI v)) (d := 0) (a := 0)
  exact ⟨_, _, _, _, _, decF_P hR hf⟩
theorem pdec19_1 (v : Int) : ∃ s t d a i, IsDec (enc_0 49 28 (pT v) 0 0 (pI v)) 49 s t d a i := by
  obtain ⟨hf, hR⟩ := row_49 reg_28 (pT_ok v) (imm := (pI v)) (d := 0) (a := 0)
  exact ⟨_, _, _, _, _, decF_P hR hf⟩
theorem pdec19_2 (v : Int) : ∃ s t d a i, IsDec (enc_0 50 28 (pT v) 0 0 (pI v)) 50 s t d a i := by
  obtain ⟨hf, hR⟩ := row_50 reg_28 (pT_ok v) (imm := (pI v)) (d := 0) (a := 0)
  exact ⟨_, _, _, _, _, decF_P hR hf⟩
theorem pdec19_3 (v : Int) : ∃ s t d a i, IsDec (enc_0 51 28 (pT v) 0 0 (pI v)) 51 s t d a i := by
  obtain ⟨hf, hR⟩ := row_51 reg_28 (pT_ok v) (imm := (pI v)) (d := 0) (a := 0)
  exact ⟨_, _, _, _, _, decF_P hR hf⟩
theorem pdec19_4 (v : Int) : ∃ s t d a i, IsDec (enc_0 52 28 (pT v) 0 0 (pI v)) 52 s t d a i := by
  obtain ⟨hf, hR⟩ := row_52 reg_28 (pT_ok v) (imm := (pI v)) (d := 0) (a := 0)
  exact ⟨_, _, _, _, _, decF_P hR hf⟩
theorem pdec19_5 (v : Int) : ∃ s t d a i, IsDec (enc_0 53 28 (pT v) 0 0 (pI v)) 53 s t d a i := by
  obtain ⟨hf, hR⟩ := row_53 reg_28 (pT_ok v) (imm := (pI v)) (d := 0) (a := 0)
  exact ⟨_, _, _, _, _, decF_P hR hf⟩
theorem pdec19_6 (v : Int) : ∃ s t d a i, IsDec (enc_0 54 28 (pT v) 0 0 (pI v)) 54 s t d a i := by
  obtain ⟨hf, hR⟩ := row_54 reg_28 (pT_ok v) (imm := (pI v)) (d := 0) (a := 0)
  exact ⟨_, _, _, _, _, decF_P hR hf⟩
theorem pdec20_0 (v : Int) : ∃ s t d a i, IsDec (enc_0 55 28 (pT v) 0 0 (pI v)) 55 s t d a i := by
  obtain ⟨hf, hR⟩ := row_55 reg_28 (pT_ok v) (imm := (pI v)) (d := 0) (a := 0)
  exact ⟨_, _, _, _, _, decF_P hR hf⟩
theorem pdec20_1 (v : Int) : ∃ s t d a i, IsDec (enc_0 56 28 (pT v) 0 0 (pI v)) 56 s t d a i := by
  obtain ⟨hf, hR⟩ := row_56 reg_28 (pT_ok v) (imm := (pI v)) (d := 0) (a := 0)
  exact ⟨_, _, _, _, _, decF_P hR hf⟩
theorem pdec20_2 (v : Int) : ∃ s t d a i, IsDec (enc_0 57 28 (pT v) 0 0 (pI v)) 57 s t d a i := by
  obtain ⟨hf, hR⟩ := row_57 reg_28 (pT_ok v) (imm := (pI v)) (d := 0) (a := 0)
  exact ⟨_, _, _, _, _, decF_P hR hf⟩
theorem pdec20_3 (v : Int) : ∃ s t d a i, IsDec (enc_0 58 28 (pT v) 0 0 (pI v)) 58 s t d a i := by
  obtain ⟨hf, hR⟩ := row_58 reg_28 (pT_ok v) (imm := (pI v)) (d := 0) (a := 0)
  exact ⟨_, _, _, _, _, decF_P hR hf⟩
theorem pdec20_4 (v : Int) : ∃ s t d a i, IsDec (enc_0 59 28 (pT v) 0 0 (pI v)) 59 s t d a i := by
  obtain ⟨hf, hR⟩ := row_59 reg_28 (pT_ok v) (imm := (pI v)) (d := 0) (a := 0)
  exact ⟨_, _, _, _, _, decF_P hR hf⟩
theorem pdec21_0 (v : Int) : ∃ s t d a i, IsDec (enc_0 29 (pS v) (pT v) 0 0 0#32) 29 s t d a i := by
  obtain ⟨hf, hR⟩ := row_29 (pS_ok v) (pT_ok v) (imm := 0#32) (d := 0) (a := 0)
  exact ⟨_, _, _, _, _, decF_T hR hf rfl⟩
theorem pdec21_1 (v : Int) : ∃ s t d a i, IsDec (enc_0 30 (pS v) (pT v) 0 0 0#32) 30 s t d a i := by
  obtain ⟨hf, hR⟩ := row_30 (pS_ok v) (pT_ok v) (imm := 0#32) (d := 0) (a := 0)
  exact ⟨_, _, _, _, _, decF_T hR hf rfl⟩
theorem pdec21_2 (v : Int) : ∃ s t d a i, IsDec (enc_0 31 (pS v) (pT v) 0 0 0#32) 31 s t d a i := by
  obtain ⟨hf, hR⟩ := row_31 (pS_ok v) (pT_ok v) (imm := 0#32) (d := 0) (a := 0)
  exact ⟨_, _, _, _, _, decF_T hR hf rfl⟩
theorem pdec21_3 (v : Int) : ∃ s t d a i, IsDec (enc_0 32 (pS v) (pT v) 0 0 0#32) 32 s t d a i := by
  obtain ⟨hf, hR⟩ := row_32 (pS_ok v) (pT_ok v) (imm := 0#32) (d := 0) (a := 0)
  exact ⟨_, _, _, _, _, decF_T hR hf rfl⟩
theorem pdec22_0 (v : Int) : ∃ s t d a i, IsDec (enc_0 38 (pS v) (pD v) (pD v) 0 0#32) 38 s t d a i := by
  obtain ⟨hf, hR⟩ := row_38 (pS_ok v) (pD_ok v) (pD_ok v) reg_0 (imm := 0#32)
  have hd := (pD_ok v)
  have ha := reg_0
  unfold Reg at hd ha
  exact ⟨_, _, _, _, _, decF_Y hR hf (by omega) (by omega)⟩
theorem pdec22_1 (v : Int) : ∃ s t d a i, IsDec (enc_0 39 (pS v) (pD v) (pD v) 0 0#32) 39 s t d a i := by
  obtain ⟨hf, hR⟩ := row_39 (pS_ok v) (pD_ok v) (pD_ok v) reg_0 (imm := 0#32)
  have hd := (pD_ok v)
  have ha := reg_0
  unfold Reg at hd ha
  exact ⟨_, _, _, _, _, decF_Y hR hf (by omega) (by omega)⟩
/-- An operation that goes on. -/
def PlainOp (op : Int) : Prop := op ≠ 0 ∧ op ≠ 35 ∧ op ≠ 36 ∧ insKind_0 op ≠ 2
instance (op : Int) : Decidable (PlainOp op) := inferInstanceAs (Decidable (_ ∧ _))
theorem plain_op (v : Int) : PlainOp (iDec_0 (lPlain_0 v)) := by
  have hn := (pN_ok v).1
  have h23 := tm_ok hn (m := 23) (by decide)
  have sub := fun m (hm : (0 : Int) < m) => tm_ok (shr_ok hn 21) hm
  have hk : (pN v).tmod 23 = 0 ∨ (pN v).tmod 23 = 1 ∨ (pN v).tmod 23 = 2 ∨ (pN v).tmod 23 = 3 ∨ (pN v).tmod 23 = 4 ∨ (pN v).tmod 23 = 5 ∨ (pN v).tmod 23 = 6 ∨ (pN v).tmod 23 = 7 ∨ (pN v).tmod 23 = 8 ∨ (pN v).tmod 23 = 9 ∨ (pN v).tmod 23 = 10 ∨ (pN v).tmod 23 = 11 ∨ (pN v).tmod 23 = 12 ∨ (pN v).tmod 23 = 13 ∨ (pN v).tmod 23 = 14 ∨ (pN v).tmod 23 = 15 ∨ (pN v).tmod 23 = 16 ∨ (pN v).tmod 23 = 17 ∨ (pN v).tmod 23 = 18 ∨ (pN v).tmod 23 = 19 ∨ (pN v).tmod 23 = 20 ∨ (pN v).tmod 23 = 21 ∨ (pN v).tmod 23 = 22 := by omega
  rcases hk with hk | hk | hk | hk | hk | hk | hk | hk | hk | hk | hk | hk | hk | hk | hk | hk | hk | hk | hk | hk | hk | hk | hk
  · obtain ⟨_, _, _, _, _, h⟩ := pdec0 v
    rw [plain0 v hk, h.e0]
    exact (by decide)
  · obtain ⟨_, _, _, _, _, h⟩ := pdec1 v
    rw [plain1 v hk, h.e0]
    exact (by decide)
  · obtain ⟨_, _, _, _, _, h⟩ := pdec2 v
    rw [plain2 v hk, h.e0]
    exact (by decide)
  · obtain ⟨_, _, _, _, _, h⟩ := pdec3 v
    rw [plain3 v hk, h.e0]
    exact (by decide)
  · obtain ⟨_, _, _, _, _, h⟩ := pdec4 v
    rw [plain4 v hk, h.e0]
    exact (by decide)
  · obtain ⟨_, _, _, _, _, h⟩ := pdec5 v
    rw [plain5 v hk, h.e0]
    exact (by decide)
  · obtain ⟨_, _, _, _, _, h⟩ := pdec6 v
    rw [plain6 v hk, h.e0]
    exact (by decide)
  · obtain ⟨_, _, _, _, _, h⟩ := pdec7 v
    rw [plain7 v hk, h.e0]
    exact (by decide)
  · obtain ⟨_, _, _, _, _, h⟩ := pdec8 v
    rw [plain8 v hk, h.e0]
    exact (by decide)
  · obtain ⟨_, _, _, _, _, h⟩ := pdec9 v
    rw [plain9 v hk, h.e0]
    exact (by decide)
  · obtain ⟨_, _, _, _, _, h⟩ := pdec10 v
    rw [plain10 v hk, h.e0]
    exact (by decide)
  · obtain ⟨_, _, _, _, _, h⟩ := pdec11 v
    rw [plain11 v hk, h.e0]
    exact (by decide)
  · obtain ⟨_, _, _, _, _, h⟩ := pdec12 v
    rw [plain12 v hk, h.e0]
    exact (by decide)
  · have hs := sub 4 (by decide)
    have hj : (iShr (pN v) 21).tmod 4 = 0 ∨ (iShr (pN v) 21).tmod 4 = 1 ∨ (iShr (pN v) 21).tmod 4 = 2 ∨ (iShr (pN v) 21).tmod 4 = 3 := by omega
    rcases hj with hj | hj | hj | hj
    · obtain ⟨_, _, _, _, _, h⟩ := pdec13_0 v
      rw [plain13_0 v hk hj, h.e0]
      exact (by decide)
    · obtain ⟨_, _, _, _, _, h⟩ := pdec13_1 v
      rw [plain13_1 v hk hj, h.e0]
      exact (by decide)
    · obtain ⟨_, _, _, _, _, h⟩ := pdec13_2 v
      rw [plain13_2 v hk hj, h.e0]
      exact (by decide)
    · obtain ⟨_, _, _, _, _, h⟩ := pdec13_3 v
      rw [plain13_3 v hk hj, h.e0]
      exact (by decide)
  · have hs := sub 2 (by decide)
    have hj : (iShr (pN v) 21).tmod 2 = 0 ∨ (iShr (pN v) 21).tmod 2 = 1 := by omega
    rcases hj with hj | hj
    · obtain ⟨_, _, _, _, _, h⟩ := pdec14_0 v
      rw [plain14_0 v hk hj, h.e0]
      exact (by decide)
    · obtain ⟨_, _, _, _, _, h⟩ := pdec14_1 v
      rw [plain14_1 v hk hj, h.e0]
      exact (by decide)
  · have hs := sub 4 (by decide)
    have hj : (iShr (pN v) 21).tmod 4 = 0 ∨ (iShr (pN v) 21).tmod 4 = 1 ∨ (iShr (pN v) 21).tmod 4 = 2 ∨ (iShr (pN v) 21).tmod 4 = 3 := by omega
    rcases hj with hj | hj | hj | hj
    · obtain ⟨_, _, _, _, _, h⟩ := pdec15_0 v
      rw [plain15_0 v hk hj, h.e0]
      exact (by decide)
    · obtain ⟨_, _, _, _, _, h⟩ := pdec15_1 v
      rw [plain15_1 v hk hj, h.e0]
      exact (by decide)
    · obtain ⟨_, _, _, _, _, h⟩ := pdec15_2 v
      rw [plain15_2 v hk hj, h.e0]
      exact (by decide)
    · obtain ⟨_, _, _, _, _, h⟩ := pdec15_3 v
      rw [plain15_3 v hk hj, h.e0]
      exact (by decide)
  · have hs := sub 3 (by decide)
    have hj : (iShr (pN v) 21).tmod 3 = 0 ∨ (iShr (pN v) 21).tmod 3 = 1 ∨ (iShr (pN v) 21).tmod 3 = 2 := by omega
    rcases hj with hj | hj | hj
    · obtain ⟨_, _, _, _, _, h⟩ := pdec16_0 v
      rw [plain16_0 v hk hj, h.e0]
      exact (by decide)
    · obtain ⟨_, _, _, _, _, h⟩ := pdec16_1 v
      rw [plain16_1 v hk hj, h.e0]
      exact (by decide)
    · obtain ⟨_, _, _, _, _, h⟩ := pdec16_2 v
      rw [plain16_2 v hk hj, h.e0]
      exact (by decide)
  · obtain ⟨_, _, _, _, _, h⟩ := pdec17 v
    rw [plain17 v hk, h.e0]
    exact (by decide)
  · have hs := sub 2 (by decide)
    have hj : (iShr (pN v) 21).tmod 2 = 0 ∨ (iShr (pN v) 21).tmod 2 = 1 := by omega
    rcases hj with hj | hj
    · obtain ⟨_, _, _, _, _, h⟩ := pdec18_0 v
      rw [plain18_0 v hk hj, h.e0]
      exact (by decide)
    · obtain ⟨_, _, _, _, _, h⟩ := pdec18_1 v
      rw [plain18_1 v hk hj, h.e0]
      exact (by decide)
  · have hs := sub 7 (by decide)
    have hj : (iShr (pN v) 21).tmod 7 = 0 ∨ (iShr (pN v) 21).tmod 7 = 1 ∨ (iShr (pN v) 21).tmod 7 = 2 ∨ (iShr (pN v) 21).tmod 7 = 3 ∨ (iShr (pN v) 21).tmod 7 = 4 ∨ (iShr (pN v) 21).tmod 7 = 5 ∨ (iShr (pN v) 21).tmod 7 = 6 := by omega
    rcases hj with hj | hj | hj | hj | hj | hj | hj
    · obtain ⟨_, _, _, _, _, h⟩ := pdec19_0 v
      rw [plain19_0 v hk hj, h.e0]
      exact (by decide)
    · obtain ⟨_, _, _, _, _, h⟩ := pdec19_1 v
      rw [plain19_1 v hk hj, h.e0]
      exact (by decide)
    · obtain ⟨_, _, _, _, _, h⟩ := pdec19_2 v
      rw [plain19_2 v hk hj, h.e0]
      exact (by decide)
    · obtain ⟨_, _, _, _, _, h⟩ := pdec19_3 v
      rw [plain19_3 v hk hj, h.e0]
      exact (by decide)
    · obtain ⟨_, _, _, _, _, h⟩ := pdec19_4 v
      rw [plain19_4 v hk hj, h.e0]
      exact (by decide)
    · obtain ⟨_, _, _, _, _, h⟩ := pdec19_5 v
      rw [plain19_5 v hk hj, h.e0]
      exact (by decide)
    · obtain ⟨_, _, _, _, _, h⟩ := pdec19_6 v
      rw [plain19_6 v hk hj, h.e0]
      exact (by decide)
  · have hs := sub 5 (by decide)
    have hj : (iShr (pN v) 21).tmod 5 = 0 ∨ (iShr (pN v) 21).tmod 5 = 1 ∨ (iShr (pN v) 21).tmod 5 = 2 ∨ (iShr (pN v) 21).tmod 5 = 3 ∨ (iShr (pN v) 21).tmod 5 = 4 := by omega
    rcases hj with hj | hj | hj | hj | hj
    · obtain ⟨_, _, _, _, _, h⟩ := pdec20_0 v
      rw [plain20_0 v hk hj, h.e0]
      exact (by decide)
    · obtain ⟨_, _, _, _, _, h⟩ := pdec20_1 v
      rw [plain20_1 v hk hj, h.e0]
      exact (by decide)
    · obtain ⟨_, _, _, _, _, h⟩ := pdec20_2 v
      rw [plain20_2 v hk hj, h.e0]
      exact (by decide)
    · obtain ⟨_, _, _, _, _, h⟩ := pdec20_3 v
      rw [plain20_3 v hk hj, h.e0]
      exact (by decide)
    · obtain ⟨_, _, _, _, _, h⟩ := pdec20_4 v
      rw [plain20_4 v hk hj, h.e0]
      exact (by decide)
  · have hs := sub 4 (by decide)
    have hj : (iShr (pN v) 21).tmod 4 = 0 ∨ (iShr (pN v) 21).tmod 4 = 1 ∨ (iShr (pN v) 21).tmod 4 = 2 ∨ (iShr (pN v) 21).tmod 4 = 3 := by omega
    rcases hj with hj | hj | hj | hj
    · obtain ⟨_, _, _, _, _, h⟩ := pdec21_0 v
      rw [plain21_0 v hk hj, h.e0]
      exact (by decide)
    · obtain ⟨_, _, _, _, _, h⟩ := pdec21_1 v
      rw [plain21_1 v hk hj, h.e0]
      exact (by decide)
    · obtain ⟨_, _, _, _, _, h⟩ := pdec21_2 v
      rw [plain21_2 v hk hj, h.e0]
      exact (by decide)
    · obtain ⟨_, _, _, _, _, h⟩ := pdec21_3 v
      rw [plain21_3 v hk hj, h.e0]
      exact (by decide)
  · have hs := sub 2 (by decide)
    have hj : (iShr (pN v) 21).tmod 2 = 0 ∨ (iShr (pN v) 21).tmod 2 = 1 := by omega
    rcases hj with hj | hj
    · obtain ⟨_, _, _, _, _, h⟩ := pdec22_0 v
      rw [plain22_0 v hk hj, h.e0]
      exact (by decide)
    · obtain ⟨_, _, _, _, _, h⟩ := pdec22_1 v
      rw [plain22_1 v hk hj, h.e0]
      exact (by decide)
end Go.Proofs.Ytchoogeojpllfaa
