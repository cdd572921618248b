/- A part of the walk or of the law. -/
import Derived.Test.YtchoogeojpllfaaLawB
set_option linter.unusedVariables false
set_option linter.unusedSimpArgs false
namespace Go.Proofs.Ytchoogeojpllfaa
open Go.Sx
set_option maxHeartbeats 4000000
theorem rg_lt {s : Int} (h : Reg s) : (rg s).toNat = s.toNat ∧ s.toNat < 32 := ⟨rg_nat h, by unfold Reg at h; omega⟩
theorem nat_of {n : Nat} (h : n < 32) : ((BitVec.ofNat 32 n).toNat : Int) = n := by rw [BitVec.toNat_ofNat, Nat.mod_eq_of_lt (by omega)]
/-- A word of five fields and a number. -/
theorem fld5 {w : BitVec 32} {o f : Nat} {s t d a : Int} (hs : Reg s) (ht : Reg t) (hd : Reg d) (ha : Reg a) (ho : o < 64) (hf : f < 64) (h : w = BitVec.ofNat 32 o <<< 26 + rg s <<< 21 + rg t <<< 16 + rg d <<< 11 + rg a <<< 6 + BitVec.ofNat 32 f) : Fld w o s.toNat t.toNat (d.toNat * 2048 + a.toNat * 64 + f) := by
  obtain ⟨s1, s2⟩ := rg_lt hs
  obtain ⟨t1, t2⟩ := rg_lt ht
  obtain ⟨d1, d2⟩ := rg_lt hd
  obtain ⟨a1, a2⟩ := rg_lt ha
  refine ⟨?_, ho, s2, t2, by omega⟩
  rw [h, sum5 o _ _ _ _ f ho (by omega) (by omega) (by omega) (by omega) hf, s1, t1, d1, a1]
  omega
/-- A word of three fields and a half word. -/
theorem fld3 {w : BitVec 32} {o : Nat} {s : Int} {T imm : BitVec 32} (hs : Reg s) (hT : T.toNat < 32) (ho : o < 64) (h : w = BitVec.ofNat 32 o <<< 26 + rg s <<< 21 + T <<< 16 + (imm &&& 65535#32)) : Fld w o s.toNat T.toNat (imm.toNat % 65536) := by
  obtain ⟨s1, s2⟩ := rg_lt hs
  have e : (imm &&& 65535#32).toNat = imm.toNat % 65536 := low_nat imm 65535#32 16 rfl
  refine ⟨?_, ho, s2, hT, Nat.mod_lt _ (by decide)⟩
  rw [h, sum3 o _ _ _ ho (by omega) hT (by rw [e]; exact Nat.mod_lt _ (by decide)), s1, e]
/-- A word of two fields, ten bits and a number. -/
theorem fldT {w : BitVec 32} {o f : Nat} {s t : Int} {imm : BitVec 32} (hs : Reg s) (ht : Reg t) (ho : o < 64) (hf : f < 64) (h : w = BitVec.ofNat 32 o <<< 26 + rg s <<< 21 + rg t <<< 16 + (imm &&& 1023#32) <<< 6 + BitVec.ofNat 32 f) : Fld w o s.toNat t.toNat (imm.toNat % 1024 * 64 + f) := by
  obtain ⟨s1, s2⟩ := rg_lt hs
  obtain ⟨t1, t2⟩ := rg_lt ht
  have e : (imm &&& 1023#32).toNat = imm.toNat % 1024 := low_nat imm 1023#32 10 rfl
  refine ⟨?_, ho, s2, t2, by omega⟩
  rw [h]
  simp only [BitVec.toNat_add, BitVec.toNat_shiftLeft, BitVec.toNat_ofNat, Nat.shiftLeft_eq, s1, t1, e]
  omega
theorem rgT {t : Int} (h : Reg t) : (rg t).toNat < 32 := by have := rg_lt h; omega
section
variable {w : BitVec 32} {op : Int} {o s t m : Nat}
/-- What a word is decoded to. -/
structure IsDec (w : BitVec 32) (op s t d a : Int) (imm : BitVec 32) : Prop where
  e0 : iDec_0 w = op
  e1 : iDec_1 w = s
  e2 : iDec_2 w = t
  e3 : iDec_3 w = d
  e4 : iDec_4 w = a
  e5 : iDec_5 w = imm
theorem or0 {a b : BitVec 32} (ha : a = 0#32) (hb : b = 0#32) : a ||| b = 0#32 := by subst ha hb; rfl
theorem decF_D (hR : IsRow w op 0) (hf : Fld w o s t m) (hz : m / 64 % 32 = 0) : IsDec w op s t (m / 2048 : Nat) 0 0 := by
  have hs := hf.s
  have ht := hf.t
  have hd := hf.d
  have ha := hf.a
  have hl := hf.low
  have ns := nat_of hf.hs
  have nt := nat_of hf.ht
  have nd := nat_of (n := m / 2048) (by have := hf.hm; omega)
  have na := nat_of (n := m / 64 % 32) (by omega)
  rw [hz] at ha
  refine ⟨?_, ?_, ?_, ?_, ?_, ?_⟩
  · simp [iDec_0, hR.ok, hR.form, hR.op, hs, ht, hd, ha, hl]
  · simp [iDec_1, hR.ok, hR.form, hs, ht, hd, ha, hl] <;> omega
  · simp [iDec_2, hR.ok, hR.form, hs, ht, hd, ha, hl] <;> omega
  · simp [iDec_3, hR.ok, hR.form, hs, ht, hd, ha, hl] <;> omega
  · simp [iDec_4, hR.ok, hR.form, hs, ht, hd, ha, hl]
  · simp [iDec_5, hR.ok, hR.form, hs, ht, hd, ha, hl]
theorem decF_X (hR : IsRow w op 8) (hf : Fld w o s t m) (hz : m / 64 % 32 = 0) : IsDec w op s t (m / 2048 : Nat) 0 0 := by
  have hs := hf.s
  have ht := hf.t
  have hd := hf.d
  have ha := hf.a
  have hl := hf.low
  have ns := nat_of hf.hs
  have nt := nat_of hf.ht
  have nd := nat_of (n := m / 2048) (by have := hf.hm; omega)
  have na := nat_of (n := m / 64 % 32) (by omega)
  rw [hz] at ha
  refine ⟨?_, ?_, ?_, ?_, ?_, ?_⟩
  · simp [iDec_0, hR.ok, hR.form, hR.op, hs, ht, hd, ha, hl]
  · simp [iDec_1, hR.ok, hR.form, hs, ht, hd, ha, hl] <;> omega
  · simp [iDec_2, hR.ok, hR.form, hs, ht, hd, ha, hl] <;> omega
  · simp [iDec_3, hR.ok, hR.form, hs, ht, hd, ha, hl] <;> omega
  · simp [iDec_4, hR.ok, hR.form, hs, ht, hd, ha, hl]
  · simp [iDec_5, hR.ok, hR.form, hs, ht, hd, ha, hl]
theorem decF_H (hR : IsRow w op 1) (hf : Fld w o s t m) (hz : s = 0) : IsDec w op 0 t (m / 2048 : Nat) (m / 64 % 32 : Nat) 0 := by
  have hs := hf.s
  have ht := hf.t
  have hd := hf.d
  have ha := hf.a
  have hl := hf.low
  have ns := nat_of hf.hs
  have nt := nat_of hf.ht
  have nd := nat_of (n := m / 2048) (by have := hf.hm; omega)
  have na := nat_of (n := m / 64 % 32) (by omega)
  subst hz
  refine ⟨?_, ?_, ?_, ?_, ?_, ?_⟩
  · simp [iDec_0, hR.ok, hR.form, hR.op, hs, ht, hd, ha, hl]
  · simp [iDec_1, hR.ok, hR.form, hs, ht, hd, ha, hl]
  · simp [iDec_2, hR.ok, hR.form, hs, ht, hd, ha, hl] <;> omega
  · simp [iDec_3, hR.ok, hR.form, hs, ht, hd, ha, hl] <;> omega
  · simp [iDec_4, hR.ok, hR.form, hs, ht, hd, ha, hl] <;> omega
  · simp [iDec_5, hR.ok, hR.form, hs, ht, hd, ha, hl]
theorem decF_M (hR : IsRow w op 2) (hf : Fld w o s t m) (hz : m / 64 % 32 = 0) (hy : m / 2048 = 0) : IsDec w op s t 0 0 0 := by
  have hs := hf.s
  have ht := hf.t
  have hd := hf.d
  have ha := hf.a
  have hl := hf.low
  have ns := nat_of hf.hs
  have nt := nat_of hf.ht
  have nd := nat_of (n := m / 2048) (by have := hf.hm; omega)
  have na := nat_of (n := m / 64 % 32) (by omega)
  rw [hz] at ha
  rw [hy] at hd
  refine ⟨?_, ?_, ?_, ?_, ?_, ?_⟩
  · simp [iDec_0, hR.ok, hR.form, hR.op, hs, ht, hd, ha, hl]
  · simp [iDec_1, hR.ok, hR.form, hs, ht, hd, ha, hl] <;> omega
  · simp [iDec_2, hR.ok, hR.form, hs, ht, hd, ha, hl] <;> omega
  · simp [iDec_3, hR.ok, hR.form, hs, ht, hd, ha, hl]
  · simp [iDec_4, hR.ok, hR.form, hs, ht, hd, ha, hl]
  · simp [iDec_5, hR.ok, hR.form, hs, ht, hd, ha, hl]
theorem decF_F (hR : IsRow w op 3) (hf : Fld w o s t m) (hz : m / 64 % 32 = 0) (hy : s = 0) (hx : t = 0) : IsDec w op 0 0 (m / 2048 : Nat) 0 0 := by
  have hs := hf.s
  have ht := hf.t
  have hd := hf.d
  have ha := hf.a
  have hl := hf.low
  have ns := nat_of hf.hs
  have nt := nat_of hf.ht
  have nd := nat_of (n := m / 2048) (by have := hf.hm; omega)
  have na := nat_of (n := m / 64 % 32) (by omega)
  rw [hz] at ha
  subst hy hx
  refine ⟨?_, ?_, ?_, ?_, ?_, ?_⟩
  · simp [iDec_0, hR.ok, hR.form, hR.op, hs, ht, hd, ha, hl]
  · simp [iDec_1, hR.ok, hR.form, hs, ht, hd, ha, hl]
  · simp [iDec_2, hR.ok, hR.form, hs, ht, hd, ha, hl]
  · simp [iDec_3, hR.ok, hR.form, hs, ht, hd, ha, hl] <;> omega
  · simp [iDec_4, hR.ok, hR.form, hs, ht, hd, ha, hl]
  · simp [iDec_5, hR.ok, hR.form, hs, ht, hd, ha, hl]
theorem decF_L (hR : IsRow w op 4) (hf : Fld w o s t m) (hz : m / 64 % 32 = 0) (hy : m / 2048 = 0) (hx : t = 0) : IsDec w op s 0 0 0 0 := by
  have hs := hf.s
  have ht := hf.t
  have hd := hf.d
  have ha := hf.a
  have hl := hf.low
  have ns := nat_of hf.hs
  have nt := nat_of hf.ht
  have nd := nat_of (n := m / 2048) (by have := hf.hm; omega)
  have na := nat_of (n := m / 64 % 32) (by omega)
  rw [hz] at ha
  rw [hy] at hd
  subst hx
  refine ⟨?_, ?_, ?_, ?_, ?_, ?_⟩
  · simp [iDec_0, hR.ok, hR.form, hR.op, hs, ht, hd, ha, hl]
  · simp [iDec_1, hR.ok, hR.form, hs, ht, hd, ha, hl] <;> omega
  · simp [iDec_2, hR.ok, hR.form, hs, ht, hd, ha, hl]
  · simp [iDec_3, hR.ok, hR.form, hs, ht, hd, ha, hl]
  · simp [iDec_4, hR.ok, hR.form, hs, ht, hd, ha, hl]
  · simp [iDec_5, hR.ok, hR.form, hs, ht, hd, ha, hl]
theorem decF_G (hR : IsRow w op 5) (hf : Fld w o s t m) (hz : m / 64 % 32 = 0) (hx : t = 0) : IsDec w op s 0 (m / 2048 : Nat) 0 0 := by
  have hs := hf.s
  have ht := hf.t
  have hd := hf.d
  have ha := hf.a
  have hl := hf.low
  have ns := nat_of hf.hs
  have nt := nat_of hf.ht
  have nd := nat_of (n := m / 2048) (by have := hf.hm; omega)
  have na := nat_of (n := m / 64 % 32) (by omega)
  rw [hz] at ha
  subst hx
  refine ⟨?_, ?_, ?_, ?_, ?_, ?_⟩
  · simp [iDec_0, hR.ok, hR.form, hR.op, hs, ht, hd, ha, hl]
  · simp [iDec_1, hR.ok, hR.form, hs, ht, hd, ha, hl] <;> omega
  · simp [iDec_2, hR.ok, hR.form, hs, ht, hd, ha, hl]
  · simp [iDec_3, hR.ok, hR.form, hs, ht, hd, ha, hl] <;> omega
  · simp [iDec_4, hR.ok, hR.form, hs, ht, hd, ha, hl]
  · simp [iDec_5, hR.ok, hR.form, hs, ht, hd, ha, hl]
theorem decF_T (hR : IsRow w op 6) (hf : Fld w o s t m) {i : BitVec 32} (hz : bField_0 w 6 10 = i) : IsDec w op s t 0 0 i := by
  have hs := hf.s
  have ht := hf.t
  have hd := hf.d
  have ha := hf.a
  have hl := hf.low
  have ns := nat_of hf.hs
  have nt := nat_of hf.ht
  have nd := nat_of (n := m / 2048) (by have := hf.hm; omega)
  have na := nat_of (n := m / 64 % 32) (by omega)
  rw [← hz]
  refine ⟨?_, ?_, ?_, ?_, ?_, ?_⟩
  · simp [iDec_0, hR.ok, hR.form, hR.op, hs, ht, hd, ha, hl]
  · simp [iDec_1, hR.ok, hR.form, hs, ht, hd, ha, hl] <;> omega
  · simp [iDec_2, hR.ok, hR.form, hs, ht, hd, ha, hl] <;> omega
  · simp [iDec_3, hR.ok, hR.form, hs, ht, hd, ha, hl]
  · simp [iDec_4, hR.ok, hR.form, hs, ht, hd, ha, hl]
  · simp [iDec_5, hR.ok, hR.form, hs, ht, hd, ha, hl]
theorem decF_Y (hR : IsRow w op 9) (hf : Fld w o s t m) (hz : m / 64 % 32 = 0) (hx : t = m / 2048) : IsDec w op s t (m / 2048 : Nat) 0 0 := by
  have hs := hf.s
  have ht := hf.t
  have hd := hf.d
  have ha := hf.a
  have hl := hf.low
  have ns := nat_of hf.hs
  have nt := nat_of hf.ht
  have nd := nat_of (n := m / 2048) (by have := hf.hm; omega)
  have na := nat_of (n := m / 64 % 32) (by omega)
  rw [hz] at ha
  rw [← hx] at hd nd
  rw [← hx]
  refine ⟨?_, ?_, ?_, ?_, ?_, ?_⟩
  · simp [iDec_0, hR.ok, hR.form, hR.op, hs, ht, hd, ha, hl]
  · simp [iDec_1, hR.ok, hR.form, hs, ht, hd, ha, hl] <;> omega
  · simp [iDec_2, hR.ok, hR.form, hs, ht, hd, ha, hl] <;> omega
  · simp [iDec_3, hR.ok, hR.form, hs, ht, hd, ha, hl] <;> omega
  · simp [iDec_4, hR.ok, hR.form, hs, ht, hd, ha, hl]
  · simp [iDec_5, hR.ok, hR.form, hs, ht, hd, ha, hl]
theorem decF_I (hR : IsRow w op 10) (hf : Fld w o s t m) : IsDec w op s t 0 0 (bSext_0 (BitVec.ofNat 32 m) 16) := by
  have hs := hf.s
  have ht := hf.t
  have hd := hf.d
  have ha := hf.a
  have hl := hf.low
  have ns := nat_of hf.hs
  have nt := nat_of hf.ht
  have nd := nat_of (n := m / 2048) (by have := hf.hm; omega)
  have na := nat_of (n := m / 64 % 32) (by omega)
  refine ⟨?_, ?_, ?_, ?_, ?_, ?_⟩
  · simp [iDec_0, hR.ok, hR.form, hR.op, hs, ht, hd, ha, hl]
  · simp [iDec_1, hR.ok, hR.form, hs, ht, hd, ha, hl] <;> omega
  · simp [iDec_2, hR.ok, hR.form, hs, ht, hd, ha, hl] <;> omega
  · simp [iDec_3, hR.ok, hR.form, hs, ht, hd, ha, hl]
  · simp [iDec_4, hR.ok, hR.form, hs, ht, hd, ha, hl]
  · simp [iDec_5, hR.ok, hR.form, hs, ht, hd, ha, hl]
theorem decF_P (hR : IsRow w op 13) (hf : Fld w o s t m) : IsDec w op s t 0 0 (bSext_0 (BitVec.ofNat 32 m) 16) := by
  have hs := hf.s
  have ht := hf.t
  have hd := hf.d
  have ha := hf.a
  have hl := hf.low
  have ns := nat_of hf.hs
  have nt := nat_of hf.ht
  have nd := nat_of (n := m / 2048) (by have := hf.hm; omega)
  have na := nat_of (n := m / 64 % 32) (by omega)
  refine ⟨?_, ?_, ?_, ?_, ?_, ?_⟩
  · simp [iDec_0, hR.ok, hR.form, hR.op, hs, ht, hd, ha, hl]
  · simp [iDec_1, hR.ok, hR.form, hs, ht, hd, ha, hl] <;> omega
  · simp [iDec_2, hR.ok, hR.form, hs, ht, hd, ha, hl] <;> omega
  · simp [iDec_3, hR.ok, hR.form, hs, ht, hd, ha, hl]
  · simp [iDec_4, hR.ok, hR.form, hs, ht, hd, ha, hl]
  · simp [iDec_5, hR.ok, hR.form, hs, ht, hd, ha, hl]
theorem decF_U (hR : IsRow w op 11) (hf : Fld w o s t m) : IsDec w op s t 0 0 (BitVec.ofNat 32 m) := by
  have hs := hf.s
  have ht := hf.t
  have hd := hf.d
  have ha := hf.a
  have hl := hf.low
  have ns := nat_of hf.hs
  have nt := nat_of hf.ht
  have nd := nat_of (n := m / 2048) (by have := hf.hm; omega)
  have na := nat_of (n := m / 64 % 32) (by omega)
  refine ⟨?_, ?_, ?_, ?_, ?_, ?_⟩
  · simp [iDec_0, hR.ok, hR.form, hR.op, hs, ht, hd, ha, hl]
  · simp [iDec_1, hR.ok, hR.form, hs, ht, hd, ha, hl] <;> omega
  · simp [iDec_2, hR.ok, hR.form, hs, ht, hd, ha, hl] <;> omega
  · simp [iDec_3, hR.ok, hR.form, hs, ht, hd, ha, hl]
  · simp [iDec_4, hR.ok, hR.form, hs, ht, hd, ha, hl]
  · simp [iDec_5, hR.ok, hR.form, hs, ht, hd, ha, hl]
theorem decF_V (hR : IsRow w op 12) (hf : Fld w o s t m) (hz : s = 0) : IsDec w op 0 t 0 0 (BitVec.ofNat 32 m) := by
  have hs := hf.s
  have ht := hf.t
  have hd := hf.d
  have ha := hf.a
  have hl := hf.low
  have ns := nat_of hf.hs
  have nt := nat_of hf.ht
  have nd := nat_of (n := m / 2048) (by have := hf.hm; omega)
  have na := nat_of (n := m / 64 % 32) (by omega)
  subst hz
  refine ⟨?_, ?_, ?_, ?_, ?_, ?_⟩
  · simp [iDec_0, hR.ok, hR.form, hR.op, hs, ht, hd, ha, hl]
  · simp [iDec_1, hR.ok, hR.form, hs, ht, hd, ha, hl]
  · simp [iDec_2, hR.ok, hR.form, hs, ht, hd, ha, hl] <;> omega
  · simp [iDec_3, hR.ok, hR.form, hs, ht, hd, ha, hl]
  · simp [iDec_4, hR.ok, hR.form, hs, ht, hd, ha, hl]
  · simp [iDec_5, hR.ok, hR.form, hs, ht, hd, ha, hl]
theorem decF_B (hR : IsRow w op 14) (hf : Fld w o s t m) : IsDec w op s t 0 0 (bSext_0 (BitVec.ofNat 32 m) 16 * 4#32) := by
  have hs := hf.s
  have ht := hf.t
  have hd := hf.d
  have ha := hf.a
  have hl := hf.low
  have ns := nat_of hf.hs
  have nt := nat_of hf.ht
  have nd := nat_of (n := m / 2048) (by have := hf.hm; omega)
  have na := nat_of (n := m / 64 % 32) (by omega)
  refine ⟨?_, ?_, ?_, ?_, ?_, ?_⟩
  · simp [iDec_0, hR.ok, hR.form, hR.op, hs, ht, hd, ha, hl]
  · simp [iDec_1, hR.ok, hR.form, hs, ht, hd, ha, hl] <;> omega
  · simp [iDec_2, hR.ok, hR.form, hs, ht, hd, ha, hl] <;> omega
  · simp [iDec_3, hR.ok, hR.form, hs, ht, hd, ha, hl]
  · simp [iDec_4, hR.ok, hR.form, hs, ht, hd, ha, hl]
  · simp [iDec_5, hR.ok, hR.form, hs, ht, hd, ha, hl]
theorem decF_Z (hR : IsRow w op 15) (hf : Fld w o s t m) (hz : t = 0) : IsDec w op s 0 0 0 (bSext_0 (BitVec.ofNat 32 m) 16 * 4#32) := by
  have hs := hf.s
  have ht := hf.t
  have hd := hf.d
  have ha := hf.a
  have hl := hf.low
  have ns := nat_of hf.hs
  have nt := nat_of hf.ht
  have nd := nat_of (n := m / 2048) (by have := hf.hm; omega)
  have na := nat_of (n := m / 64 % 32) (by omega)
  subst hz
  refine ⟨?_, ?_, ?_, ?_, ?_, ?_⟩
  · simp [iDec_0, hR.ok, hR.form, hR.op, hs, ht, hd, ha, hl]
  · simp [iDec_1, hR.ok, hR.form, hs, ht, hd, ha, hl] <;> omega
  · simp [iDec_2, hR.ok, hR.form, hs, ht, hd, ha, hl]
  · simp [iDec_3, hR.ok, hR.form, hs, ht, hd, ha, hl]
  · simp [iDec_4, hR.ok, hR.form, hs, ht, hd, ha, hl]
  · simp [iDec_5, hR.ok, hR.form, hs, ht, hd, ha, hl]
theorem decF_R (hR : IsRow w op 16) (hf : Fld w o s t m) : IsDec w op s 0 0 0 (bSext_0 (BitVec.ofNat 32 m) 16 * 4#32) := by
  have hs := hf.s
  have ht := hf.t
  have hd := hf.d
  have ha := hf.a
  have hl := hf.low
  have ns := nat_of hf.hs
  have nt := nat_of hf.ht
  have nd := nat_of (n := m / 2048) (by have := hf.hm; omega)
  have na := nat_of (n := m / 64 % 32) (by omega)
  refine ⟨?_, ?_, ?_, ?_, ?_, ?_⟩
  · simp [iDec_0, hR.ok, hR.form, hR.op, hs, ht, hd, ha, hl]
  · simp [iDec_1, hR.ok, hR.form, hs, ht, hd, ha, hl] <;> omega
  · simp [iDec_2, hR.ok, hR.form, hs, ht, hd, ha, hl]
  · simp [iDec_3, hR.ok, hR.form, hs, ht, hd, ha, hl]
  · simp [iDec_4, hR.ok, hR.form, hs, ht, hd, ha, hl]
  · simp [iDec_5, hR.ok, hR.form, hs, ht, hd, ha, hl]
end
end Go.Proofs.Ytchoogeojpllfaa
