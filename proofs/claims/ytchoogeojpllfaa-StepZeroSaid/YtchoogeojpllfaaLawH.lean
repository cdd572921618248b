/- A part of the walk or of the law. -/
import Derived.Test.YtchoogeojpllfaaLawG
set_option linter.unusedVariables false
set_option linter.unusedSimpArgs false
namespace Go.Proofs.Ytchoogeojpllfaa
open Go.Sx
set_option maxHeartbeats 4000000
section
variable {s t d a : Int} {imm : BitVec 32}
theorem row_1 (hs : Reg s) (ht : Reg t) (hd : Reg d) (ha : Reg a) : Fld (enc_0 1 s t d a imm) 0 s.toNat t.toNat (d.toNat * 2048 + a.toNat * 64 + 33) ∧ IsRow (enc_0 1 s t d a imm) 1 0 := by
  have hf : Fld (enc_0 1 s t d a imm) 0 s.toNat t.toNat (d.toNat * 2048 + a.toNat * 64 + 33) := fld5 hs ht hd ha (by decide) (by decide) (by kernel_rfl)
  exact ⟨hf, isRow_of hf.o (hf.f.trans (by rw [show (d.toNat * 2048 + a.toNat * 64 + 33) % 64 = 33 by omega])) rfl (by kernel_rfl) (by kernel_rfl) (by kernel_rfl)⟩
theorem row_2 (hs : Reg s) (ht : Reg t) (hd : Reg d) (ha : Reg a) : Fld (enc_0 2 s t d a imm) 0 s.toNat t.toNat (d.toNat * 2048 + a.toNat * 64 + 35) ∧ IsRow (enc_0 2 s t d a imm) 2 0 := by
  have hf : Fld (enc_0 2 s t d a imm) 0 s.toNat t.toNat (d.toNat * 2048 + a.toNat * 64 + 35) := fld5 hs ht hd ha (by decide) (by decide) (by kernel_rfl)
  exact ⟨hf, isRow_of hf.o (hf.f.trans (by rw [show (d.toNat * 2048 + a.toNat * 64 + 35) % 64 = 35 by omega])) rfl (by kernel_rfl) (by kernel_rfl) (by kernel_rfl)⟩
theorem row_3 (hs : Reg s) (ht : Reg t) (hd : Reg d) (ha : Reg a) : Fld (enc_0 3 s t d a imm) 0 s.toNat t.toNat (d.toNat * 2048 + a.toNat * 64 + 36) ∧ IsRow (enc_0 3 s t d a imm) 3 0 := by
  have hf : Fld (enc_0 3 s t d a imm) 0 s.toNat t.toNat (d.toNat * 2048 + a.toNat * 64 + 36) := fld5 hs ht hd ha (by decide) (by decide) (by kernel_rfl)
  exact ⟨hf, isRow_of hf.o (hf.f.trans (by rw [show (d.toNat * 2048 + a.toNat * 64 + 36) % 64 = 36 by omega])) rfl (by kernel_rfl) (by kernel_rfl) (by kernel_rfl)⟩
theorem row_4 (hs : Reg s) (ht : Reg t) (hd : Reg d) (ha : Reg a) : Fld (enc_0 4 s t d a imm) 0 s.toNat t.toNat (d.toNat * 2048 + a.toNat * 64 + 37) ∧ IsRow (enc_0 4 s t d a imm) 4 0 := by
  have hf : Fld (enc_0 4 s t d a imm) 0 s.toNat t.toNat (d.toNat * 2048 + a.toNat * 64 + 37) := fld5 hs ht hd ha (by decide) (by decide) (by kernel_rfl)
  exact ⟨hf, isRow_of hf.o (hf.f.trans (by rw [show (d.toNat * 2048 + a.toNat * 64 + 37) % 64 = 37 by omega])) rfl (by kernel_rfl) (by kernel_rfl) (by kernel_rfl)⟩
theorem row_5 (hs : Reg s) (ht : Reg t) (hd : Reg d) (ha : Reg a) : Fld (enc_0 5 s t d a imm) 0 s.toNat t.toNat (d.toNat * 2048 + a.toNat * 64 + 38) ∧ IsRow (enc_0 5 s t d a imm) 5 0 := by
  have hf : Fld (enc_0 5 s t d a imm) 0 s.toNat t.toNat (d.toNat * 2048 + a.toNat * 64 + 38) := fld5 hs ht hd ha (by decide) (by decide) (by kernel_rfl)
  exact ⟨hf, isRow_of hf.o (hf.f.trans (by rw [show (d.toNat * 2048 + a.toNat * 64 + 38) % 64 = 38 by omega])) rfl (by kernel_rfl) (by kernel_rfl) (by kernel_rfl)⟩
theorem row_6 (hs : Reg s) (ht : Reg t) (hd : Reg d) (ha : Reg a) : Fld (enc_0 6 s t d a imm) 0 s.toNat t.toNat (d.toNat * 2048 + a.toNat * 64 + 39) ∧ IsRow (enc_0 6 s t d a imm) 6 0 := by
  have hf : Fld (enc_0 6 s t d a imm) 0 s.toNat t.toNat (d.toNat * 2048 + a.toNat * 64 + 39) := fld5 hs ht hd ha (by decide) (by decide) (by kernel_rfl)
  exact ⟨hf, isRow_of hf.o (hf.f.trans (by rw [show (d.toNat * 2048 + a.toNat * 64 + 39) % 64 = 39 by omega])) rfl (by kernel_rfl) (by kernel_rfl) (by kernel_rfl)⟩
theorem row_7 (hs : Reg s) (ht : Reg t) (hd : Reg d) (ha : Reg a) : Fld (enc_0 7 s t d a imm) 0 s.toNat t.toNat (d.toNat * 2048 + a.toNat * 64 + 42) ∧ IsRow (enc_0 7 s t d a imm) 7 0 := by
  have hf : Fld (enc_0 7 s t d a imm) 0 s.toNat t.toNat (d.toNat * 2048 + a.toNat * 64 + 42) := fld5 hs ht hd ha (by decide) (by decide) (by kernel_rfl)
  exact ⟨hf, isRow_of hf.o (hf.f.trans (by rw [show (d.toNat * 2048 + a.toNat * 64 + 42) % 64 = 42 by omega])) rfl (by kernel_rfl) (by kernel_rfl) (by kernel_rfl)⟩
theorem row_8 (hs : Reg s) (ht : Reg t) (hd : Reg d) (ha : Reg a) : Fld (enc_0 8 s t d a imm) 0 s.toNat t.toNat (d.toNat * 2048 + a.toNat * 64 + 43) ∧ IsRow (enc_0 8 s t d a imm) 8 0 := by
  have hf : Fld (enc_0 8 s t d a imm) 0 s.toNat t.toNat (d.toNat * 2048 + a.toNat * 64 + 43) := fld5 hs ht hd ha (by decide) (by decide) (by kernel_rfl)
  exact ⟨hf, isRow_of hf.o (hf.f.trans (by rw [show (d.toNat * 2048 + a.toNat * 64 + 43) % 64 = 43 by omega])) rfl (by kernel_rfl) (by kernel_rfl) (by kernel_rfl)⟩
theorem row_9 (hs : Reg s) (ht : Reg t) (hd : Reg d) (ha : Reg a) : Fld (enc_0 9 s t d a imm) 0 s.toNat t.toNat (d.toNat * 2048 + a.toNat * 64 + 32) ∧ IsRow (enc_0 9 s t d a imm) 9 0 := by
  have hf : Fld (enc_0 9 s t d a imm) 0 s.toNat t.toNat (d.toNat * 2048 + a.toNat * 64 + 32) := fld5 hs ht hd ha (by decide) (by decide) (by kernel_rfl)
  exact ⟨hf, isRow_of hf.o (hf.f.trans (by rw [show (d.toNat * 2048 + a.toNat * 64 + 32) % 64 = 32 by omega])) rfl (by kernel_rfl) (by kernel_rfl) (by kernel_rfl)⟩
theorem row_10 (hs : Reg s) (ht : Reg t) (hd : Reg d) (ha : Reg a) : Fld (enc_0 10 s t d a imm) 0 s.toNat t.toNat (d.toNat * 2048 + a.toNat * 64 + 34) ∧ IsRow (enc_0 10 s t d a imm) 10 0 := by
  have hf : Fld (enc_0 10 s t d a imm) 0 s.toNat t.toNat (d.toNat * 2048 + a.toNat * 64 + 34) := fld5 hs ht hd ha (by decide) (by decide) (by kernel_rfl)
  exact ⟨hf, isRow_of hf.o (hf.f.trans (by rw [show (d.toNat * 2048 + a.toNat * 64 + 34) % 64 = 34 by omega])) rfl (by kernel_rfl) (by kernel_rfl) (by kernel_rfl)⟩
theorem row_11 (hs : Reg s) (ht : Reg t) (hd : Reg d) (ha : Reg a) : Fld (enc_0 11 s t d a imm) 0 s.toNat t.toNat (d.toNat * 2048 + a.toNat * 64 + 4) ∧ IsRow (enc_0 11 s t d a imm) 11 0 := by
  have hf : Fld (enc_0 11 s t d a imm) 0 s.toNat t.toNat (d.toNat * 2048 + a.toNat * 64 + 4) := fld5 hs ht hd ha (by decide) (by decide) (by kernel_rfl)
  exact ⟨hf, isRow_of hf.o (hf.f.trans (by rw [show (d.toNat * 2048 + a.toNat * 64 + 4) % 64 = 4 by omega])) rfl (by kernel_rfl) (by kernel_rfl) (by kernel_rfl)⟩
theorem row_12 (hs : Reg s) (ht : Reg t) (hd : Reg d) (ha : Reg a) : Fld (enc_0 12 s t d a imm) 0 s.toNat t.toNat (d.toNat * 2048 + a.toNat * 64 + 6) ∧ IsRow (enc_0 12 s t d a imm) 12 0 := by
  have hf : Fld (enc_0 12 s t d a imm) 0 s.toNat t.toNat (d.toNat * 2048 + a.toNat * 64 + 6) := fld5 hs ht hd ha (by decide) (by decide) (by kernel_rfl)
  exact ⟨hf, isRow_of hf.o (hf.f.trans (by rw [show (d.toNat * 2048 + a.toNat * 64 + 6) % 64 = 6 by omega])) rfl (by kernel_rfl) (by kernel_rfl) (by kernel_rfl)⟩
theorem row_13 (hs : Reg s) (ht : Reg t) (hd : Reg d) (ha : Reg a) : Fld (enc_0 13 s t d a imm) 0 s.toNat t.toNat (d.toNat * 2048 + a.toNat * 64 + 7) ∧ IsRow (enc_0 13 s t d a imm) 13 0 := by
  have hf : Fld (enc_0 13 s t d a imm) 0 s.toNat t.toNat (d.toNat * 2048 + a.toNat * 64 + 7) := fld5 hs ht hd ha (by decide) (by decide) (by kernel_rfl)
  exact ⟨hf, isRow_of hf.o (hf.f.trans (by rw [show (d.toNat * 2048 + a.toNat * 64 + 7) % 64 = 7 by omega])) rfl (by kernel_rfl) (by kernel_rfl) (by kernel_rfl)⟩
theorem row_14 (hs : Reg s) (ht : Reg t) (hd : Reg d) (ha : Reg a) : Fld (enc_0 14 s t d a imm) 0 s.toNat t.toNat (d.toNat * 2048 + a.toNat * 64 + 10) ∧ IsRow (enc_0 14 s t d a imm) 14 0 := by
  have hf : Fld (enc_0 14 s t d a imm) 0 s.toNat t.toNat (d.toNat * 2048 + a.toNat * 64 + 10) := fld5 hs ht hd ha (by decide) (by decide) (by kernel_rfl)
  exact ⟨hf, isRow_of hf.o (hf.f.trans (by rw [show (d.toNat * 2048 + a.toNat * 64 + 10) % 64 = 10 by omega])) rfl (by kernel_rfl) (by kernel_rfl) (by kernel_rfl)⟩
theorem row_15 (hs : Reg s) (ht : Reg t) (hd : Reg d) (ha : Reg a) : Fld (enc_0 15 s t d a imm) 0 s.toNat t.toNat (d.toNat * 2048 + a.toNat * 64 + 11) ∧ IsRow (enc_0 15 s t d a imm) 15 0 := by
  have hf : Fld (enc_0 15 s t d a imm) 0 s.toNat t.toNat (d.toNat * 2048 + a.toNat * 64 + 11) := fld5 hs ht hd ha (by decide) (by decide) (by kernel_rfl)
  exact ⟨hf, isRow_of hf.o (hf.f.trans (by rw [show (d.toNat * 2048 + a.toNat * 64 + 11) % 64 = 11 by omega])) rfl (by kernel_rfl) (by kernel_rfl) (by kernel_rfl)⟩
theorem row_16 (hs : Reg s) (ht : Reg t) (hd : Reg d) (ha : Reg a) : Fld (enc_0 16 s t d a imm) 0 s.toNat t.toNat (d.toNat * 2048 + a.toNat * 64 + 0) ∧ IsRow (enc_0 16 s t d a imm) 16 1 := by
  have hf : Fld (enc_0 16 s t d a imm) 0 s.toNat t.toNat (d.toNat * 2048 + a.toNat * 64 + 0) := fld5 hs ht hd ha (by decide) (by decide) (by kernel_rfl)
  exact ⟨hf, isRow_of hf.o (hf.f.trans (by rw [show (d.toNat * 2048 + a.toNat * 64 + 0) % 64 = 0 by omega])) rfl (by kernel_rfl) (by kernel_rfl) (by kernel_rfl)⟩
theorem row_17 (hs : Reg s) (ht : Reg t) (hd : Reg d) (ha : Reg a) : Fld (enc_0 17 s t d a imm) 0 s.toNat t.toNat (d.toNat * 2048 + a.toNat * 64 + 2) ∧ IsRow (enc_0 17 s t d a imm) 17 1 := by
  have hf : Fld (enc_0 17 s t d a imm) 0 s.toNat t.toNat (d.toNat * 2048 + a.toNat * 64 + 2) := fld5 hs ht hd ha (by decide) (by decide) (by kernel_rfl)
  exact ⟨hf, isRow_of hf.o (hf.f.trans (by rw [show (d.toNat * 2048 + a.toNat * 64 + 2) % 64 = 2 by omega])) rfl (by kernel_rfl) (by kernel_rfl) (by kernel_rfl)⟩
theorem row_18 (hs : Reg s) (ht : Reg t) (hd : Reg d) (ha : Reg a) : Fld (enc_0 18 s t d a imm) 0 s.toNat t.toNat (d.toNat * 2048 + a.toNat * 64 + 3) ∧ IsRow (enc_0 18 s t d a imm) 18 1 := by
  have hf : Fld (enc_0 18 s t d a imm) 0 s.toNat t.toNat (d.toNat * 2048 + a.toNat * 64 + 3) := fld5 hs ht hd ha (by decide) (by decide) (by kernel_rfl)
  exact ⟨hf, isRow_of hf.o (hf.f.trans (by rw [show (d.toNat * 2048 + a.toNat * 64 + 3) % 64 = 3 by omega])) rfl (by kernel_rfl) (by kernel_rfl) (by kernel_rfl)⟩
theorem row_19 (hs : Reg s) (ht : Reg t) (hd : Reg d) (ha : Reg a) : Fld (enc_0 19 s t d a imm) 0 s.toNat t.toNat (d.toNat * 2048 + a.toNat * 64 + 24) ∧ IsRow (enc_0 19 s t d a imm) 19 2 := by
  have hf : Fld (enc_0 19 s t d a imm) 0 s.toNat t.toNat (d.toNat * 2048 + a.toNat * 64 + 24) := fld5 hs ht hd ha (by decide) (by decide) (by kernel_rfl)
  exact ⟨hf, isRow_of hf.o (hf.f.trans (by rw [show (d.toNat * 2048 + a.toNat * 64 + 24) % 64 = 24 by omega])) rfl (by kernel_rfl) (by kernel_rfl) (by kernel_rfl)⟩
theorem row_20 (hs : Reg s) (ht : Reg t) (hd : Reg d) (ha : Reg a) : Fld (enc_0 20 s t d a imm) 0 s.toNat t.toNat (d.toNat * 2048 + a.toNat * 64 + 25) ∧ IsRow (enc_0 20 s t d a imm) 20 2 := by
  have hf : Fld (enc_0 20 s t d a imm) 0 s.toNat t.toNat (d.toNat * 2048 + a.toNat * 64 + 25) := fld5 hs ht hd ha (by decide) (by decide) (by kernel_rfl)
  exact ⟨hf, isRow_of hf.o (hf.f.trans (by rw [show (d.toNat * 2048 + a.toNat * 64 + 25) % 64 = 25 by omega])) rfl (by kernel_rfl) (by kernel_rfl) (by kernel_rfl)⟩
theorem row_21 (hs : Reg s) (ht : Reg t) (hd : Reg d) (ha : Reg a) : Fld (enc_0 21 s t d a imm) 0 s.toNat t.toNat (d.toNat * 2048 + a.toNat * 64 + 26) ∧ IsRow (enc_0 21 s t d a imm) 21 2 := by
  have hf : Fld (enc_0 21 s t d a imm) 0 s.toNat t.toNat (d.toNat * 2048 + a.toNat * 64 + 26) := fld5 hs ht hd ha (by decide) (by decide) (by kernel_rfl)
  exact ⟨hf, isRow_of hf.o (hf.f.trans (by rw [show (d.toNat * 2048 + a.toNat * 64 + 26) % 64 = 26 by omega])) rfl (by kernel_rfl) (by kernel_rfl) (by kernel_rfl)⟩
theorem row_22 (hs : Reg s) (ht : Reg t) (hd : Reg d) (ha : Reg a) : Fld (enc_0 22 s t d a imm) 0 s.toNat t.toNat (d.toNat * 2048 + a.toNat * 64 + 27) ∧ IsRow (enc_0 22 s t d a imm) 22 2 := by
  have hf : Fld (enc_0 22 s t d a imm) 0 s.toNat t.toNat (d.toNat * 2048 + a.toNat * 64 + 27) := fld5 hs ht hd ha (by decide) (by decide) (by kernel_rfl)
  exact ⟨hf, isRow_of hf.o (hf.f.trans (by rw [show (d.toNat * 2048 + a.toNat * 64 + 27) % 64 = 27 by omega])) rfl (by kernel_rfl) (by kernel_rfl) (by kernel_rfl)⟩
theorem row_23 (hs : Reg s) (ht : Reg t) (hd : Reg d) (ha : Reg a) : Fld (enc_0 23 s t d a imm) 0 s.toNat t.toNat (d.toNat * 2048 + a.toNat * 64 + 16) ∧ IsRow (enc_0 23 s t d a imm) 23 3 := by
  have hf : Fld (enc_0 23 s t d a imm) 0 s.toNat t.toNat (d.toNat * 2048 + a.toNat * 64 + 16) := fld5 hs ht hd ha (by decide) (by decide) (by kernel_rfl)
  exact ⟨hf, isRow_of hf.o (hf.f.trans (by rw [show (d.toNat * 2048 + a.toNat * 64 + 16) % 64 = 16 by omega])) rfl (by kernel_rfl) (by kernel_rfl) (by kernel_rfl)⟩
theorem row_24 (hs : Reg s) (ht : Reg t) (hd : Reg d) (ha : Reg a) : Fld (enc_0 24 s t d a imm) 0 s.toNat t.toNat (d.toNat * 2048 + a.toNat * 64 + 18) ∧ IsRow (enc_0 24 s t d a imm) 24 3 := by
  have hf : Fld (enc_0 24 s t d a imm) 0 s.toNat t.toNat (d.toNat * 2048 + a.toNat * 64 + 18) := fld5 hs ht hd ha (by decide) (by decide) (by kernel_rfl)
  exact ⟨hf, isRow_of hf.o (hf.f.trans (by rw [show (d.toNat * 2048 + a.toNat * 64 + 18) % 64 = 18 by omega])) rfl (by kernel_rfl) (by kernel_rfl) (by kernel_rfl)⟩
theorem row_25 (hs : Reg s) (ht : Reg t) (hd : Reg d) (ha : Reg a) : Fld (enc_0 25 s t d a imm) 0 s.toNat t.toNat (d.toNat * 2048 + a.toNat * 64 + 17) ∧ IsRow (enc_0 25 s t d a imm) 25 4 := by
  have hf : Fld (enc_0 25 s t d a imm) 0 s.toNat t.toNat (d.toNat * 2048 + a.toNat * 64 + 17) := fld5 hs ht hd ha (by decide) (by decide) (by kernel_rfl)
  exact ⟨hf, isRow_of hf.o (hf.f.trans (by rw [show (d.toNat * 2048 + a.toNat * 64 + 17) % 64 = 17 by omega])) rfl (by kernel_rfl) (by kernel_rfl) (by kernel_rfl)⟩
theorem row_26 (hs : Reg s) (ht : Reg t) (hd : Reg d) (ha : Reg a) : Fld (enc_0 26 s t d a imm) 0 s.toNat t.toNat (d.toNat * 2048 + a.toNat * 64 + 19) ∧ IsRow (enc_0 26 s t d a imm) 26 4 := by
  have hf : Fld (enc_0 26 s t d a imm) 0 s.toNat t.toNat (d.toNat * 2048 + a.toNat * 64 + 19) := fld5 hs ht hd ha (by decide) (by decide) (by kernel_rfl)
  exact ⟨hf, isRow_of hf.o (hf.f.trans (by rw [show (d.toNat * 2048 + a.toNat * 64 + 19) % 64 = 19 by omega])) rfl (by kernel_rfl) (by kernel_rfl) (by kernel_rfl)⟩
theorem row_27 (hs : Reg s) (ht : Reg t) (hd : Reg d) (ha : Reg a) : Fld (enc_0 27 s t d a imm) 0 s.toNat t.toNat (d.toNat * 2048 + a.toNat * 64 + 8) ∧ IsRow (enc_0 27 s t d a imm) 27 4 := by
  have hf : Fld (enc_0 27 s t d a imm) 0 s.toNat t.toNat (d.toNat * 2048 + a.toNat * 64 + 8) := fld5 hs ht hd ha (by decide) (by decide) (by kernel_rfl)
  exact ⟨hf, isRow_of hf.o (hf.f.trans (by rw [show (d.toNat * 2048 + a.toNat * 64 + 8) % 64 = 8 by omega])) rfl (by kernel_rfl) (by kernel_rfl) (by kernel_rfl)⟩
theorem row_28 (hs : Reg s) (ht : Reg t) (hd : Reg d) (ha : Reg a) : Fld (enc_0 28 s t d a imm) 0 s.toNat t.toNat (d.toNat * 2048 + a.toNat * 64 + 9) ∧ IsRow (enc_0 28 s t d a imm) 28 5 := by
  have hf : Fld (enc_0 28 s t d a imm) 0 s.toNat t.toNat (d.toNat * 2048 + a.toNat * 64 + 9) := fld5 hs ht hd ha (by decide) (by decide) (by kernel_rfl)
  exact ⟨hf, isRow_of hf.o (hf.f.trans (by rw [show (d.toNat * 2048 + a.toNat * 64 + 9) % 64 = 9 by omega])) rfl (by kernel_rfl) (by kernel_rfl) (by kernel_rfl)⟩
theorem row_29 (hs : Reg s) (ht : Reg t) : Fld (enc_0 29 s t d a imm) 0 s.toNat t.toNat (imm.toNat % 1024 * 64 + 48) ∧ IsRow (enc_0 29 s t d a imm) 29 6 := by
  have hf : Fld (enc_0 29 s t d a imm) 0 s.toNat t.toNat (imm.toNat % 1024 * 64 + 48) := fldT hs ht (by decide) (by decide) (by kernel_rfl)
  exact ⟨hf, isRow_of hf.o (hf.f.trans (by rw [show (imm.toNat % 1024 * 64 + 48) % 64 = 48 by omega])) rfl (by kernel_rfl) (by kernel_rfl) (by kernel_rfl)⟩
theorem row_30 (hs : Reg s) (ht : Reg t) : Fld (enc_0 30 s t d a imm) 0 s.toNat t.toNat (imm.toNat % 1024 * 64 + 49) ∧ IsRow (enc_0 30 s t d a imm) 30 6 := by
  have hf : Fld (enc_0 30 s t d a imm) 0 s.toNat t.toNat (imm.toNat % 1024 * 64 + 49) := fldT hs ht (by decide) (by decide) (by kernel_rfl)
  exact ⟨hf, isRow_of hf.o (hf.f.trans (by rw [show (imm.toNat % 1024 * 64 + 49) % 64 = 49 by omega])) rfl (by kernel_rfl) (by kernel_rfl) (by kernel_rfl)⟩
theorem row_31 (hs : Reg s) (ht : Reg t) : Fld (enc_0 31 s t d a imm) 0 s.toNat t.toNat (imm.toNat % 1024 * 64 + 50) ∧ IsRow (enc_0 31 s t d a imm) 31 6 := by
  have hf : Fld (enc_0 31 s t d a imm) 0 s.toNat t.toNat (imm.toNat % 1024 * 64 + 50) := fldT hs ht (by decide) (by decide) (by kernel_rfl)
  exact ⟨hf, isRow_of hf.o (hf.f.trans (by rw [show (imm.toNat % 1024 * 64 + 50) % 64 = 50 by omega])) rfl (by kernel_rfl) (by kernel_rfl) (by kernel_rfl)⟩
theorem row_32 (hs : Reg s) (ht : Reg t) : Fld (enc_0 32 s t d a imm) 0 s.toNat t.toNat (imm.toNat % 1024 * 64 + 51) ∧ IsRow (enc_0 32 s t d a imm) 32 6 := by
  have hf : Fld (enc_0 32 s t d a imm) 0 s.toNat t.toNat (imm.toNat % 1024 * 64 + 51) := fldT hs ht (by decide) (by decide) (by kernel_rfl)
  exact ⟨hf, isRow_of hf.o (hf.f.trans (by rw [show (imm.toNat % 1024 * 64 + 51) % 64 = 51 by omega])) rfl (by kernel_rfl) (by kernel_rfl) (by kernel_rfl)⟩
theorem row_33 (hs : Reg s) (ht : Reg t) : Fld (enc_0 33 s t d a imm) 0 s.toNat t.toNat (imm.toNat % 1024 * 64 + 52) ∧ IsRow (enc_0 33 s t d a imm) 33 6 := by
  have hf : Fld (enc_0 33 s t d a imm) 0 s.toNat t.toNat (imm.toNat % 1024 * 64 + 52) := fldT hs ht (by decide) (by decide) (by kernel_rfl)
  exact ⟨hf, isRow_of hf.o (hf.f.trans (by rw [show (imm.toNat % 1024 * 64 + 52) % 64 = 52 by omega])) rfl (by kernel_rfl) (by kernel_rfl) (by kernel_rfl)⟩
theorem row_34 (hs : Reg s) (ht : Reg t) : Fld (enc_0 34 s t d a imm) 0 s.toNat t.toNat (imm.toNat % 1024 * 64 + 54) ∧ IsRow (enc_0 34 s t d a imm) 34 6 := by
  have hf : Fld (enc_0 34 s t d a imm) 0 s.toNat t.toNat (imm.toNat % 1024 * 64 + 54) := fldT hs ht (by decide) (by decide) (by kernel_rfl)
  exact ⟨hf, isRow_of hf.o (hf.f.trans (by rw [show (imm.toNat % 1024 * 64 + 54) % 64 = 54 by omega])) rfl (by kernel_rfl) (by kernel_rfl) (by kernel_rfl)⟩
theorem row_37 (hs : Reg s) (ht : Reg t) (hd : Reg d) (ha : Reg a) : Fld (enc_0 37 s t d a imm) 28 s.toNat t.toNat (d.toNat * 2048 + a.toNat * 64 + 2) ∧ IsRow (enc_0 37 s t d a imm) 37 8 := by
  have hf : Fld (enc_0 37 s t d a imm) 28 s.toNat t.toNat (d.toNat * 2048 + a.toNat * 64 + 2) := fld5 hs ht hd ha (by decide) (by decide) (by kernel_rfl)
  exact ⟨hf, isRow_of hf.o (hf.f.trans (by rw [show (d.toNat * 2048 + a.toNat * 64 + 2) % 64 = 2 by omega])) rfl (by kernel_rfl) (by kernel_rfl) (by kernel_rfl)⟩
theorem row_38 (hs : Reg s) (ht : Reg t) (hd : Reg d) (ha : Reg a) : Fld (enc_0 38 s t d a imm) 28 s.toNat t.toNat (d.toNat * 2048 + a.toNat * 64 + 32) ∧ IsRow (enc_0 38 s t d a imm) 38 9 := by
  have hf : Fld (enc_0 38 s t d a imm) 28 s.toNat t.toNat (d.toNat * 2048 + a.toNat * 64 + 32) := fld5 hs ht hd ha (by decide) (by decide) (by kernel_rfl)
  exact ⟨hf, isRow_of hf.o (hf.f.trans (by rw [show (d.toNat * 2048 + a.toNat * 64 + 32) % 64 = 32 by omega])) rfl (by kernel_rfl) (by kernel_rfl) (by kernel_rfl)⟩
theorem row_39 (hs : Reg s) (ht : Reg t) (hd : Reg d) (ha : Reg a) : Fld (enc_0 39 s t d a imm) 28 s.toNat t.toNat (d.toNat * 2048 + a.toNat * 64 + 33) ∧ IsRow (enc_0 39 s t d a imm) 39 9 := by
  have hf : Fld (enc_0 39 s t d a imm) 28 s.toNat t.toNat (d.toNat * 2048 + a.toNat * 64 + 33) := fld5 hs ht hd ha (by decide) (by decide) (by kernel_rfl)
  exact ⟨hf, isRow_of hf.o (hf.f.trans (by rw [show (d.toNat * 2048 + a.toNat * 64 + 33) % 64 = 33 by omega])) rfl (by kernel_rfl) (by kernel_rfl) (by kernel_rfl)⟩
theorem row_40 (hs : Reg s) (ht : Reg t) : Fld (enc_0 40 s t d a imm) 9 s.toNat t.toNat (imm.toNat % 65536) ∧ IsRow (enc_0 40 s t d a imm) 40 10 := by
  have hf : Fld (enc_0 40 s t d a imm) 9 s.toNat t.toNat (imm.toNat % 65536) := by
    have h := fld3 (w := enc_0 40 s t d a imm) (o := 9) (s := s) (T := rg t) (imm := imm) hs (rgT ht) (by decide) (by kernel_rfl)
    rw [(rg_lt ht).1] at h
    exact h
  exact ⟨hf, isRow_of hf.o rfl rfl (by kernel_rfl) (by kernel_rfl) (by kernel_rfl)⟩
theorem row_41 (hs : Reg s) (ht : Reg t) : Fld (enc_0 41 s t d a imm) 8 s.toNat t.toNat (imm.toNat % 65536) ∧ IsRow (enc_0 41 s t d a imm) 41 10 := by
  have hf : Fld (enc_0 41 s t d a imm) 8 s.toNat t.toNat (imm.toNat % 65536) := by
    have h := fld3 (w := enc_0 41 s t d a imm) (o := 8) (s := s) (T := rg t) (imm := imm) hs (rgT ht) (by decide) (by kernel_rfl)
    rw [(rg_lt ht).1] at h
    exact h
  exact ⟨hf, isRow_of hf.o rfl rfl (by kernel_rfl) (by kernel_rfl) (by kernel_rfl)⟩
theorem row_42 (hs : Reg s) (ht : Reg t) : Fld (enc_0 42 s t d a imm) 10 s.toNat t.toNat (imm.toNat % 65536) ∧ IsRow (enc_0 42 s t d a imm) 42 10 := by
  have hf : Fld (enc_0 42 s t d a imm) 10 s.toNat t.toNat (imm.toNat % 65536) := by
    have h := fld3 (w := enc_0 42 s t d a imm) (o := 10) (s := s) (T := rg t) (imm := imm) hs (rgT ht) (by decide) (by kernel_rfl)
    rw [(rg_lt ht).1] at h
    exact h
  exact ⟨hf, isRow_of hf.o rfl rfl (by kernel_rfl) (by kernel_rfl) (by kernel_rfl)⟩
theorem row_43 (hs : Reg s) (ht : Reg t) : Fld (enc_0 43 s t d a imm) 11 s.toNat t.toNat (imm.toNat % 65536) ∧ IsRow (enc_0 43 s t d a imm) 43 10 := by
  have hf : Fld (enc_0 43 s t d a imm) 11 s.toNat t.toNat (imm.toNat % 65536) := by
    have h := fld3 (w := enc_0 43 s t d a imm) (o := 11) (s := s) (T := rg t) (imm := imm) hs (rgT ht) (by decide) (by kernel_rfl)
    rw [(rg_lt ht).1] at h
    exact h
  exact ⟨hf, isRow_of hf.o rfl rfl (by kernel_rfl) (by kernel_rfl) (by kernel_rfl)⟩
theorem row_44 (hs : Reg s) (ht : Reg t) : Fld (enc_0 44 s t d a imm) 12 s.toNat t.toNat (imm.toNat % 65536) ∧ IsRow (enc_0 44 s t d a imm) 44 11 := by
  have hf : Fld (enc_0 44 s t d a imm) 12 s.toNat t.toNat (imm.toNat % 65536) := by
    have h := fld3 (w := enc_0 44 s t d a imm) (o := 12) (s := s) (T := rg t) (imm := imm) hs (rgT ht) (by decide) (by kernel_rfl)
    rw [(rg_lt ht).1] at h
    exact h
  exact ⟨hf, isRow_of hf.o rfl rfl (by kernel_rfl) (by kernel_rfl) (by kernel_rfl)⟩
theorem row_45 (hs : Reg s) (ht : Reg t) : Fld (enc_0 45 s t d a imm) 13 s.toNat t.toNat (imm.toNat % 65536) ∧ IsRow (enc_0 45 s t d a imm) 45 11 := by
  have hf : Fld (enc_0 45 s t d a imm) 13 s.toNat t.toNat (imm.toNat % 65536) := by
    have h := fld3 (w := enc_0 45 s t d a imm) (o := 13) (s := s) (T := rg t) (imm := imm) hs (rgT ht) (by decide) (by kernel_rfl)
    rw [(rg_lt ht).1] at h
    exact h
  exact ⟨hf, isRow_of hf.o rfl rfl (by kernel_rfl) (by kernel_rfl) (by kernel_rfl)⟩
theorem row_46 (hs : Reg s) (ht : Reg t) : Fld (enc_0 46 s t d a imm) 14 s.toNat t.toNat (imm.toNat % 65536) ∧ IsRow (enc_0 46 s t d a imm) 46 11 := by
  have hf : Fld (enc_0 46 s t d a imm) 14 s.toNat t.toNat (imm.toNat % 65536) := by
    have h := fld3 (w := enc_0 46 s t d a imm) (o := 14) (s := s) (T := rg t) (imm := imm) hs (rgT ht) (by decide) (by kernel_rfl)
    rw [(rg_lt ht).1] at h
    exact h
  exact ⟨hf, isRow_of hf.o rfl rfl (by kernel_rfl) (by kernel_rfl) (by kernel_rfl)⟩
theorem row_47 (hs : Reg s) (ht : Reg t) : Fld (enc_0 47 s t d a imm) 15 s.toNat t.toNat (imm.toNat % 65536) ∧ IsRow (enc_0 47 s t d a imm) 47 12 := by
  have hf : Fld (enc_0 47 s t d a imm) 15 s.toNat t.toNat (imm.toNat % 65536) := by
    have h := fld3 (w := enc_0 47 s t d a imm) (o := 15) (s := s) (T := rg t) (imm := imm) hs (rgT ht) (by decide) (by kernel_rfl)
    rw [(rg_lt ht).1] at h
    exact h
  exact ⟨hf, isRow_of hf.o rfl rfl (by kernel_rfl) (by kernel_rfl) (by kernel_rfl)⟩
theorem row_48 (hs : Reg s) (ht : Reg t) : Fld (enc_0 48 s t d a imm) 32 s.toNat t.toNat (imm.toNat % 65536) ∧ IsRow (enc_0 48 s t d a imm) 48 13 := by
  have hf : Fld (enc_0 48 s t d a imm) 32 s.toNat t.toNat (imm.toNat % 65536) := by
    have h := fld3 (w := enc_0 48 s t d a imm) (o := 32) (s := s) (T := rg t) (imm := imm) hs (rgT ht) (by decide) (by kernel_rfl)
    rw [(rg_lt ht).1] at h
    exact h
  exact ⟨hf, isRow_of hf.o rfl rfl (by kernel_rfl) (by kernel_rfl) (by kernel_rfl)⟩
theorem row_49 (hs : Reg s) (ht : Reg t) : Fld (enc_0 49 s t d a imm) 33 s.toNat t.toNat (imm.toNat % 65536) ∧ IsRow (enc_0 49 s t d a imm) 49 13 := by
  have hf : Fld (enc_0 49 s t d a imm) 33 s.toNat t.toNat (imm.toNat % 65536) := by
    have h := fld3 (w := enc_0 49 s t d a imm) (o := 33) (s := s) (T := rg t) (imm := imm) hs (rgT ht) (by decide) (by kernel_rfl)
    rw [(rg_lt ht).1] at h
    exact h
  exact ⟨hf, isRow_of hf.o rfl rfl (by kernel_rfl) (by kernel_rfl) (by kernel_rfl)⟩
theorem row_50 (hs : Reg s) (ht : Reg t) : Fld (enc_0 50 s t d a imm) 34 s.toNat t.toNat (imm.toNat % 65536) ∧ IsRow (enc_0 50 s t d a imm) 50 13 := by
  have hf : Fld (enc_0 50 s t d a imm) 34 s.toNat t.toNat (imm.toNat % 65536) := by
    have h := fld3 (w := enc_0 50 s t d a imm) (o := 34) (s := s) (T := rg t) (imm := imm) hs (rgT ht) (by decide) (by kernel_rfl)
    rw [(rg_lt ht).1] at h
    exact h
  exact ⟨hf, isRow_of hf.o rfl rfl (by kernel_rfl) (by kernel_rfl) (by kernel_rfl)⟩
theorem row_51 (hs : Reg s) (ht : Reg t) : Fld (enc_0 51 s t d a imm) 35 s.toNat t.toNat (imm.toNat % 65536) ∧ IsRow (enc_0 51 s t d a imm) 51 13 := by
  have hf : Fld (enc_0 51 s t d a imm) 35 s.toNat t.toNat (imm.toNat % 65536) := by
    have h := fld3 (w := enc_0 51 s t d a imm) (o := 35) (s := s) (T := rg t) (imm := imm) hs (rgT ht) (by decide) (by kernel_rfl)
    rw [(rg_lt ht).1] at h
    exact h
  exact ⟨hf, isRow_of hf.o rfl rfl (by kernel_rfl) (by kernel_rfl) (by kernel_rfl)⟩
theorem row_52 (hs : Reg s) (ht : Reg t) : Fld (enc_0 52 s t d a imm) 36 s.toNat t.toNat (imm.toNat % 65536) ∧ IsRow (enc_0 52 s t d a imm) 52 13 := by
  have hf : Fld (enc_0 52 s t d a imm) 36 s.toNat t.toNat (imm.toNat % 65536) := by
    have h := fld3 (w := enc_0 52 s t d a imm) (o := 36) (s := s) (T := rg t) (imm := imm) hs (rgT ht) (by decide) (by kernel_rfl)
    rw [(rg_lt ht).1] at h
    exact h
  exact ⟨hf, isRow_of hf.o rfl rfl (by kernel_rfl) (by kernel_rfl) (by kernel_rfl)⟩
theorem row_53 (hs : Reg s) (ht : Reg t) : Fld (enc_0 53 s t d a imm) 37 s.toNat t.toNat (imm.toNat % 65536) ∧ IsRow (enc_0 53 s t d a imm) 53 13 := by
  have hf : Fld (enc_0 53 s t d a imm) 37 s.toNat t.toNat (imm.toNat % 65536) := by
    have h := fld3 (w := enc_0 53 s t d a imm) (o := 37) (s := s) (T := rg t) (imm := imm) hs (rgT ht) (by decide) (by kernel_rfl)
    rw [(rg_lt ht).1] at h
    exact h
  exact ⟨hf, isRow_of hf.o rfl rfl (by kernel_rfl) (by kernel_rfl) (by kernel_rfl)⟩
theorem row_54 (hs : Reg s) (ht : Reg t) : Fld (enc_0 54 s t d a imm) 38 s.toNat t.toNat (imm.toNat % 65536) ∧ IsRow (enc_0 54 s t d a imm) 54 13 := by
  have hf : Fld (enc_0 54 s t d a imm) 38 s.toNat t.toNat (imm.toNat % 65536) := by
    have h := fld3 (w := enc_0 54 s t d a imm) (o := 38) (s := s) (T := rg t) (imm := imm) hs (rgT ht) (by decide) (by kernel_rfl)
    rw [(rg_lt ht).1] at h
    exact h
  exact ⟨hf, isRow_of hf.o rfl rfl (by kernel_rfl) (by kernel_rfl) (by kernel_rfl)⟩
theorem row_55 (hs : Reg s) (ht : Reg t) : Fld (enc_0 55 s t d a imm) 40 s.toNat t.toNat (imm.toNat % 65536) ∧ IsRow (enc_0 55 s t d a imm) 55 13 := by
  have hf : Fld (enc_0 55 s t d a imm) 40 s.toNat t.toNat (imm.toNat % 65536) := by
    have h := fld3 (w := enc_0 55 s t d a imm) (o := 40) (s := s) (T := rg t) (imm := imm) hs (rgT ht) (by decide) (by kernel_rfl)
    rw [(rg_lt ht).1] at h
    exact h
  exact ⟨hf, isRow_of hf.o rfl rfl (by kernel_rfl) (by kernel_rfl) (by kernel_rfl)⟩
theorem row_56 (hs : Reg s) (ht : Reg t) : Fld (enc_0 56 s t d a imm) 41 s.toNat t.toNat (imm.toNat % 65536) ∧ IsRow (enc_0 56 s t d a imm) 56 13 := by
  have hf : Fld (enc_0 56 s t d a imm) 41 s.toNat t.toNat (imm.toNat % 65536) := by
    have h := fld3 (w := enc_0 56 s t d a imm) (o := 41) (s := s) (T := rg t) (imm := imm) hs (rgT ht) (by decide) (by kernel_rfl)
    rw [(rg_lt ht).1] at h
    exact h
  exact ⟨hf, isRow_of hf.o rfl rfl (by kernel_rfl) (by kernel_rfl) (by kernel_rfl)⟩
theorem row_57 (hs : Reg s) (ht : Reg t) : Fld (enc_0 57 s t d a imm) 42 s.toNat t.toNat (imm.toNat % 65536) ∧ IsRow (enc_0 57 s t d a imm) 57 13 := by
  have hf : Fld (enc_0 57 s t d a imm) 42 s.toNat t.toNat (imm.toNat % 65536) := by
    have h := fld3 (w := enc_0 57 s t d a imm) (o := 42) (s := s) (T := rg t) (imm := imm) hs (rgT ht) (by decide) (by kernel_rfl)
    rw [(rg_lt ht).1] at h
    exact h
  exact ⟨hf, isRow_of hf.o rfl rfl (by kernel_rfl) (by kernel_rfl) (by kernel_rfl)⟩
theorem row_58 (hs : Reg s) (ht : Reg t) : Fld (enc_0 58 s t d a imm) 43 s.toNat t.toNat (imm.toNat % 65536) ∧ IsRow (enc_0 58 s t d a imm) 58 13 := by
  have hf : Fld (enc_0 58 s t d a imm) 43 s.toNat t.toNat (imm.toNat % 65536) := by
    have h := fld3 (w := enc_0 58 s t d a imm) (o := 43) (s := s) (T := rg t) (imm := imm) hs (rgT ht) (by decide) (by kernel_rfl)
    rw [(rg_lt ht).1] at h
    exact h
  exact ⟨hf, isRow_of hf.o rfl rfl (by kernel_rfl) (by kernel_rfl) (by kernel_rfl)⟩
theorem row_59 (hs : Reg s) (ht : Reg t) : Fld (enc_0 59 s t d a imm) 46 s.toNat t.toNat (imm.toNat % 65536) ∧ IsRow (enc_0 59 s t d a imm) 59 13 := by
  have hf : Fld (enc_0 59 s t d a imm) 46 s.toNat t.toNat (imm.toNat % 65536) := by
    have h := fld3 (w := enc_0 59 s t d a imm) (o := 46) (s := s) (T := rg t) (imm := imm) hs (rgT ht) (by decide) (by kernel_rfl)
    rw [(rg_lt ht).1] at h
    exact h
  exact ⟨hf, isRow_of hf.o rfl rfl (by kernel_rfl) (by kernel_rfl) (by kernel_rfl)⟩
theorem row_60 (hs : Reg s) (ht : Reg t) : Fld (enc_0 60 s t d a imm) 4 s.toNat t.toNat ((imm >>> 2).toNat % 65536) ∧ IsRow (enc_0 60 s t d a imm) 60 14 := by
  have hf : Fld (enc_0 60 s t d a imm) 4 s.toNat t.toNat ((imm >>> 2).toNat % 65536) := by
    have h := fld3 (w := enc_0 60 s t d a imm) (o := 4) (s := s) (T := rg t) (imm := (imm >>> 2)) hs (rgT ht) (by decide) (by kernel_rfl)
    rw [(rg_lt ht).1] at h
    exact h
  exact ⟨hf, isRow_of hf.o rfl rfl (by kernel_rfl) (by kernel_rfl) (by kernel_rfl)⟩
theorem row_61 (hs : Reg s) (ht : Reg t) : Fld (enc_0 61 s t d a imm) 5 s.toNat t.toNat ((imm >>> 2).toNat % 65536) ∧ IsRow (enc_0 61 s t d a imm) 61 14 := by
  have hf : Fld (enc_0 61 s t d a imm) 5 s.toNat t.toNat ((imm >>> 2).toNat % 65536) := by
    have h := fld3 (w := enc_0 61 s t d a imm) (o := 5) (s := s) (T := rg t) (imm := (imm >>> 2)) hs (rgT ht) (by decide) (by kernel_rfl)
    rw [(rg_lt ht).1] at h
    exact h
  exact ⟨hf, isRow_of hf.o rfl rfl (by kernel_rfl) (by kernel_rfl) (by kernel_rfl)⟩
theorem row_62 (hs : Reg s) (ht : Reg t) : Fld (enc_0 62 s t d a imm) 6 s.toNat t.toNat ((imm >>> 2).toNat % 65536) ∧ IsRow (enc_0 62 s t d a imm) 62 15 := by
  have hf : Fld (enc_0 62 s t d a imm) 6 s.toNat t.toNat ((imm >>> 2).toNat % 65536) := by
    have h := fld3 (w := enc_0 62 s t d a imm) (o := 6) (s := s) (T := rg t) (imm := (imm >>> 2)) hs (rgT ht) (by decide) (by kernel_rfl)
    rw [(rg_lt ht).1] at h
    exact h
  exact ⟨hf, isRow_of hf.o rfl rfl (by kernel_rfl) (by kernel_rfl) (by kernel_rfl)⟩
theorem row_63 (hs : Reg s) (ht : Reg t) : Fld (enc_0 63 s t d a imm) 7 s.toNat t.toNat ((imm >>> 2).toNat % 65536) ∧ IsRow (enc_0 63 s t d a imm) 63 15 := by
  have hf : Fld (enc_0 63 s t d a imm) 7 s.toNat t.toNat ((imm >>> 2).toNat % 65536) := by
    have h := fld3 (w := enc_0 63 s t d a imm) (o := 7) (s := s) (T := rg t) (imm := (imm >>> 2)) hs (rgT ht) (by decide) (by kernel_rfl)
    rw [(rg_lt ht).1] at h
    exact h
  exact ⟨hf, isRow_of hf.o rfl rfl (by kernel_rfl) (by kernel_rfl) (by kernel_rfl)⟩
theorem row_64 (hs : Reg s) : Fld (enc_0 64 s t d a imm) 1 s.toNat 0 ((imm >>> 2).toNat % 65536) ∧ IsRow (enc_0 64 s t d a imm) 64 16 := by
  have hf : Fld (enc_0 64 s t d a imm) 1 s.toNat 0 ((imm >>> 2).toNat % 65536) := fld3 (T := BitVec.ofNat 32 0) hs (by decide) (by decide) (by kernel_rfl)
  exact ⟨hf, isRow_of hf.o rfl hf.t (by kernel_rfl) (by kernel_rfl) (by kernel_rfl)⟩
theorem row_65 (hs : Reg s) : Fld (enc_0 65 s t d a imm) 1 s.toNat 1 ((imm >>> 2).toNat % 65536) ∧ IsRow (enc_0 65 s t d a imm) 65 16 := by
  have hf : Fld (enc_0 65 s t d a imm) 1 s.toNat 1 ((imm >>> 2).toNat % 65536) := fld3 (T := BitVec.ofNat 32 1) hs (by decide) (by decide) (by kernel_rfl)
  exact ⟨hf, isRow_of hf.o rfl hf.t (by kernel_rfl) (by kernel_rfl) (by kernel_rfl)⟩
theorem row_66 (hs : Reg s) : Fld (enc_0 66 s t d a imm) 1 s.toNat 16 ((imm >>> 2).toNat % 65536) ∧ IsRow (enc_0 66 s t d a imm) 66 16 := by
  have hf : Fld (enc_0 66 s t d a imm) 1 s.toNat 16 ((imm >>> 2).toNat % 65536) := fld3 (T := BitVec.ofNat 32 16) hs (by decide) (by decide) (by kernel_rfl)
  exact ⟨hf, isRow_of hf.o rfl hf.t (by kernel_rfl) (by kernel_rfl) (by kernel_rfl)⟩
theorem row_67 (hs : Reg s) : Fld (enc_0 67 s t d a imm) 1 s.toNat 17 ((imm >>> 2).toNat % 65536) ∧ IsRow (enc_0 67 s t d a imm) 67 16 := by
  have hf : Fld (enc_0 67 s t d a imm) 1 s.toNat 17 ((imm >>> 2).toNat % 65536) := fld3 (T := BitVec.ofNat 32 17) hs (by decide) (by decide) (by kernel_rfl)
  exact ⟨hf, isRow_of hf.o rfl hf.t (by kernel_rfl) (by kernel_rfl) (by kernel_rfl)⟩
end
end Go.Proofs.Ytchoogeojpllfaa
