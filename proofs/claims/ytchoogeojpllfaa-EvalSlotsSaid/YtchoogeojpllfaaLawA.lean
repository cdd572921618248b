/- A part of the walk or of the law. -/
import Derived.Test.YtchoogeojpllfaaMemY
set_option linter.unusedVariables false
set_option linter.unusedSimpArgs false
namespace Go.Proofs.Ytchoogeojpllfaa
open Go.Sx
set_option maxHeartbeats 4000000
/-! ### Words and their fields -/
theorem rg_nat {s : Int} (h : Reg s) : (BitVec.ofInt 32 (iBits (fun x y => x &&& y) s 31)).toNat = s.toNat := by
  obtain ⟨h0, h1⟩ := h
  obtain ⟨k, rfl⟩ : ∃ k : Nat, s = k := ⟨s.toNat, by omega⟩
  have : ∀ k : Fin 32, (BitVec.ofInt 32 (iBits (fun x y => x &&& y) ((k.val : Nat) : Int) 31)).toNat = k.val := by decide +kernel
  exact this ⟨k, by omega⟩
theorem low_nat (x : BitVec 32) (y : BitVec 32) (k : Nat) (hy : y.toNat = 2 ^ k - 1) : (x &&& y).toNat = x.toNat % 2 ^ k := by
  rw [BitVec.toNat_and, hy, Nat.and_two_pow_sub_one_eq_mod]
theorem sum5 (o : Nat) (S T D A : BitVec 32) (f : Nat) (ho : o < 64) (hS : S.toNat < 32) (hT : T.toNat < 32) (hD : D.toNat < 32) (hA : A.toNat < 32) (hf : f < 64) :
    (BitVec.ofNat 32 o <<< 26 + S <<< 21 + T <<< 16 + D <<< 11 + A <<< 6 + BitVec.ofNat 32 f).toNat = o * 2 ^ 26 + S.toNat * 2 ^ 21 + T.toNat * 2 ^ 16 + D.toNat * 2 ^ 11 + A.toNat * 2 ^ 6 + f := by
  simp only [BitVec.toNat_add, BitVec.toNat_shiftLeft, BitVec.toNat_ofNat, Nat.shiftLeft_eq]
  omega
theorem sum3 (o : Nat) (S T M : BitVec 32) (ho : o < 64) (hS : S.toNat < 32) (hT : T.toNat < 32) (hM : M.toNat < 65536) :
    (BitVec.ofNat 32 o <<< 26 + S <<< 21 + T <<< 16 + M).toNat = o * 2 ^ 26 + S.toNat * 2 ^ 21 + T.toNat * 2 ^ 16 + M.toNat := by
  simp only [BitVec.toNat_add, BitVec.toNat_shiftLeft, BitVec.toNat_ofNat, Nat.shiftLeft_eq]
  omega
theorem sum1 (o : Nat) (M : BitVec 32) (ho : o < 64) (hM : M.toNat < 67108864) : (BitVec.ofNat 32 o <<< 26 + M).toNat = o * 2 ^ 26 + M.toNat := by
  simp only [BitVec.toNat_add, BitVec.toNat_shiftLeft, BitVec.toNat_ofNat, Nat.shiftLeft_eq]
  omega
/-- A word's fields: the opcode, two registers, and what is below. -/
structure Fld (w : BitVec 32) (o s t m : Nat) : Prop where
  e : w.toNat = o * 2 ^ 26 + s * 2 ^ 21 + t * 2 ^ 16 + m
  ho : o < 64
  hs : s < 32
  ht : t < 32
  hm : m < 65536
theorem fld_eq {w : BitVec 32} {n : Nat} (k m : Nat) (hk : k ≤ 31) (hm : m ≤ 32 - k) (h : w.toNat / 2 ^ k % 2 ^ m = n) : bField_0 w (k : Nat) (m : Nat) = BitVec.ofNat 32 n := by
  apply BitVec.eq_of_toNat_eq
  rw [bField_nat w k m hk hm, h, BitVec.toNat_ofNat, Nat.mod_eq_of_lt]
  rw [← h]
  have h3 := Nat.mod_le (w.toNat / 2 ^ k) (2 ^ m)
  have : w.toNat / 2 ^ k ≤ w.toNat := Nat.div_le_self _ _
  have := w.isLt
  omega
section
variable {w : BitVec 32} {o' s' t' m : Nat}
theorem Fld.o (h : Fld w o' s' t' m) : bField_0 w 26 6 = BitVec.ofNat 32 o' := fld_eq 26 6 (by omega) (by omega) (by have := h.e; have := h.ho; have := h.hs; have := h.ht; have := h.hm; omega)
theorem Fld.s (h : Fld w o' s' t' m) : bField_0 w 21 5 = BitVec.ofNat 32 s' := fld_eq 21 5 (by omega) (by omega) (by have := h.e; have := h.ho; have := h.hs; have := h.ht; have := h.hm; omega)
theorem Fld.t (h : Fld w o' s' t' m) : bField_0 w 16 5 = BitVec.ofNat 32 t' := fld_eq 16 5 (by omega) (by omega) (by have := h.e; have := h.ho; have := h.hs; have := h.ht; have := h.hm; omega)
theorem Fld.d (h : Fld w o' s' t' m) : bField_0 w 11 5 = BitVec.ofNat 32 (m / 2048) := fld_eq 11 5 (by omega) (by omega) (by have := h.e; have := h.ho; have := h.hs; have := h.ht; have := h.hm; omega)
theorem Fld.a (h : Fld w o' s' t' m) : bField_0 w 6 5 = BitVec.ofNat 32 (m / 64 % 32) := fld_eq 6 5 (by omega) (by omega) (by have := h.e; have := h.ho; have := h.hs; have := h.ht; have := h.hm; omega)
theorem Fld.f (h : Fld w o' s' t' m) : bField_0 w 0 6 = BitVec.ofNat 32 (m % 64) := fld_eq 0 6 (by omega) (by omega) (by have := h.e; have := h.ho; have := h.hs; have := h.ht; have := h.hm; omega)
theorem Fld.low (h : Fld w o' s' t' m) : bField_0 w 0 16 = BitVec.ofNat 32 m := fld_eq 0 16 (by omega) (by omega) (by have := h.e; have := h.ho; have := h.hs; have := h.ht; have := h.hm; omega)
end
/-- The row of a word, by three of its fields. -/
def ofX {α : Type} (d : α) (g : Row → α) (x y z : BitVec 32) : α :=
  bif x == 0#32 then (bif x == 0#32 then scan d g (rowAt x y) rowsT else (bif x == 1#32 then scan d g (rowAt x z) rowsT else scan d g (rowAt x 0#32) rowsT))
  else (bif x == 28#32 then scan d g (rowAt x y) rowsT else (bif x == 1#32 then scan d g (rowAt x z) rowsT else scan d g (rowAt x 0#32) rowsT))
theorem ofBy_X {α : Type} (d : α) (g : Row → α) (w : BitVec 32) : ofBy d g w = ofX d g (bField_0 w 26 6) (bField_0 w 0 6) (bField_0 w 16 5) := rfl
/-- A word's row. -/
structure IsRow (w : BitVec 32) (op form : Int) : Prop where
  op : iOf_0 w = op
  form : iOf_1 w = form
  ok : iOf_4 w = true
theorem isRow_of {w x y z : BitVec 32} {op form : Int} (hx : bField_0 w 26 6 = x) (hy : bField_0 w 0 6 = y) (hz : bField_0 w 16 5 = z) (h : ofX 0 Row.op x y z = op) (h1 : ofX 0 Row.form x y z = form) (h2 : ofX false (fun _ => true) x y z = true) : IsRow w op form := by
  subst hx hy hz
  exact ⟨h, h1, h2⟩
/-- A jump's word. -/
theorem isJ {w : BitVec 32} {k : Nat} {x : Nat} (op : Int) (hk : k = 2 ∧ op = 68 ∨ k = 3 ∧ op = 69) (hx : x < 67108864) (h : w.toNat = k * 2 ^ 26 + x) : IsRow w op 17 ∧ bField_0 w 0 26 = BitVec.ofNat 32 x := by
  have h1 : bField_0 w 0 26 = BitVec.ofNat 32 x := fld_eq 0 26 (by omega) (by omega) (by omega)
  rcases hk with ⟨rfl, rfl⟩ | ⟨rfl, rfl⟩
  · exact ⟨isRow_of (fld_eq 26 6 (n := 2) (by omega) (by omega) (by omega)) rfl rfl (by kernel_rfl) (by kernel_rfl) (by kernel_rfl), h1⟩
  · exact ⟨isRow_of (fld_eq 26 6 (n := 3) (by omega) (by omega) (by omega)) rfl rfl (by kernel_rfl) (by kernel_rfl) (by kernel_rfl), h1⟩
theorem enc68 (x : BitVec 32) : enc_0 68 0 0 0 0 x = BitVec.ofNat 32 2 <<< 26 + (x >>> 2 &&& 67108863#32) := by kernel_rfl
theorem enc69 (x : BitVec 32) : enc_0 69 0 0 0 0 x = BitVec.ofNat 32 3 <<< 26 + (x >>> 2 &&& 67108863#32) := by kernel_rfl
theorem jw_nat (o : Nat) (ho : o < 64) (x : BitVec 32) : (BitVec.ofNat 32 o <<< 26 + (x >>> 2 &&& 67108863#32)).toNat = o * 2 ^ 26 + x.toNat / 4 % 67108864 := by
  have e := low_nat (x >>> 2) 67108863#32 26 rfl
  rw [BitVec.toNat_ushiftRight, Nat.shiftRight_eq_div_pow] at e
  rw [sum1 o _ ho (by rw [e]; exact Nat.mod_lt _ (by decide)), e]
/-- Four bytes and their word. -/
theorem glue (v : BitVec 32) : (((0#32 ||| ((v >>> 24).setWidth 8).setWidth 32) <<< 8 ||| ((v >>> 16).setWidth 8).setWidth 32) <<< 8 ||| ((v >>> 8).setWidth 8).setWidth 32) <<< 8 ||| (v.setWidth 8).setWidth 32 = v := by
  apply BitVec.eq_of_getLsbD_eq
  intro i hi
  match i, hi with
  | 0, _ | 1, _ | 2, _ | 3, _ | 4, _ | 5, _ | 6, _ | 7, _ | 8, _ | 9, _ | 10, _ | 11, _ | 12, _ | 13, _ | 14, _ | 15, _ | 16, _ | 17, _ | 18, _ | 19, _ | 20, _ | 21, _ | 22, _ | 23, _ | 24, _ | 25, _ | 26, _ | 27, _ | 28, _ | 29, _ | 30, _ | 31, _ => simp
  | n + 32, h => omega
end Go.Proofs.Ytchoogeojpllfaa
