/- A part of the walk or of the law. -/
import Derived.Test.YtchoogeojpllfaaMemWa
import Derived.Test.YtchoogeojpllfaaLawA
set_option linter.unusedVariables false
set_option linter.unusedSimpArgs false
namespace Go.Proofs.Ytchoogeojpllfaa
open Go.Sx
set_option maxHeartbeats 4000000
/-! ### A jump's word whose target is not known -/
theorem decJw {w : BitVec 32} {x : Nat} (hx : x < 67108864) (h : w.toNat = 2 * 2 ^ 26 + x) : iDec_0 w = 68 ∧ iDec_1 w = 0 ∧ iDec_2 w = 0 ∧ iDec_3 w = 0 ∧ iDec_4 w = 0 ∧ iDec_5 w = BitVec.ofNat 32 x * 4#32 := by
  obtain ⟨hR, hf⟩ := isJ 68 (.inl ⟨rfl, rfl⟩) hx h
  refine ⟨?_, ?_, ?_, ?_, ?_, ?_⟩
  · simp [iDec_0, hR.ok, hR.form, hR.op]
  · simp [iDec_1, hR.ok, hR.form]
  · simp [iDec_2, hR.ok, hR.form]
  · simp [iDec_3, hR.ok, hR.form]
  · simp [iDec_4, hR.ok, hR.form]
  · simp [iDec_5, hR.ok, hR.form, hf]
def jT (n : Int) : BitVec 32 := BitVec.ofNat 32 (n.toNat % 67108864) * 4#32
def IsJ (n : Int) : Prop := ∃ x : Nat, x < 67108864 ∧ n = ((134217728 + x : Nat) : Int)
theorem isJ_w {n : Int} (h : IsJ n) : ∃ w : BitVec 32, n = (w.toNat : Int) ∧ iDec_0 w = 68 ∧ iDec_1 w = 0 ∧ iDec_2 w = 0 ∧ iDec_3 w = 0 ∧ iDec_4 w = 0 ∧ iDec_5 w = jT n := by
  obtain ⟨x, hx, rfl⟩ := h
  have e : (BitVec.ofNat 32 (134217728 + x)).toNat = 134217728 + x := by rw [BitVec.toNat_ofNat]; omega
  refine ⟨BitVec.ofNat 32 (134217728 + x), by rw [e], ?_⟩
  have := decJw (w := BitVec.ofNat 32 (134217728 + x)) hx (by rw [e])
  rw [show jT ((134217728 + x : Nat) : Int) = BitVec.ofNat 32 x * 4#32 by unfold jT; rw [Int.toNat_natCast, show (134217728 + x) % 67108864 = x by omega]]
  exact this
def a_iDecS : List E → HP → R V
  | [.c (.w w)], _ => .ok (.e (.agg [.c (.i (iDec_0 w)), .c (.i (iDec_1 w)), .c (.i (iDec_2 w)), .c (.i (iDec_3 w)), .c (.i (iDec_4 w)), .c (.w (iDec_5 w))]))
  | [.c (.raw (.int .u32 n))], _ => .need (IsJ n) (.ok (.e (.agg [.c (.i 68), .c (.i 0), .c (.i 0), .c (.i 0), .c (.i 0), .c (.w (jT n))])))
  | _, _ => .fail
noncomputable def q_iDecS : QE Try.prog := ⟨35, a_iDecS, fun args hp Q h => by
  unfold a_iDecS at h
  split at h
  · exact q_iDec.ok _ hp Q h
  · rename_i n
    obtain ⟨hj, hq⟩ := h
    obtain ⟨w, rfl, e0, e1, e2, e3, e4, e5⟩ := isJ_w hj
    exact q_iDec.ok [.c (.w w)] hp Q (by show Q (.e (.agg [.c (.i (iDec_0 w)), .c (.i (iDec_1 w)), .c (.i (iDec_2 w)), .c (.i (iDec_3 w)), .c (.i (iDec_4 w)), .c (.w (iDec_5 w))])); rw [e0, e1, e2, e3, e4, e5]; exact hq)
  · exact h.elim⟩
def a_blPlainS : List E → HP → R V
  | [.c (.w w)], _ => .ok (.e (.c (.bool (blPlainW_0 w))))
  | [.c (.raw (.int .u32 n))], _ => .need (IsJ n) (.ok (.e (.c (.bool false))))
  | _, _ => .fail
noncomputable def q_blPlainS : QE Try.prog := ⟨98, a_blPlainS, fun args hp Q h => by
  unfold a_blPlainS at h
  split at h
  · exact q_blPlainW.ok _ hp Q h
  · rename_i n
    obtain ⟨hj, hq⟩ := h
    obtain ⟨w, rfl, e0, _⟩ := isJ_w hj
    exact q_blPlainW.ok [.c (.w w)] hp Q (by show Q (.e (.c (.bool (blPlainW_0 w)))); rw [show blPlainW_0 w = false by simp [blPlainW_0, e0]; try decide]; exact hq)
  · exact h.elim⟩
def a_blJumpsS : List E → HP → R V
  | [.c (.w w)], _ => .ok (.e (.c (.bool (blJumpsW_0 w))))
  | [.c (.raw (.int .u32 n))], _ => .need (IsJ n) (.ok (.e (.c (.bool true))))
  | _, _ => .fail
noncomputable def q_blJumpsS : QE Try.prog := ⟨99, a_blJumpsS, fun args hp Q h => by
  unfold a_blJumpsS at h
  split at h
  · exact q_blJumpsW.ok _ hp Q h
  · rename_i n
    obtain ⟨hj, hq⟩ := h
    obtain ⟨w, rfl, e0, _⟩ := isJ_w hj
    exact q_blJumpsW.ok [.c (.w w)] hp Q (by show Q (.e (.c (.bool (blJumpsW_0 w)))); rw [show blJumpsW_0 w = true by simp [blJumpsW_0, e0]; try decide]; exact hq)
  · exact h.elim⟩
/-- A word; that of a jump as a value. -/
def a_lWordS : List E → HP → R V
  | [.c (.i op), .c (.i s), .c (.i t), .c (.i d), .c (.i a), .c (.w imm)], _ => if op = 68 then .ok (.e (.c (.raw (.int .u32 ((lWord_0 op s t d a imm).toNat : Int))))) else .ok (.e (.c (.w (lWord_0 op s t d a imm))))
  | _, _ => .fail
noncomputable def q_lWordS : QE Try.prog := ⟨16, a_lWordS, fun args hp Q h => by
  unfold a_lWordS at h
  split at h
  · rename_i op s t d a imm
    split at h
    · obtain ⟨h1, v, rfl, h2⟩ := q_lWord.ok [.c (.i op), .c (.i s), .c (.i t), .c (.i d), .c (.i a), .c (.w imm)] hp (fun v => v = .e (.c (.w (lWord_0 op s t d a imm)))) rfl
      exact ⟨h1, _, h, h2⟩
    · exact q_lWord.ok _ hp Q h
  · exact h.elim⟩
/-- Place, where the one by 3 is known. -/
def a_plk3 (k : Int) : List E → HP → R V
  | [.c (.i v), .c (.i n)], _ => if n = 3 then .need (lPlace_0 v 3 = k) (.ok (.e (.c (.i k)))) else .fail
  | _, _ => .fail
noncomputable def q_plk3 (k : Int) : QE Try.prog := ⟨18, a_plk3 k, fun args hp Q h => by
  unfold a_plk3 at h
  split at h
  · rename_i v n
    split at h
    · rename_i hn
      subst hn
      obtain ⟨hk, hq⟩ := h
      exact q_lPlace.ok [.c (.i v), .c (.i 3)] hp Q ⟨by decide, by rw [hk]; exact hq⟩
    · exact h.elim
  · exact h.elim⟩
end Go.Proofs.Ytchoogeojpllfaa
