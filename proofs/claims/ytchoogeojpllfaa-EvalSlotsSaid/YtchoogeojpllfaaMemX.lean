/- A part of the walk or of the law. -/
import Derived.Test.YtchoogeojpllfaaMemW
set_option linter.unusedVariables false
set_option linter.unusedSimpArgs false
namespace Go.Proofs.Ytchoogeojpllfaa
open Go.Sx
set_option maxHeartbeats 4000000
def scanT {α : Type} (d : α) (g : TRow → α) (p : TRow → Bool) : List TRow → α
  | [] => d
  | r :: l => bif p r then g r else scanT d g p l
noncomputable def R2 : Sp := ((spOf (P := Try.prog) [⟨_, _, ztrow⟩, ⟨_, _, ztab⟩, ⟨_, _, zins⟩] [] [q_tab, q_rFits, q_rCut] [] none none).un 70).ck
theorem R2_ok : SpOk Try.prog R2 := Sp.ck_ok (Sp.un_ok (spOf_ok _ _ _ _ _ _) 70)
def rBy {α : Type} (d : α) (g : Int → BitVec 8 → Int → Int → ByteArray → BitVec 32 → α) (w : BitVec 32) : α := scanT d (fun r => g r.op r.form r.o r.f r.nm w) (fun r => rFits_0 r.op r.form r.o r.f r.nm w) tabT
def rDec_0 (w : BitVec 32) : Int := rBy 0 rCut_0 w
def rDec_1 (w : BitVec 32) : Int := rBy 0 rCut_1 w
def rDec_2 (w : BitVec 32) : Int := rBy 0 rCut_2 w
def rDec_3 (w : BitVec 32) : Int := rBy 0 rCut_3 w
def rDec_4 (w : BitVec 32) : Int := rBy 0 rCut_4 w
def rDec_5 (w : BitVec 32) : BitVec 32 := rBy 0 rCut_5 w
def v_rDec (w : BitVec 32) : V := .e (.agg [.c (.i (rDec_0 w)), .c (.i (rDec_1 w)), .c (.i (rDec_2 w)), .c (.i (rDec_3 w)), .c (.i (rDec_4 w)), .c (.w (rDec_5 w))])
set_option maxRecDepth 100000 in
theorem rDec_ran (w : BitVec 32) : collF (fexec Try.prog R2 Try.f93 (bodyOf Try.f93) [.c (.w w)] ⟨[], 0⟩ fun v _ => v) = some (v_rDec w) := by kernel_rfl
def a_rDec : List E → HP → R V
  | [.c (.w w)], _ => .ok (v_rDec w)
  | _, _ => .fail
noncomputable def q_rDec : QE Try.prog := ⟨93, a_rDec, fun args hp Q h => by
  unfold a_rDec at h
  split at h
  · rename_i w
    exact qe_of R2_ok hmo Try.func93 (by kernel_rfl) (by kernel_rfl) rfl (Nat.le_of_ble_eq_true (by kernel_rfl)) rfl [] (ran_F (rDec_ran w)) h
  · exact h.elim⟩
end Go.Proofs.Ytchoogeojpllfaa
