/- THE LAW StepZero: for every number v, every list r and every pc the statement's function returns true; it reads its input, lets it stand, and touches nothing that was there. -/
import Derived.Test.YtchoogeojpllfaaRows
import Derived.Test.YtchoogeojpllfaaChecked
import Derived.ProofKit
import Derived.Carry
import Derived.Test.YtchoogeojpllfaaLawJ
set_option linter.unusedVariables false
set_option linter.unusedSimpArgs false
namespace Go.Proofs.Ytchoogeojpllfaa
open Go.ChangeShapes Go.WideShapes Go.ChangeAt Go.RowKit

theorem Try.own : ownKnob Try.prog.godebug = none := by kernel_rfl
theorem Try.laidOut : laidOutB Try.prog = true := by kernel_rfl
theorem u32_of3 {b : Int} (wb : (Lit.int .u32 b).wf = true) : ∃ v : BitVec 32, (v.toNat : Int) = b := by
  have h : 0 ≤ b ∧ b ≤ 4294967295 := by
    have h1 : (decide (IntKind.u32.min ≤ b) && decide (b ≤ IntKind.u32.max)) = true := wb
    rw [Bool.and_eq_true, decide_eq_true_eq, decide_eq_true_eq] at h1
    exact h1
  refine ⟨BitVec.ofInt 32 b, ?_⟩
  rw [BitVec.toNat_ofInt]
  omega
theorem reads_w {W : World} {a : Addr} {z : Int} (h : W.cell? a = some (.int .u32 z)) (hz : (Lit.int .u32 z).wf = true) : Go.Sx.Reads W a [.c (.w (Go.Sx.rdW W a))] := by
  intro ρ j u hu
  obtain ⟨v, rfl⟩ := u32_of3 hz
  have e : Go.Sx.rdW W a = v := by
    unfold Go.Sx.rdW Go.Sx.rdZ
    rw [h]
    show BitVec.ofInt 32 (v.toNat : Int) = v
    rw [BitVec.ofInt_natCast]
    simp
  rw [e] at hu
  cases j with
  | zero => simp only [Go.Sx.cellsOf, Go.Sx.Sg.cells, Go.Sx.C.den, List.append_nil, List.getElem?_cons_zero, Option.some.injEq] at hu; subst hu; simpa [Addr.add] using h
  | succ j => simp [Go.Sx.cellsOf, Go.Sx.Sg.cells] at hu
set_option maxRecDepth 100000 in
theorem f_lifted (os : Os) (started : os.Started) (H : Type) (enc : TypeId × Value → H) :
    ReturnsInHanded {} Try.checked os 3 .any (Rows.stepZeroSpec.pre6 enc Try.prog Try.f3 Rows.stepZeroRow.domain false) (Rows.stepZeroSpec.post enc Try.prog Try.f3 false true false false) := by
  refine returnsInHanded_of_change (C := Try.checked) Try.own started (by kernel_rfl) Try.func3
    (ChangeSpec.witness6 (enc := enc) (C := Try.checked) false ⟨#[], #[.int .i64 0, .slice none 0 0, .int .u32 0], []⟩ 8 (by kernel_rfl) (by kernel_rfl) (by kernel_rfl) (by kernel_rfl)) ?_
  intro W base args ds gs before hval0 hW hcnd _
  have hval : ∀ (j : Nat) t v, Try.f3.params[j]? = some t → args[j]? = some v → Value.okWide Try.prog W .any base t v := hval0
  have hW' := hW
  obtain ⟨p, q, hA0, hV, rfl, hfz, hnd⟩ := hW
  have hA : DataW.TrodAll enc Try.prog W 0 (fun _ => true) true Try.f3.params.toList args.toList ds p := hA0
  rw [Try.params3] at hA hval
  obtain ⟨v0, v1, v2, d0, d1, d2, p0, p1, p2, rfl, rfl, rfl, h0, h1, h2⟩ := trodAll_three hA
  obtain ⟨rfl, rfl⟩ := trodVars_none hV
  obtain ⟨a, rfl, rfl, rfl, wa⟩ := open_int Try.underlying3 (hval 0 3 v0 rfl rfl) h0
  obtain ⟨b, rfl, rfl, rfl, wb⟩ := open_int Try.underlying23 (hval 2 23 v2 rfl rfl) h2
  have h1k := h1
  obtain ⟨fuel, hf⟩ := h1
  clear hA0 hval0
  simp only [List.append_nil, List.nil_append] at hW'
  have hlt : ∀ x ∈ p1, x.block < W.heap.size := fun x hx => by simpa using hW'.lt x (by simpa using hx)
  have hargs : ∀ (W' : World), Below W.heap.size W W' → DataW.Trod enc Try.prog W' 0 (fun b => decide (b < W.heap.size)) true 22 v1 d1 p1 :=
    fun W' hn => Below.trod Try.laidOut (by kernel_rfl) (of_decide_eq_true (by kernel_rfl)) h1k hn hlt
  obtain ⟨y, rfl⟩ := u32_of3 wb
  obtain ⟨a0, len, cap, rfl⟩ := okWide_slice Try.underlying22 (hval 1 22 _ rfl rfl)
  have core : Calls Try.prog 3 #[.int .i64 a, .slice a0 len cap, .int .u32 y.toNat] W fun e W' => e = .returned (.bool true) ∧ Below W.heap.size W W' := by
    rcases open_ints Try.underlying22 Try.underlying23 (by kernel_rfl) hf with ⟨hcs, hx⟩ | ⟨a', len', cap', zs, hcs, _, hl, hm, hz, hx, hcell, hwz⟩
    · simp [Value.cells] at hcs
      obtain ⟨rfl, rfl, rfl⟩ := hcs
      exact zero_any a none 0 0 y W (fun h => by omega) (fun i h0 h => by simp at h; omega)
    · simp [Value.cells] at hcs
      obtain ⟨rfl, rfl, rfl⟩ := hcs
      refine zero_any a (some a') len cap y W (fun _ => rfl) (fun i h0 h => ?_)
      have hi : i.toNat < zs.length := by
        simp only [if_true] at hz
        omega
      have hc := hcell i.toNat hi
      have e : zAt (some a') i = a'.add i.toNat := by simp [zAt]
      rw [e]
      refine reads_w hc (hwz _ ?_)
      rw [List.getD, List.getElem?_eq_getElem hi]
      exact List.getElem_mem hi
  refine core.mono fun e W' ⟨he, hw⟩ => ?_
  subst he
  exact ⟨_, rfl, _, _, _, [], _, [], hW', trodAll_mk1 (shut_bool Try.underlying4 true), trodAll_mk3 (shut_int Try.underlying3 wa) (hargs W' hw) (shut_int Try.underlying23 wb), rfl, hw.frame _, fun h => by cases h⟩
theorem StepZero_holds : Rows.StepZeroSaid :=
  OpenClaim.holds_of_wide 3 Try.f3 rfl rfl rfl rfl rfl rfl rfl ⟨rfl, rfl, rfl, rfl, rfl⟩ rfl rfl rfl rfl rfl (by kernel_rfl) Try.func3 (by kernel_rfl)
    (of_decide_eq_true (by kernel_rfl)) (by unfold Func.isWrapper; first | (rw [if_pos (by decide +kernel)]; kernel_rfl) | (rw [if_neg (by decide +kernel)]; exact ⟨rfl, rfl⟩))
    (fun os started H enc _ => f_lifted os started H enc)
end Go.Proofs.Ytchoogeojpllfaa
