/- A part of the walk or of the law. -/
import Derived.Test.YtchoogeojpllfaaLawI
import Derived.Test.YtchoogeojpllfaaMemZh
set_option linter.unusedVariables false
set_option linter.unusedSimpArgs false
namespace Go.Proofs.Ytchoogeojpllfaa
open Go.Sx
set_option maxHeartbeats 4000000
theorem acK (ps : List PgA) (op s t d a : Int) (imm x : BitVec 32) : acKind_0 ps op s t d a imm x = 0 ∨ acKind_0 ps op s t d a imm x = 2 ∨ acKind_0 ps op s t d a imm x = 3 ∨ acKind_0 ps op s t d a imm x = 5 ∨ acKind_0 ps op s t d a imm x = 6 := by
  have key : ∀ a b c d e f : Bool, (bif a then (bif b then 2 else (bif c then 5 else 0)) else (bif d then (bif e then 3 else (bif f then 6 else 0)) else 0) : Int) = 0 ∨ (bif a then (bif b then 2 else (bif c then 5 else 0)) else (bif d then (bif e then 3 else (bif f then 6 else 0)) else 0) : Int) = 2 ∨ (bif a then (bif b then 2 else (bif c then 5 else 0)) else (bif d then (bif e then 3 else (bif f then 6 else 0)) else 0) : Int) = 3 ∨ (bif a then (bif b then 2 else (bif c then 5 else 0)) else (bif d then (bif e then 3 else (bif f then 6 else 0)) else 0) : Int) = 5 ∨ (bif a then (bif b then 2 else (bif c then 5 else 0)) else (bif d then (bif e then 3 else (bif f then 6 else 0)) else 0) : Int) = 6 := by decide
  exact key _ _ _ _ _ _
theorem wrong_in (ps : List PgA) (r : Nat → BitVec 32) (hi lo pc nx : BitVec 32) (op s t d a : Int) (imm x y : BitVec 32) (h0 : (op == 0) = false) (h36 : (op == 36) = false) :
    sWrong_0 ps r hi lo pc nx false op s t d a imm x y = 0 ∨ sWrong_0 ps r hi lo pc nx false op s t d a imm x y = 8 ∨ sWrong_0 ps r hi lo pc nx false op s t d a imm x y = 9 ∨ sWrong_0 ps r hi lo pc nx false op s t d a imm x y = 2 ∨ sWrong_0 ps r hi lo pc nx false op s t d a imm x y = 3 ∨ sWrong_0 ps r hi lo pc nx false op s t d a imm x y = 5 ∨ sWrong_0 ps r hi lo pc nx false op s t d a imm x y = 6 := by
  have hk := acK ps op s t d a imm (x + imm)
  simp only [sWrong_0, h0, h36, cond_true, cond_false, Bool.cond_eq_ite, Bool.false_eq_true, if_false]
  repeat' split
  all_goals first | (simp; done) | omega | (simp_all; done)
theorem zf0 (w : BitVec 32) : fetch_1 (me14_ps 4096#32 0#32 7 6 (putB w) fun x => 0#8) 4096#32 = 0 ∧ fetch_0 (me14_ps 4096#32 0#32 7 6 (putB w) fun x => 0#8) 4096#32 = (((0#32 ||| ((w >>> 24).setWidth 8).setWidth 32) <<< 8 ||| ((w >>> 16).setWidth 8).setWidth 32) <<< 8 ||| ((w >>> 8).setWidth 8).setWidth 32) <<< 8 ||| (w.setWidth 8).setWidth 32 := ⟨by kernel_rfl, by kernel_rfl⟩
theorem zf1 (w : BitVec 32) : fetch_1 (me14_ps 4100#32 0#32 7 6 (putB w) fun x => 0#8) 4100#32 = 0 ∧ fetch_0 (me14_ps 4100#32 0#32 7 6 (putB w) fun x => 0#8) 4100#32 = (((0#32 ||| ((w >>> 24).setWidth 8).setWidth 32) <<< 8 ||| ((w >>> 16).setWidth 8).setWidth 32) <<< 8 ||| ((w >>> 8).setWidth 8).setWidth 32) <<< 8 ||| (w.setWidth 8).setWidth 32 := ⟨by kernel_rfl, by kernel_rfl⟩
theorem zf2 (w : BitVec 32) : fetch_1 (me14_ps 4104#32 0#32 7 6 (putB w) fun x => 0#8) 4104#32 = 0 ∧ fetch_0 (me14_ps 4104#32 0#32 7 6 (putB w) fun x => 0#8) 4104#32 = (((0#32 ||| ((w >>> 24).setWidth 8).setWidth 32) <<< 8 ||| ((w >>> 16).setWidth 8).setWidth 32) <<< 8 ||| ((w >>> 8).setWidth 8).setWidth 32) <<< 8 ||| (w.setWidth 8).setWidth 32 := ⟨by kernel_rfl, by kernel_rfl⟩
theorem zf3 (w : BitVec 32) : fetch_1 (me14_ps 4108#32 0#32 7 6 (putB w) fun x => 0#8) 4108#32 = 0 ∧ fetch_0 (me14_ps 4108#32 0#32 7 6 (putB w) fun x => 0#8) 4108#32 = (((0#32 ||| ((w >>> 24).setWidth 8).setWidth 32) <<< 8 ||| ((w >>> 16).setWidth 8).setWidth 32) <<< 8 ||| ((w >>> 8).setWidth 8).setWidth 32) <<< 8 ||| (w.setWidth 8).setWidth 32 := ⟨by kernel_rfl, by kernel_rfl⟩
theorem zf4 (w : BitVec 32) : fetch_1 (me14_ps 4112#32 0#32 7 6 (putB w) fun x => 0#8) 4112#32 = 0 ∧ fetch_0 (me14_ps 4112#32 0#32 7 6 (putB w) fun x => 0#8) 4112#32 = (((0#32 ||| ((w >>> 24).setWidth 8).setWidth 32) <<< 8 ||| ((w >>> 16).setWidth 8).setWidth 32) <<< 8 ||| ((w >>> 8).setWidth 8).setWidth 32) <<< 8 ||| (w.setWidth 8).setWidth 32 := ⟨by kernel_rfl, by kernel_rfl⟩
theorem zf5 (w : BitVec 32) : fetch_1 (me14_ps 4116#32 0#32 7 6 (putB w) fun x => 0#8) 4116#32 = 0 ∧ fetch_0 (me14_ps 4116#32 0#32 7 6 (putB w) fun x => 0#8) 4116#32 = (((0#32 ||| ((w >>> 24).setWidth 8).setWidth 32) <<< 8 ||| ((w >>> 16).setWidth 8).setWidth 32) <<< 8 ||| ((w >>> 8).setWidth 8).setWidth 32) <<< 8 ||| (w.setWidth 8).setWidth 32 := ⟨by kernel_rfl, by kernel_rfl⟩
theorem zf6 (w : BitVec 32) : fetch_1 (me14_ps 4120#32 0#32 7 6 (putB w) fun x => 0#8) 4120#32 = 0 ∧ fetch_0 (me14_ps 4120#32 0#32 7 6 (putB w) fun x => 0#8) 4120#32 = (((0#32 ||| ((w >>> 24).setWidth 8).setWidth 32) <<< 8 ||| ((w >>> 16).setWidth 8).setWidth 32) <<< 8 ||| ((w >>> 8).setWidth 8).setWidth 32) <<< 8 ||| (w.setWidth 8).setWidth 32 := ⟨by kernel_rfl, by kernel_rfl⟩
theorem zf7 (w : BitVec 32) : fetch_1 (me14_ps 4124#32 0#32 7 6 (putB w) fun x => 0#8) 4124#32 = 0 ∧ fetch_0 (me14_ps 4124#32 0#32 7 6 (putB w) fun x => 0#8) 4124#32 = (((0#32 ||| ((w >>> 24).setWidth 8).setWidth 32) <<< 8 ||| ((w >>> 16).setWidth 8).setWidth 32) <<< 8 ||| ((w >>> 8).setWidth 8).setWidth 32) <<< 8 ||| (w.setWidth 8).setWidth 32 := ⟨by kernel_rfl, by kernel_rfl⟩
theorem zf8 (w : BitVec 32) : fetch_1 (me14_ps 4128#32 0#32 7 6 (putB w) fun x => 0#8) 4128#32 = 0 ∧ fetch_0 (me14_ps 4128#32 0#32 7 6 (putB w) fun x => 0#8) 4128#32 = (((0#32 ||| ((w >>> 24).setWidth 8).setWidth 32) <<< 8 ||| ((w >>> 16).setWidth 8).setWidth 32) <<< 8 ||| ((w >>> 8).setWidth 8).setWidth 32) <<< 8 ||| (w.setWidth 8).setWidth 32 := ⟨by kernel_rfl, by kernel_rfl⟩
theorem zf9 (w : BitVec 32) : fetch_1 (me14_ps 4132#32 0#32 7 6 (putB w) fun x => 0#8) 4132#32 = 0 ∧ fetch_0 (me14_ps 4132#32 0#32 7 6 (putB w) fun x => 0#8) 4132#32 = (((0#32 ||| ((w >>> 24).setWidth 8).setWidth 32) <<< 8 ||| ((w >>> 16).setWidth 8).setWidth 32) <<< 8 ||| ((w >>> 8).setWidth 8).setWidth 32) <<< 8 ||| (w.setWidth 8).setWidth 32 := ⟨by kernel_rfl, by kernel_rfl⟩
theorem zf10 (w : BitVec 32) : fetch_1 (me14_ps 4136#32 0#32 7 6 (putB w) fun x => 0#8) 4136#32 = 0 ∧ fetch_0 (me14_ps 4136#32 0#32 7 6 (putB w) fun x => 0#8) 4136#32 = (((0#32 ||| ((w >>> 24).setWidth 8).setWidth 32) <<< 8 ||| ((w >>> 16).setWidth 8).setWidth 32) <<< 8 ||| ((w >>> 8).setWidth 8).setWidth 32) <<< 8 ||| (w.setWidth 8).setWidth 32 := ⟨by kernel_rfl, by kernel_rfl⟩
theorem zf11 (w : BitVec 32) : fetch_1 (me14_ps 4140#32 0#32 7 6 (putB w) fun x => 0#8) 4140#32 = 0 ∧ fetch_0 (me14_ps 4140#32 0#32 7 6 (putB w) fun x => 0#8) 4140#32 = (((0#32 ||| ((w >>> 24).setWidth 8).setWidth 32) <<< 8 ||| ((w >>> 16).setWidth 8).setWidth 32) <<< 8 ||| ((w >>> 8).setWidth 8).setWidth 32) <<< 8 ||| (w.setWidth 8).setWidth 32 := ⟨by kernel_rfl, by kernel_rfl⟩
theorem zf12 (w : BitVec 32) : fetch_1 (me14_ps 4144#32 0#32 7 6 (putB w) fun x => 0#8) 4144#32 = 0 ∧ fetch_0 (me14_ps 4144#32 0#32 7 6 (putB w) fun x => 0#8) 4144#32 = (((0#32 ||| ((w >>> 24).setWidth 8).setWidth 32) <<< 8 ||| ((w >>> 16).setWidth 8).setWidth 32) <<< 8 ||| ((w >>> 8).setWidth 8).setWidth 32) <<< 8 ||| (w.setWidth 8).setWidth 32 := ⟨by kernel_rfl, by kernel_rfl⟩
theorem zf13 (w : BitVec 32) : fetch_1 (me14_ps 4148#32 0#32 7 6 (putB w) fun x => 0#8) 4148#32 = 0 ∧ fetch_0 (me14_ps 4148#32 0#32 7 6 (putB w) fun x => 0#8) 4148#32 = (((0#32 ||| ((w >>> 24).setWidth 8).setWidth 32) <<< 8 ||| ((w >>> 16).setWidth 8).setWidth 32) <<< 8 ||| ((w >>> 8).setWidth 8).setWidth 32) <<< 8 ||| (w.setWidth 8).setWidth 32 := ⟨by kernel_rfl, by kernel_rfl⟩
theorem zf14 (w : BitVec 32) : fetch_1 (me14_ps 4152#32 0#32 7 6 (putB w) fun x => 0#8) 4152#32 = 0 ∧ fetch_0 (me14_ps 4152#32 0#32 7 6 (putB w) fun x => 0#8) 4152#32 = (((0#32 ||| ((w >>> 24).setWidth 8).setWidth 32) <<< 8 ||| ((w >>> 16).setWidth 8).setWidth 32) <<< 8 ||| ((w >>> 8).setWidth 8).setWidth 32) <<< 8 ||| (w.setWidth 8).setWidth 32 := ⟨by kernel_rfl, by kernel_rfl⟩
theorem zf15 (w : BitVec 32) : fetch_1 (me14_ps 4156#32 0#32 7 6 (putB w) fun x => 0#8) 4156#32 = 0 ∧ fetch_0 (me14_ps 4156#32 0#32 7 6 (putB w) fun x => 0#8) 4156#32 = (((0#32 ||| ((w >>> 24).setWidth 8).setWidth 32) <<< 8 ||| ((w >>> 16).setWidth 8).setWidth 32) <<< 8 ||| ((w >>> 8).setWidth 8).setWidth 32) <<< 8 ||| (w.setWidth 8).setWidth 32 := ⟨by kernel_rfl, by kernel_rfl⟩
theorem zf16 (w : BitVec 32) : fetch_1 (me14_ps 4160#32 0#32 7 6 (putB w) fun x => 0#8) 4160#32 = 0 ∧ fetch_0 (me14_ps 4160#32 0#32 7 6 (putB w) fun x => 0#8) 4160#32 = (((0#32 ||| ((w >>> 24).setWidth 8).setWidth 32) <<< 8 ||| ((w >>> 16).setWidth 8).setWidth 32) <<< 8 ||| ((w >>> 8).setWidth 8).setWidth 32) <<< 8 ||| (w.setWidth 8).setWidth 32 := ⟨by kernel_rfl, by kernel_rfl⟩
theorem zf17 (w : BitVec 32) : fetch_1 (me14_ps 4164#32 0#32 7 6 (putB w) fun x => 0#8) 4164#32 = 0 ∧ fetch_0 (me14_ps 4164#32 0#32 7 6 (putB w) fun x => 0#8) 4164#32 = (((0#32 ||| ((w >>> 24).setWidth 8).setWidth 32) <<< 8 ||| ((w >>> 16).setWidth 8).setWidth 32) <<< 8 ||| ((w >>> 8).setWidth 8).setWidth 32) <<< 8 ||| (w.setWidth 8).setWidth 32 := ⟨by kernel_rfl, by kernel_rfl⟩
theorem zf18 (w : BitVec 32) : fetch_1 (me14_ps 4168#32 0#32 7 6 (putB w) fun x => 0#8) 4168#32 = 0 ∧ fetch_0 (me14_ps 4168#32 0#32 7 6 (putB w) fun x => 0#8) 4168#32 = (((0#32 ||| ((w >>> 24).setWidth 8).setWidth 32) <<< 8 ||| ((w >>> 16).setWidth 8).setWidth 32) <<< 8 ||| ((w >>> 8).setWidth 8).setWidth 32) <<< 8 ||| (w.setWidth 8).setWidth 32 := ⟨by kernel_rfl, by kernel_rfl⟩
theorem zf19 (w : BitVec 32) : fetch_1 (me14_ps 4172#32 0#32 7 6 (putB w) fun x => 0#8) 4172#32 = 0 ∧ fetch_0 (me14_ps 4172#32 0#32 7 6 (putB w) fun x => 0#8) 4172#32 = (((0#32 ||| ((w >>> 24).setWidth 8).setWidth 32) <<< 8 ||| ((w >>> 16).setWidth 8).setWidth 32) <<< 8 ||| ((w >>> 8).setWidth 8).setWidth 32) <<< 8 ||| (w.setWidth 8).setWidth 32 := ⟨by kernel_rfl, by kernel_rfl⟩
theorem zf20 (w : BitVec 32) : fetch_1 (me14_ps 4176#32 0#32 7 6 (putB w) fun x => 0#8) 4176#32 = 0 ∧ fetch_0 (me14_ps 4176#32 0#32 7 6 (putB w) fun x => 0#8) 4176#32 = (((0#32 ||| ((w >>> 24).setWidth 8).setWidth 32) <<< 8 ||| ((w >>> 16).setWidth 8).setWidth 32) <<< 8 ||| ((w >>> 8).setWidth 8).setWidth 32) <<< 8 ||| (w.setWidth 8).setWidth 32 := ⟨by kernel_rfl, by kernel_rfl⟩
theorem zf21 (w : BitVec 32) : fetch_1 (me14_ps 4180#32 0#32 7 6 (putB w) fun x => 0#8) 4180#32 = 0 ∧ fetch_0 (me14_ps 4180#32 0#32 7 6 (putB w) fun x => 0#8) 4180#32 = (((0#32 ||| ((w >>> 24).setWidth 8).setWidth 32) <<< 8 ||| ((w >>> 16).setWidth 8).setWidth 32) <<< 8 ||| ((w >>> 8).setWidth 8).setWidth 32) <<< 8 ||| (w.setWidth 8).setWidth 32 := ⟨by kernel_rfl, by kernel_rfl⟩
theorem zf22 (w : BitVec 32) : fetch_1 (me14_ps 4184#32 0#32 7 6 (putB w) fun x => 0#8) 4184#32 = 0 ∧ fetch_0 (me14_ps 4184#32 0#32 7 6 (putB w) fun x => 0#8) 4184#32 = (((0#32 ||| ((w >>> 24).setWidth 8).setWidth 32) <<< 8 ||| ((w >>> 16).setWidth 8).setWidth 32) <<< 8 ||| ((w >>> 8).setWidth 8).setWidth 32) <<< 8 ||| (w.setWidth 8).setWidth 32 := ⟨by kernel_rfl, by kernel_rfl⟩
theorem zf23 (w : BitVec 32) : fetch_1 (me14_ps 4188#32 0#32 7 6 (putB w) fun x => 0#8) 4188#32 = 0 ∧ fetch_0 (me14_ps 4188#32 0#32 7 6 (putB w) fun x => 0#8) 4188#32 = (((0#32 ||| ((w >>> 24).setWidth 8).setWidth 32) <<< 8 ||| ((w >>> 16).setWidth 8).setWidth 32) <<< 8 ||| ((w >>> 8).setWidth 8).setWidth 32) <<< 8 ||| (w.setWidth 8).setWidth 32 := ⟨by kernel_rfl, by kernel_rfl⟩
theorem zf24 (w : BitVec 32) : fetch_1 (me14_ps 4192#32 0#32 7 6 (putB w) fun x => 0#8) 4192#32 = 0 ∧ fetch_0 (me14_ps 4192#32 0#32 7 6 (putB w) fun x => 0#8) 4192#32 = (((0#32 ||| ((w >>> 24).setWidth 8).setWidth 32) <<< 8 ||| ((w >>> 16).setWidth 8).setWidth 32) <<< 8 ||| ((w >>> 8).setWidth 8).setWidth 32) <<< 8 ||| (w.setWidth 8).setWidth 32 := ⟨by kernel_rfl, by kernel_rfl⟩
theorem zf25 (w : BitVec 32) : fetch_1 (me14_ps 4196#32 0#32 7 6 (putB w) fun x => 0#8) 4196#32 = 0 ∧ fetch_0 (me14_ps 4196#32 0#32 7 6 (putB w) fun x => 0#8) 4196#32 = (((0#32 ||| ((w >>> 24).setWidth 8).setWidth 32) <<< 8 ||| ((w >>> 16).setWidth 8).setWidth 32) <<< 8 ||| ((w >>> 8).setWidth 8).setWidth 32) <<< 8 ||| (w.setWidth 8).setWidth 32 := ⟨by kernel_rfl, by kernel_rfl⟩
theorem zf26 (w : BitVec 32) : fetch_1 (me14_ps 4200#32 0#32 7 6 (putB w) fun x => 0#8) 4200#32 = 0 ∧ fetch_0 (me14_ps 4200#32 0#32 7 6 (putB w) fun x => 0#8) 4200#32 = (((0#32 ||| ((w >>> 24).setWidth 8).setWidth 32) <<< 8 ||| ((w >>> 16).setWidth 8).setWidth 32) <<< 8 ||| ((w >>> 8).setWidth 8).setWidth 32) <<< 8 ||| (w.setWidth 8).setWidth 32 := ⟨by kernel_rfl, by kernel_rfl⟩
theorem zf27 (w : BitVec 32) : fetch_1 (me14_ps 4204#32 0#32 7 6 (putB w) fun x => 0#8) 4204#32 = 0 ∧ fetch_0 (me14_ps 4204#32 0#32 7 6 (putB w) fun x => 0#8) 4204#32 = (((0#32 ||| ((w >>> 24).setWidth 8).setWidth 32) <<< 8 ||| ((w >>> 16).setWidth 8).setWidth 32) <<< 8 ||| ((w >>> 8).setWidth 8).setWidth 32) <<< 8 ||| (w.setWidth 8).setWidth 32 := ⟨by kernel_rfl, by kernel_rfl⟩
theorem zf28 (w : BitVec 32) : fetch_1 (me14_ps 4208#32 0#32 7 6 (putB w) fun x => 0#8) 4208#32 = 0 ∧ fetch_0 (me14_ps 4208#32 0#32 7 6 (putB w) fun x => 0#8) 4208#32 = (((0#32 ||| ((w >>> 24).setWidth 8).setWidth 32) <<< 8 ||| ((w >>> 16).setWidth 8).setWidth 32) <<< 8 ||| ((w >>> 8).setWidth 8).setWidth 32) <<< 8 ||| (w.setWidth 8).setWidth 32 := ⟨by kernel_rfl, by kernel_rfl⟩
theorem zf29 (w : BitVec 32) : fetch_1 (me14_ps 4212#32 0#32 7 6 (putB w) fun x => 0#8) 4212#32 = 0 ∧ fetch_0 (me14_ps 4212#32 0#32 7 6 (putB w) fun x => 0#8) 4212#32 = (((0#32 ||| ((w >>> 24).setWidth 8).setWidth 32) <<< 8 ||| ((w >>> 16).setWidth 8).setWidth 32) <<< 8 ||| ((w >>> 8).setWidth 8).setWidth 32) <<< 8 ||| (w.setWidth 8).setWidth 32 := ⟨by kernel_rfl, by kernel_rfl⟩
theorem zf30 (w : BitVec 32) : fetch_1 (me14_ps 4216#32 0#32 7 6 (putB w) fun x => 0#8) 4216#32 = 0 ∧ fetch_0 (me14_ps 4216#32 0#32 7 6 (putB w) fun x => 0#8) 4216#32 = (((0#32 ||| ((w >>> 24).setWidth 8).setWidth 32) <<< 8 ||| ((w >>> 16).setWidth 8).setWidth 32) <<< 8 ||| ((w >>> 8).setWidth 8).setWidth 32) <<< 8 ||| (w.setWidth 8).setWidth 32 := ⟨by kernel_rfl, by kernel_rfl⟩
theorem zf31 (w : BitVec 32) : fetch_1 (me14_ps 4220#32 0#32 7 6 (putB w) fun x => 0#8) 4220#32 = 0 ∧ fetch_0 (me14_ps 4220#32 0#32 7 6 (putB w) fun x => 0#8) 4220#32 = (((0#32 ||| ((w >>> 24).setWidth 8).setWidth 32) <<< 8 ||| ((w >>> 16).setWidth 8).setWidth 32) <<< 8 ||| ((w >>> 8).setWidth 8).setWidth 32) <<< 8 ||| (w.setWidth 8).setWidth 32 := ⟨by kernel_rfl, by kernel_rfl⟩
theorem zf32 (w : BitVec 32) : fetch_1 (me14_ps 4224#32 0#32 7 6 (putB w) fun x => 0#8) 4224#32 = 0 ∧ fetch_0 (me14_ps 4224#32 0#32 7 6 (putB w) fun x => 0#8) 4224#32 = (((0#32 ||| ((w >>> 24).setWidth 8).setWidth 32) <<< 8 ||| ((w >>> 16).setWidth 8).setWidth 32) <<< 8 ||| ((w >>> 8).setWidth 8).setWidth 32) <<< 8 ||| (w.setWidth 8).setWidth 32 := ⟨by kernel_rfl, by kernel_rfl⟩
theorem zf33 (w : BitVec 32) : fetch_1 (me14_ps 4228#32 0#32 7 6 (putB w) fun x => 0#8) 4228#32 = 0 ∧ fetch_0 (me14_ps 4228#32 0#32 7 6 (putB w) fun x => 0#8) 4228#32 = (((0#32 ||| ((w >>> 24).setWidth 8).setWidth 32) <<< 8 ||| ((w >>> 16).setWidth 8).setWidth 32) <<< 8 ||| ((w >>> 8).setWidth 8).setWidth 32) <<< 8 ||| (w.setWidth 8).setWidth 32 := ⟨by kernel_rfl, by kernel_rfl⟩
theorem zf34 (w : BitVec 32) : fetch_1 (me14_ps 4232#32 0#32 7 6 (putB w) fun x => 0#8) 4232#32 = 0 ∧ fetch_0 (me14_ps 4232#32 0#32 7 6 (putB w) fun x => 0#8) 4232#32 = (((0#32 ||| ((w >>> 24).setWidth 8).setWidth 32) <<< 8 ||| ((w >>> 16).setWidth 8).setWidth 32) <<< 8 ||| ((w >>> 8).setWidth 8).setWidth 32) <<< 8 ||| (w.setWidth 8).setWidth 32 := ⟨by kernel_rfl, by kernel_rfl⟩
theorem zf35 (w : BitVec 32) : fetch_1 (me14_ps 4236#32 0#32 7 6 (putB w) fun x => 0#8) 4236#32 = 0 ∧ fetch_0 (me14_ps 4236#32 0#32 7 6 (putB w) fun x => 0#8) 4236#32 = (((0#32 ||| ((w >>> 24).setWidth 8).setWidth 32) <<< 8 ||| ((w >>> 16).setWidth 8).setWidth 32) <<< 8 ||| ((w >>> 8).setWidth 8).setWidth 32) <<< 8 ||| (w.setWidth 8).setWidth 32 := ⟨by kernel_rfl, by kernel_rfl⟩
theorem zf36 (w : BitVec 32) : fetch_1 (me14_ps 4240#32 0#32 7 6 (putB w) fun x => 0#8) 4240#32 = 0 ∧ fetch_0 (me14_ps 4240#32 0#32 7 6 (putB w) fun x => 0#8) 4240#32 = (((0#32 ||| ((w >>> 24).setWidth 8).setWidth 32) <<< 8 ||| ((w >>> 16).setWidth 8).setWidth 32) <<< 8 ||| ((w >>> 8).setWidth 8).setWidth 32) <<< 8 ||| (w.setWidth 8).setWidth 32 := ⟨by kernel_rfl, by kernel_rfl⟩
theorem zf37 (w : BitVec 32) : fetch_1 (me14_ps 4244#32 0#32 7 6 (putB w) fun x => 0#8) 4244#32 = 0 ∧ fetch_0 (me14_ps 4244#32 0#32 7 6 (putB w) fun x => 0#8) 4244#32 = (((0#32 ||| ((w >>> 24).setWidth 8).setWidth 32) <<< 8 ||| ((w >>> 16).setWidth 8).setWidth 32) <<< 8 ||| ((w >>> 8).setWidth 8).setWidth 32) <<< 8 ||| (w.setWidth 8).setWidth 32 := ⟨by kernel_rfl, by kernel_rfl⟩
theorem zf38 (w : BitVec 32) : fetch_1 (me14_ps 4248#32 0#32 7 6 (putB w) fun x => 0#8) 4248#32 = 0 ∧ fetch_0 (me14_ps 4248#32 0#32 7 6 (putB w) fun x => 0#8) 4248#32 = (((0#32 ||| ((w >>> 24).setWidth 8).setWidth 32) <<< 8 ||| ((w >>> 16).setWidth 8).setWidth 32) <<< 8 ||| ((w >>> 8).setWidth 8).setWidth 32) <<< 8 ||| (w.setWidth 8).setWidth 32 := ⟨by kernel_rfl, by kernel_rfl⟩
theorem zf39 (w : BitVec 32) : fetch_1 (me14_ps 4252#32 0#32 7 6 (putB w) fun x => 0#8) 4252#32 = 0 ∧ fetch_0 (me14_ps 4252#32 0#32 7 6 (putB w) fun x => 0#8) 4252#32 = (((0#32 ||| ((w >>> 24).setWidth 8).setWidth 32) <<< 8 ||| ((w >>> 16).setWidth 8).setWidth 32) <<< 8 ||| ((w >>> 8).setWidth 8).setWidth 32) <<< 8 ||| (w.setWidth 8).setWidth 32 := ⟨by kernel_rfl, by kernel_rfl⟩
theorem zf40 (w : BitVec 32) : fetch_1 (me14_ps 4256#32 0#32 7 6 (putB w) fun x => 0#8) 4256#32 = 0 ∧ fetch_0 (me14_ps 4256#32 0#32 7 6 (putB w) fun x => 0#8) 4256#32 = (((0#32 ||| ((w >>> 24).setWidth 8).setWidth 32) <<< 8 ||| ((w >>> 16).setWidth 8).setWidth 32) <<< 8 ||| ((w >>> 8).setWidth 8).setWidth 32) <<< 8 ||| (w.setWidth 8).setWidth 32 := ⟨by kernel_rfl, by kernel_rfl⟩
theorem zf41 (w : BitVec 32) : fetch_1 (me14_ps 4260#32 0#32 7 6 (putB w) fun x => 0#8) 4260#32 = 0 ∧ fetch_0 (me14_ps 4260#32 0#32 7 6 (putB w) fun x => 0#8) 4260#32 = (((0#32 ||| ((w >>> 24).setWidth 8).setWidth 32) <<< 8 ||| ((w >>> 16).setWidth 8).setWidth 32) <<< 8 ||| ((w >>> 8).setWidth 8).setWidth 32) <<< 8 ||| (w.setWidth 8).setWidth 32 := ⟨by kernel_rfl, by kernel_rfl⟩
theorem zf42 (w : BitVec 32) : fetch_1 (me14_ps 4264#32 0#32 7 6 (putB w) fun x => 0#8) 4264#32 = 0 ∧ fetch_0 (me14_ps 4264#32 0#32 7 6 (putB w) fun x => 0#8) 4264#32 = (((0#32 ||| ((w >>> 24).setWidth 8).setWidth 32) <<< 8 ||| ((w >>> 16).setWidth 8).setWidth 32) <<< 8 ||| ((w >>> 8).setWidth 8).setWidth 32) <<< 8 ||| (w.setWidth 8).setWidth 32 := ⟨by kernel_rfl, by kernel_rfl⟩
theorem zf43 (w : BitVec 32) : fetch_1 (me14_ps 4268#32 0#32 7 6 (putB w) fun x => 0#8) 4268#32 = 0 ∧ fetch_0 (me14_ps 4268#32 0#32 7 6 (putB w) fun x => 0#8) 4268#32 = (((0#32 ||| ((w >>> 24).setWidth 8).setWidth 32) <<< 8 ||| ((w >>> 16).setWidth 8).setWidth 32) <<< 8 ||| ((w >>> 8).setWidth 8).setWidth 32) <<< 8 ||| (w.setWidth 8).setWidth 32 := ⟨by kernel_rfl, by kernel_rfl⟩
theorem zf44 (w : BitVec 32) : fetch_1 (me14_ps 4272#32 0#32 7 6 (putB w) fun x => 0#8) 4272#32 = 0 ∧ fetch_0 (me14_ps 4272#32 0#32 7 6 (putB w) fun x => 0#8) 4272#32 = (((0#32 ||| ((w >>> 24).setWidth 8).setWidth 32) <<< 8 ||| ((w >>> 16).setWidth 8).setWidth 32) <<< 8 ||| ((w >>> 8).setWidth 8).setWidth 32) <<< 8 ||| (w.setWidth 8).setWidth 32 := ⟨by kernel_rfl, by kernel_rfl⟩
theorem zf45 (w : BitVec 32) : fetch_1 (me14_ps 4276#32 0#32 7 6 (putB w) fun x => 0#8) 4276#32 = 0 ∧ fetch_0 (me14_ps 4276#32 0#32 7 6 (putB w) fun x => 0#8) 4276#32 = (((0#32 ||| ((w >>> 24).setWidth 8).setWidth 32) <<< 8 ||| ((w >>> 16).setWidth 8).setWidth 32) <<< 8 ||| ((w >>> 8).setWidth 8).setWidth 32) <<< 8 ||| (w.setWidth 8).setWidth 32 := ⟨by kernel_rfl, by kernel_rfl⟩
theorem zf46 (w : BitVec 32) : fetch_1 (me14_ps 4280#32 0#32 7 6 (putB w) fun x => 0#8) 4280#32 = 0 ∧ fetch_0 (me14_ps 4280#32 0#32 7 6 (putB w) fun x => 0#8) 4280#32 = (((0#32 ||| ((w >>> 24).setWidth 8).setWidth 32) <<< 8 ||| ((w >>> 16).setWidth 8).setWidth 32) <<< 8 ||| ((w >>> 8).setWidth 8).setWidth 32) <<< 8 ||| (w.setWidth 8).setWidth 32 := ⟨by kernel_rfl, by kernel_rfl⟩
theorem zf47 (w : BitVec 32) : fetch_1 (me14_ps 4284#32 0#32 7 6 (putB w) fun x => 0#8) 4284#32 = 0 ∧ fetch_0 (me14_ps 4284#32 0#32 7 6 (putB w) fun x => 0#8) 4284#32 = (((0#32 ||| ((w >>> 24).setWidth 8).setWidth 32) <<< 8 ||| ((w >>> 16).setWidth 8).setWidth 32) <<< 8 ||| ((w >>> 8).setWidth 8).setWidth 32) <<< 8 ||| (w.setWidth 8).setWidth 32 := ⟨by kernel_rfl, by kernel_rfl⟩
theorem zf48 (w : BitVec 32) : fetch_1 (me14_ps 4288#32 0#32 7 6 (putB w) fun x => 0#8) 4288#32 = 0 ∧ fetch_0 (me14_ps 4288#32 0#32 7 6 (putB w) fun x => 0#8) 4288#32 = (((0#32 ||| ((w >>> 24).setWidth 8).setWidth 32) <<< 8 ||| ((w >>> 16).setWidth 8).setWidth 32) <<< 8 ||| ((w >>> 8).setWidth 8).setWidth 32) <<< 8 ||| (w.setWidth 8).setWidth 32 := ⟨by kernel_rfl, by kernel_rfl⟩
theorem zf49 (w : BitVec 32) : fetch_1 (me14_ps 4292#32 0#32 7 6 (putB w) fun x => 0#8) 4292#32 = 0 ∧ fetch_0 (me14_ps 4292#32 0#32 7 6 (putB w) fun x => 0#8) 4292#32 = (((0#32 ||| ((w >>> 24).setWidth 8).setWidth 32) <<< 8 ||| ((w >>> 16).setWidth 8).setWidth 32) <<< 8 ||| ((w >>> 8).setWidth 8).setWidth 32) <<< 8 ||| (w.setWidth 8).setWidth 32 := ⟨by kernel_rfl, by kernel_rfl⟩
theorem zf50 (w : BitVec 32) : fetch_1 (me14_ps 4296#32 0#32 7 6 (putB w) fun x => 0#8) 4296#32 = 0 ∧ fetch_0 (me14_ps 4296#32 0#32 7 6 (putB w) fun x => 0#8) 4296#32 = (((0#32 ||| ((w >>> 24).setWidth 8).setWidth 32) <<< 8 ||| ((w >>> 16).setWidth 8).setWidth 32) <<< 8 ||| ((w >>> 8).setWidth 8).setWidth 32) <<< 8 ||| (w.setWidth 8).setWidth 32 := ⟨by kernel_rfl, by kernel_rfl⟩
theorem zf51 (w : BitVec 32) : fetch_1 (me14_ps 4300#32 0#32 7 6 (putB w) fun x => 0#8) 4300#32 = 0 ∧ fetch_0 (me14_ps 4300#32 0#32 7 6 (putB w) fun x => 0#8) 4300#32 = (((0#32 ||| ((w >>> 24).setWidth 8).setWidth 32) <<< 8 ||| ((w >>> 16).setWidth 8).setWidth 32) <<< 8 ||| ((w >>> 8).setWidth 8).setWidth 32) <<< 8 ||| (w.setWidth 8).setWidth 32 := ⟨by kernel_rfl, by kernel_rfl⟩
theorem zf52 (w : BitVec 32) : fetch_1 (me14_ps 4304#32 0#32 7 6 (putB w) fun x => 0#8) 4304#32 = 0 ∧ fetch_0 (me14_ps 4304#32 0#32 7 6 (putB w) fun x => 0#8) 4304#32 = (((0#32 ||| ((w >>> 24).setWidth 8).setWidth 32) <<< 8 ||| ((w >>> 16).setWidth 8).setWidth 32) <<< 8 ||| ((w >>> 8).setWidth 8).setWidth 32) <<< 8 ||| (w.setWidth 8).setWidth 32 := ⟨by kernel_rfl, by kernel_rfl⟩
theorem zf53 (w : BitVec 32) : fetch_1 (me14_ps 4308#32 0#32 7 6 (putB w) fun x => 0#8) 4308#32 = 0 ∧ fetch_0 (me14_ps 4308#32 0#32 7 6 (putB w) fun x => 0#8) 4308#32 = (((0#32 ||| ((w >>> 24).setWidth 8).setWidth 32) <<< 8 ||| ((w >>> 16).setWidth 8).setWidth 32) <<< 8 ||| ((w >>> 8).setWidth 8).setWidth 32) <<< 8 ||| (w.setWidth 8).setWidth 32 := ⟨by kernel_rfl, by kernel_rfl⟩
theorem zf54 (w : BitVec 32) : fetch_1 (me14_ps 4312#32 0#32 7 6 (putB w) fun x => 0#8) 4312#32 = 0 ∧ fetch_0 (me14_ps 4312#32 0#32 7 6 (putB w) fun x => 0#8) 4312#32 = (((0#32 ||| ((w >>> 24).setWidth 8).setWidth 32) <<< 8 ||| ((w >>> 16).setWidth 8).setWidth 32) <<< 8 ||| ((w >>> 8).setWidth 8).setWidth 32) <<< 8 ||| (w.setWidth 8).setWidth 32 := ⟨by kernel_rfl, by kernel_rfl⟩
theorem zf55 (w : BitVec 32) : fetch_1 (me14_ps 4316#32 0#32 7 6 (putB w) fun x => 0#8) 4316#32 = 0 ∧ fetch_0 (me14_ps 4316#32 0#32 7 6 (putB w) fun x => 0#8) 4316#32 = (((0#32 ||| ((w >>> 24).setWidth 8).setWidth 32) <<< 8 ||| ((w >>> 16).setWidth 8).setWidth 32) <<< 8 ||| ((w >>> 8).setWidth 8).setWidth 32) <<< 8 ||| (w.setWidth 8).setWidth 32 := ⟨by kernel_rfl, by kernel_rfl⟩
theorem zf56 (w : BitVec 32) : fetch_1 (me14_ps 4320#32 0#32 7 6 (putB w) fun x => 0#8) 4320#32 = 0 ∧ fetch_0 (me14_ps 4320#32 0#32 7 6 (putB w) fun x => 0#8) 4320#32 = (((0#32 ||| ((w >>> 24).setWidth 8).setWidth 32) <<< 8 ||| ((w >>> 16).setWidth 8).setWidth 32) <<< 8 ||| ((w >>> 8).setWidth 8).setWidth 32) <<< 8 ||| (w.setWidth 8).setWidth 32 := ⟨by kernel_rfl, by kernel_rfl⟩
theorem zf57 (w : BitVec 32) : fetch_1 (me14_ps 4324#32 0#32 7 6 (putB w) fun x => 0#8) 4324#32 = 0 ∧ fetch_0 (me14_ps 4324#32 0#32 7 6 (putB w) fun x => 0#8) 4324#32 = (((0#32 ||| ((w >>> 24).setWidth 8).setWidth 32) <<< 8 ||| ((w >>> 16).setWidth 8).setWidth 32) <<< 8 ||| ((w >>> 8).setWidth 8).setWidth 32) <<< 8 ||| (w.setWidth 8).setWidth 32 := ⟨by kernel_rfl, by kernel_rfl⟩
theorem zf58 (w : BitVec 32) : fetch_1 (me14_ps 4328#32 0#32 7 6 (putB w) fun x => 0#8) 4328#32 = 0 ∧ fetch_0 (me14_ps 4328#32 0#32 7 6 (putB w) fun x => 0#8) 4328#32 = (((0#32 ||| ((w >>> 24).setWidth 8).setWidth 32) <<< 8 ||| ((w >>> 16).setWidth 8).setWidth 32) <<< 8 ||| ((w >>> 8).setWidth 8).setWidth 32) <<< 8 ||| (w.setWidth 8).setWidth 32 := ⟨by kernel_rfl, by kernel_rfl⟩
theorem zf59 (w : BitVec 32) : fetch_1 (me14_ps 4332#32 0#32 7 6 (putB w) fun x => 0#8) 4332#32 = 0 ∧ fetch_0 (me14_ps 4332#32 0#32 7 6 (putB w) fun x => 0#8) 4332#32 = (((0#32 ||| ((w >>> 24).setWidth 8).setWidth 32) <<< 8 ||| ((w >>> 16).setWidth 8).setWidth 32) <<< 8 ||| ((w >>> 8).setWidth 8).setWidth 32) <<< 8 ||| (w.setWidth 8).setWidth 32 := ⟨by kernel_rfl, by kernel_rfl⟩
theorem zf60 (w : BitVec 32) : fetch_1 (me14_ps 4336#32 0#32 7 6 (putB w) fun x => 0#8) 4336#32 = 0 ∧ fetch_0 (me14_ps 4336#32 0#32 7 6 (putB w) fun x => 0#8) 4336#32 = (((0#32 ||| ((w >>> 24).setWidth 8).setWidth 32) <<< 8 ||| ((w >>> 16).setWidth 8).setWidth 32) <<< 8 ||| ((w >>> 8).setWidth 8).setWidth 32) <<< 8 ||| (w.setWidth 8).setWidth 32 := ⟨by kernel_rfl, by kernel_rfl⟩
theorem zf61 (w : BitVec 32) : fetch_1 (me14_ps 4340#32 0#32 7 6 (putB w) fun x => 0#8) 4340#32 = 0 ∧ fetch_0 (me14_ps 4340#32 0#32 7 6 (putB w) fun x => 0#8) 4340#32 = (((0#32 ||| ((w >>> 24).setWidth 8).setWidth 32) <<< 8 ||| ((w >>> 16).setWidth 8).setWidth 32) <<< 8 ||| ((w >>> 8).setWidth 8).setWidth 32) <<< 8 ||| (w.setWidth 8).setWidth 32 := ⟨by kernel_rfl, by kernel_rfl⟩
theorem zf62 (w : BitVec 32) : fetch_1 (me14_ps 4344#32 0#32 7 6 (putB w) fun x => 0#8) 4344#32 = 0 ∧ fetch_0 (me14_ps 4344#32 0#32 7 6 (putB w) fun x => 0#8) 4344#32 = (((0#32 ||| ((w >>> 24).setWidth 8).setWidth 32) <<< 8 ||| ((w >>> 16).setWidth 8).setWidth 32) <<< 8 ||| ((w >>> 8).setWidth 8).setWidth 32) <<< 8 ||| (w.setWidth 8).setWidth 32 := ⟨by kernel_rfl, by kernel_rfl⟩
theorem zf63 (w : BitVec 32) : fetch_1 (me14_ps 4348#32 0#32 7 6 (putB w) fun x => 0#8) 4348#32 = 0 ∧ fetch_0 (me14_ps 4348#32 0#32 7 6 (putB w) fun x => 0#8) 4348#32 = (((0#32 ||| ((w >>> 24).setWidth 8).setWidth 32) <<< 8 ||| ((w >>> 16).setWidth 8).setWidth 32) <<< 8 ||| ((w >>> 8).setWidth 8).setWidth 32) <<< 8 ||| (w.setWidth 8).setWidth 32 := ⟨by kernel_rfl, by kernel_rfl⟩
theorem zfetch (pc w : BitVec 32) : fetch_1 (me14_ps (pc % 64#32 * 4#32 + 4096#32) 0#32 7 6 (putB w) fun x => 0#8) (pc % 64#32 * 4#32 + 4096#32) = 0 ∧ fetch_0 (me14_ps (pc % 64#32 * 4#32 + 4096#32) 0#32 7 6 (putB w) fun x => 0#8) (pc % 64#32 * 4#32 + 4096#32) = w := by
  obtain ⟨k, hk, e⟩ : ∃ k : Nat, k < 64 ∧ pc % 64#32 * 4#32 + 4096#32 = BitVec.ofNat 32 (4096 + 4 * k) := by
    refine ⟨(pc % 64#32).toNat, ?_, ?_⟩
    · rw [BitVec.toNat_umod]; exact Nat.mod_lt _ (by decide)
    · apply BitVec.eq_of_toNat_eq
      simp only [BitVec.toNat_add, BitVec.toNat_mul, BitVec.toNat_ofNat]
      omega
  rw [e]
  match k, hk with
  | 0, _ => exact ⟨(zf0 w).1, (zf0 w).2.trans (glue w)⟩
  | 1, _ => exact ⟨(zf1 w).1, (zf1 w).2.trans (glue w)⟩
  | 2, _ => exact ⟨(zf2 w).1, (zf2 w).2.trans (glue w)⟩
  | 3, _ => exact ⟨(zf3 w).1, (zf3 w).2.trans (glue w)⟩
  | 4, _ => exact ⟨(zf4 w).1, (zf4 w).2.trans (glue w)⟩
  | 5, _ => exact ⟨(zf5 w).1, (zf5 w).2.trans (glue w)⟩
  | 6, _ => exact ⟨(zf6 w).1, (zf6 w).2.trans (glue w)⟩
  | 7, _ => exact ⟨(zf7 w).1, (zf7 w).2.trans (glue w)⟩
  | 8, _ => exact ⟨(zf8 w).1, (zf8 w).2.trans (glue w)⟩
  | 9, _ => exact ⟨(zf9 w).1, (zf9 w).2.trans (glue w)⟩
  | 10, _ => exact ⟨(zf10 w).1, (zf10 w).2.trans (glue w)⟩
  | 11, _ => exact ⟨(zf11 w).1, (zf11 w).2.trans (glue w)⟩
  | 12, _ => exact ⟨(zf12 w).1, (zf12 w).2.trans (glue w)⟩
  | 13, _ => exact ⟨(zf13 w).1, (zf13 w).2.trans (glue w)⟩
  | 14, _ => exact ⟨(zf14 w).1, (zf14 w).2.trans (glue w)⟩
  | 15, _ => exact ⟨(zf15 w).1, (zf15 w).2.trans (glue w)⟩
  | 16, _ => exact ⟨(zf16 w).1, (zf16 w).2.trans (glue w)⟩
  | 17, _ => exact ⟨(zf17 w).1, (zf17 w).2.trans (glue w)⟩
  | 18, _ => exact ⟨(zf18 w).1, (zf18 w).2.trans (glue w)⟩
  | 19, _ => exact ⟨(zf19 w).1, (zf19 w).2.trans (glue w)⟩
  | 20, _ => exact ⟨(zf20 w).1, (zf20 w).2.trans (glue w)⟩
  | 21, _ => exact ⟨(zf21 w).1, (zf21 w).2.trans (glue w)⟩
  | 22, _ => exact ⟨(zf22 w).1, (zf22 w).2.trans (glue w)⟩
  | 23, _ => exact ⟨(zf23 w).1, (zf23 w).2.trans (glue w)⟩
  | 24, _ => exact ⟨(zf24 w).1, (zf24 w).2.trans (glue w)⟩
  | 25, _ => exact ⟨(zf25 w).1, (zf25 w).2.trans (glue w)⟩
  | 26, _ => exact ⟨(zf26 w).1, (zf26 w).2.trans (glue w)⟩
  | 27, _ => exact ⟨(zf27 w).1, (zf27 w).2.trans (glue w)⟩
  | 28, _ => exact ⟨(zf28 w).1, (zf28 w).2.trans (glue w)⟩
  | 29, _ => exact ⟨(zf29 w).1, (zf29 w).2.trans (glue w)⟩
  | 30, _ => exact ⟨(zf30 w).1, (zf30 w).2.trans (glue w)⟩
  | 31, _ => exact ⟨(zf31 w).1, (zf31 w).2.trans (glue w)⟩
  | 32, _ => exact ⟨(zf32 w).1, (zf32 w).2.trans (glue w)⟩
  | 33, _ => exact ⟨(zf33 w).1, (zf33 w).2.trans (glue w)⟩
  | 34, _ => exact ⟨(zf34 w).1, (zf34 w).2.trans (glue w)⟩
  | 35, _ => exact ⟨(zf35 w).1, (zf35 w).2.trans (glue w)⟩
  | 36, _ => exact ⟨(zf36 w).1, (zf36 w).2.trans (glue w)⟩
  | 37, _ => exact ⟨(zf37 w).1, (zf37 w).2.trans (glue w)⟩
  | 38, _ => exact ⟨(zf38 w).1, (zf38 w).2.trans (glue w)⟩
  | 39, _ => exact ⟨(zf39 w).1, (zf39 w).2.trans (glue w)⟩
  | 40, _ => exact ⟨(zf40 w).1, (zf40 w).2.trans (glue w)⟩
  | 41, _ => exact ⟨(zf41 w).1, (zf41 w).2.trans (glue w)⟩
  | 42, _ => exact ⟨(zf42 w).1, (zf42 w).2.trans (glue w)⟩
  | 43, _ => exact ⟨(zf43 w).1, (zf43 w).2.trans (glue w)⟩
  | 44, _ => exact ⟨(zf44 w).1, (zf44 w).2.trans (glue w)⟩
  | 45, _ => exact ⟨(zf45 w).1, (zf45 w).2.trans (glue w)⟩
  | 46, _ => exact ⟨(zf46 w).1, (zf46 w).2.trans (glue w)⟩
  | 47, _ => exact ⟨(zf47 w).1, (zf47 w).2.trans (glue w)⟩
  | 48, _ => exact ⟨(zf48 w).1, (zf48 w).2.trans (glue w)⟩
  | 49, _ => exact ⟨(zf49 w).1, (zf49 w).2.trans (glue w)⟩
  | 50, _ => exact ⟨(zf50 w).1, (zf50 w).2.trans (glue w)⟩
  | 51, _ => exact ⟨(zf51 w).1, (zf51 w).2.trans (glue w)⟩
  | 52, _ => exact ⟨(zf52 w).1, (zf52 w).2.trans (glue w)⟩
  | 53, _ => exact ⟨(zf53 w).1, (zf53 w).2.trans (glue w)⟩
  | 54, _ => exact ⟨(zf54 w).1, (zf54 w).2.trans (glue w)⟩
  | 55, _ => exact ⟨(zf55 w).1, (zf55 w).2.trans (glue w)⟩
  | 56, _ => exact ⟨(zf56 w).1, (zf56 w).2.trans (glue w)⟩
  | 57, _ => exact ⟨(zf57 w).1, (zf57 w).2.trans (glue w)⟩
  | 58, _ => exact ⟨(zf58 w).1, (zf58 w).2.trans (glue w)⟩
  | 59, _ => exact ⟨(zf59 w).1, (zf59 w).2.trans (glue w)⟩
  | 60, _ => exact ⟨(zf60 w).1, (zf60 w).2.trans (glue w)⟩
  | 61, _ => exact ⟨(zf61 w).1, (zf61 w).2.trans (glue w)⟩
  | 62, _ => exact ⟨(zf62 w).1, (zf62 w).2.trans (glue w)⟩
  | 63, _ => exact ⟨(zf63 w).1, (zf63 w).2.trans (glue w)⟩
  | n + 64, h => omega
theorem zTail_true (W : World) (v : Int) (x : Option Addr) (n c : Nat) (pc : BitVec 32) (i : Int) (g : Nat → BitVec 32) : zTail_0 W v x n c pc i g = true := by
  obtain ⟨f1, f0⟩ := zfetch pc (lPlain_0 v)
  obtain ⟨p0, p35, p36, pk⟩ := plain_op v
  unfold zTail_0
  generalize hw : lPlain_0 v = w at *
  simp only []
  generalize hps : (me14_ps (pc % 64#32 * 4#32 + 4096#32) 0#32 7 6 (putB w) fun x => 0#8) = ps at *
  generalize pc % 64#32 * 4#32 + 4096#32 = p at *
  generalize sh (upd g 28 0#32) 0 = r at *
  have key := wrong_in ps r 0#32 0#32 p (p + 4#32) (iDec_0 w) (iDec_1 w) (iDec_2 w) (iDec_3 w) (iDec_4 w) (iDec_5 w) (upd r 0 0#32 (iDec_1 w).toNat) (upd r 0 0#32 (iDec_2 w).toNat) (by simpa using p0) (by simpa using p36)
  rcases key with hk | hk | hk | hk | hk | hk | hk
  · have G := step_ok f1 f0 rfl rfl rfl rfl rfl rfl (by simpa using p35) hk
    have hkk : (insKind_0 (iDec_0 w) == 2) = false := by simpa using pk
    have s5 := G.ssl
    have s4 := G.snx
    rw [hkk] at s5 s4
    have s0 := G.sr 0
    rw [if_pos rfl] at s0
    rw [G.sout, G.spc, s5, s4, s0]
    simp [awk_0]
  all_goals
    have G := step_bad f1 f0 rfl rfl rfl rfl rfl rfl rfl hk rfl
    rw [G.sout, G.sfpc, G.skind]
    simp [awk_0]
theorem zero_any (v : Int) (x : Option Addr) (n c : Nat) (pc : BitVec 32) (W : World) (hx : 0 < n → x.isSome = true) (hr : ∀ i : Int, 0 ≤ i → i < n → Reads W (zAt x i) [.c (.w (rdW W (zAt x i)))]) :
    Calls Try.prog 3 #[.int .i64 v, .slice x n c, .int .u32 pc.toNat] W fun e w' => e = .returned (.bool true) ∧ RowKit.Below W.heap.size W w' :=
  zero_walk W v x n c pc hx hr fun i g => zTail_true W v x n c pc i g
end Go.Proofs.Ytchoogeojpllfaa
