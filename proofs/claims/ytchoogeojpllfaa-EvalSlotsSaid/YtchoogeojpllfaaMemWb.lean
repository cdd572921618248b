/- A part of the walk or of the law. -/
import Derived.Test.YtchoogeojpllfaaMemWa
import Derived.Test.YtchoogeojpllfaaMemS
import Derived.Test.YtchoogeojpllfaaLawW
import Derived.Test.YtchoogeojpllfaaSx5
set_option linter.unusedVariables false
set_option linter.unusedSimpArgs false
namespace Go.Proofs.Ytchoogeojpllfaa
open Go.Sx
set_option maxHeartbeats 4000000
set_option maxRecDepth 20000
theorem zu32' : Z1 Try.prog 23 [.c (.w 0)] := z1_of (by kernel_rfl) (by kernel_rfl) rfl
theorem zint' : Z1 Try.prog 3 [.c (.i 0)] := z1_of (by kernel_rfl) (by kernel_rfl) rfl
theorem zblock : Z1 Try.prog 69 [.c (.w 0), .c (.raw (.slice none 0 0)), .c (.raw (.slice none 0 0))] := z1_of (by kernel_rfl) (by kernel_rfl) rfl
theorem z64b : Z1 Try.prog 188 [.bl (fun _ => false) 64] := z1_of (by kernel_rfl) (by kernel_rfl) rfl
theorem z7i : Z1 Try.prog 187 [.c (.i 0), .c (.i 0), .c (.i 0), .c (.i 0), .c (.i 0), .c (.i 0), .c (.i 0)] := z1_of (by kernel_rfl) (by kernel_rfl) rfl
theorem hWords : SlTy Try.prog 22 23 [.c (.w 0)] := ⟨by kernel_rfl, zu32', by decide, Nat.le_of_ble_eq_true (by kernel_rfl)⟩
theorem hInts : SlTy Try.prog 63 3 [.c (.i 0)] := ⟨by kernel_rfl, zint', by decide, Nat.le_of_ble_eq_true (by kernel_rfl)⟩
theorem hOps : SlTy Try.prog 67 124 [.c (.i 0), .c (.i 0), .c (.i 0), .c (.i 0), .c (.w 0), .c (.i 0)] := ⟨by kernel_rfl, zop, by decide, Nat.le_of_ble_eq_true (by kernel_rfl)⟩
noncomputable def yLists : YE Try.prog := orY (slY hOps) (orY (slY hWords) (orY (slY hInts) (cpY Try.prog)))
/-- With what is known of functions. -/
noncomputable def XS (q : List (QE Try.prog)) (m : List (ME Try.prog)) : Sp := ((spOf (P := Try.prog) [⟨_, _, zop⟩, ⟨_, _, zshape⟩, ⟨_, _, zins⟩, ⟨_, _, zblock⟩, ⟨_, _, z64b⟩, ⟨_, _, z7i⟩, ⟨_, _, zu32'⟩, ⟨_, _, zint'⟩] [] q m none (some yLists)).un 130).ck.gr
theorem XS_ok (q : List (QE Try.prog)) (m : List (ME Try.prog)) : SpOk Try.prog (XS q m) := Sp.gr_ok (Sp.ck_ok (Sp.un_ok (spOf_ok _ _ _ _ _ _) 130))
noncomputable def c_reads : ME Try.prog := inlM (XS_ok [q_irOf] []) hmo Try.func136 (by kernel_rfl) (by kernel_rfl)
noncomputable def c_right : ME Try.prog := inlM (Sp.rm_ok (XS_ok [q_irOf, q_irPlace] [c_reads])) hmo Try.func102 (by kernel_rfl) (by kernel_rfl)
noncomputable def c_blRight : ME Try.prog := inlM (XS_ok [q_blPlainS, q_blJumpsS] []) hmo Try.func52 (by kernel_rfl) (by kernel_rfl)
noncomputable def c_blJumps : ME Try.prog := inlM (XS_ok [q_blJumpsS] [c_blRight]) hmo Try.func57 (by kernel_rfl) (by kernel_rfl)
noncomputable def c_check : ME Try.prog := inlM (XS_ok [] [c_blRight, c_right]) hmo Try.func60 (by kernel_rfl) (by kernel_rfl)
noncomputable def c_clone : ME Try.prog := inlM (XS_ok [] []) hmo Try.func53 (by kernel_rfl) (by kernel_rfl)
noncomputable def c_put : ME Try.prog := inlM (XS_ok [q_irWrites, q_irPure] [c_blJumps]) hmo Try.func54 (by kernel_rfl) (by kernel_rfl)
noncomputable def c_number : ME Try.prog := inlM (XS_ok [] [c_put]) hmo Try.func101 (by kernel_rfl) (by kernel_rfl)
noncomputable def c_word : ME Try.prog := inlM (XS_ok [] [c_put, c_number]) hmo Try.func59 (by kernel_rfl) (by kernel_rfl)
noncomputable def c_jump : ME Try.prog := inlM (XS_ok [q_sTarget, q_aWrites] [c_put]) hmo Try.func58 (by kernel_rfl) (by kernel_rfl)
noncomputable def c_lift : ME Try.prog := inlM (XS_ok [q_iDecS, q_insKind] [c_blRight, c_blJumps, c_clone, c_put, c_word, c_jump]) hmo Try.func26 (by kernel_rfl) (by kernel_rfl)
end Go.Proofs.Ytchoogeojpllfaa
