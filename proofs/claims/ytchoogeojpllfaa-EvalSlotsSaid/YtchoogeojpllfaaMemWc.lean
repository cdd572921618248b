/- A part of the walk or of the law. -/
import Derived.Test.YtchoogeojpllfaaMemWb
import Derived.Test.YtchoogeojpllfaaMemZb
set_option linter.unusedVariables false
set_option linter.unusedSimpArgs false
namespace Go.Proofs.Ytchoogeojpllfaa
open Go.Sx
set_option maxHeartbeats 4000000
set_option maxRecDepth 20000
theorem zplaces : Z1 Try.prog 132 [.ws (fun _ => 0) 64] := z1_of (by kernel_rfl) (by kernel_rfl) rfl
theorem zbool' : Z1 Try.prog 4 [.c (.bool false)] := z1_of (by kernel_rfl) (by kernel_rfl) rfl
noncomputable def XE2 (q : List (QE Try.prog)) (m : List (ME Try.prog)) : Sp := ((spOf (P := Try.prog) [⟨_, _, zop⟩, ⟨_, _, zshape⟩, ⟨_, _, zins⟩, ⟨_, _, zblock⟩, ⟨_, _, z64b⟩, ⟨_, _, z7i⟩, ⟨_, _, zu32'⟩, ⟨_, _, zint'⟩, ⟨_, _, zplaces⟩, ⟨_, _, zstate⟩, ⟨_, _, zfault⟩, ⟨_, _, zbool'⟩] [] q m none (some yLists)).un 130).ck.gr
theorem XE2_ok (q : List (QE Try.prog)) (m : List (ME Try.prog)) : SpOk Try.prog (XE2 q m) := Sp.gr_ok (Sp.ck_ok (Sp.un_ok (spOf_ok _ _ _ _ _ _) 130))
noncomputable def c_state : ME Try.prog := inlM (XE2_ok [] []) hmo Try.func67 (by kernel_rfl) (by kernel_rfl)
noncomputable def c_leads : ME Try.prog := inlM (XE2_ok [] []) hmo Try.func66 (by kernel_rfl) (by kernel_rfl)
noncomputable def c_ahead : ME Try.prog := inlM (XE2_ok [] [c_blJumps, c_leads, c_state]) hmo Try.func62 (by kernel_rfl) (by kernel_rfl)
noncomputable def c_touch : ME Try.prog := inlM (XE2_ok [q_evGuest, q_insKind, q_acKind, q_acLoad, q_wtch] [m_acStore]) hmo Try.func63 (by kernel_rfl) (by kernel_rfl)
noncomputable def c_evalF : ME Try.prog := inlM (XE2_ok [] [c_ahead]) hmo Try.func61 (by kernel_rfl) (by kernel_rfl)
noncomputable def c_eval : ME Try.prog := inlM (XE2_ok [q_irWrites, q_irStops, q_irReckon] [c_check, c_ahead, c_touch, c_leads, c_state, c_evalF]) hmo Try.func27 (by kernel_rfl) (by kernel_rfl)
def a_memory0 : List E → H → R (V × H)
  | [.c (.raw (.slice none 0 0))], h => .ok (.e (.c (.ptr h.nk 0 0)), ⟨(h.nk, .ob (memOb MT PG 64 [] [])) :: h.hp, h.nk + 1⟩)
  | _, _ => .fail
theorem me0_ran (W : World) (G : Nat → Nat → Prop) : Ran Try.prog Try.f11.ntmps 0 (fexec Try.prog L2 Try.f11 (bodyOf Try.f11) [.c (.raw (.slice none 0 0))] ⟨pinHp W G [], 0⟩ fun v h => (v, h)) [] fun r => r.1 = .e (.c (.ptr 0 0 0)) ∧ Sx.look r.2.hp 0 = some (.ob (memOb MT PG 64 [] [])) ∧ ∀ k b, Sx.look (pinHp W G []) k = some b → Sx.look r.2.hp k = some b :=
  ran_of (T' := ((.leaf (.e (.c (.ptr 0 0 0)), ⟨[(0, .ob (memOb MT PG 64 [] []))], 1⟩)) : Tr (V × H))) (by kernel_rfl) ⟨rfl, rfl, fun k b hk => absurd hk (by simp [pinHp, Sx.look])⟩
noncomputable def m_memory0 : ME Try.prog := ⟨11, a_memory0, fun args h Q hh => by
  unfold a_memory0 at hh
  split at hh
  · exact ⟨enters Try.func11 (by kernel_rfl) (by kernel_rfl), _, _, hh, fun ρ φ w hR hkb => made_call (φ2 := fun _ _ => False) (ρ2 := As0) 0 L2_ok hmo Try.func11 (by kernel_rfl) rfl rfl (Nat.le_of_ble_eq_true (by kernel_rfl)) (Nat.le_of_ble_eq_true rfl) _ (fun W G => me0_ran W G) ⟨fun k b hk => (by cases hk), fun k b hk => (by cases hk), fun k k' b b' hk => (by cases hk)⟩ rfl hR hkb⟩
  · exact hh.elim⟩
end Go.Proofs.Ytchoogeojpllfaa
