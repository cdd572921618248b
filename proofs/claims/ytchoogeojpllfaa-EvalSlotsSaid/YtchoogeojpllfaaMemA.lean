/- A part of the walk or of the law. -/
import Derived.Test.YtchoogeojpllfaaRows
import Derived.Test.YtchoogeojpllfaaSx5
set_option linter.unusedVariables false
set_option linter.unusedSimpArgs false
namespace Go.Proofs.Ytchoogeojpllfaa
open Go.Sx
theorem hmo : Try.prog.follows .mixedOrders = true := by kernel_rfl
theorem mapTy : MapTy Try.prog 96 103 23 97 4 :=
  ⟨by kernel_rfl, by kernel_rfl, by kernel_rfl, fun w => by kernel_rfl, fun w => by kernel_rfl⟩
theorem atm : Atm Try.prog 115 116 :=
  ⟨⟨_, Try.func115, by kernel_rfl, by kernel_rfl, by kernel_rfl, by kernel_rfl⟩, ⟨_, Try.func116, by kernel_rfl, by kernel_rfl, by kernel_rfl, by kernel_rfl⟩⟩
theorem zpage : Z1 Try.prog 174 [.bs (fun _ => 0) 256, .c (.i 0), .c (.i 0)] := z1_of (by kernel_rfl) (by kernel_rfl) rfl

/-! ### A page -/
def ofPg (a : BitVec 32) : BitVec 32 := a - a % 256#32
noncomputable def S0 : Sp := spOf (P := Try.prog) [⟨_, _, zpage⟩] [] [] [] (some (mapX mapTy atm)) (some (mapY mapTy atm 174))
theorem S0_ok : SpOk Try.prog S0 := spOf_ok _ _ _ _ _ _
def a_of : List E → HP → R V
  | [.c (.w a)], _ => .ok (.e (.c (.w (ofPg a))))
  | _, _ => .fail
noncomputable def q_of : QE Try.prog := ⟨73, a_of, fun args hp Q h => by
  unfold a_of at h
  split at h
  · rename_i a
    exact qe_ok (z := [⟨_, _, zpage⟩]) (e := []) (q := []) (m := []) (x := some (mapX mapTy atm)) (y := some (mapY mapTy atm 174)) hmo Try.func73 (by kernel_rfl) (by kernel_rfl) rfl (Nat.le_of_ble_eq_true (by kernel_rfl)) rfl [] (ran_of (T' := (.need (BitVec.ofNat (32 : Nat) (256 : Nat) ≠ BitVec.ofNat (32 : Nat) (0 : Nat)) (.leaf (.e (.c (.w (a - a % 256#32))))))) (by kernel_rfl) (⟨by decide, rfl⟩)) h
  · exact h.elim⟩
theorem enters {f : FuncId} {fn : Func} (hf : Try.prog.funcs[f]? = some fn) (hb : fn.body.isSome = true) (hn : (fn.name == "runtime.NumGoroutine") = false) : Enters Try.prog f := ⟨fn, hf, by cases hx : fn.body <;> simp_all, hn⟩
def a_byte : List E → HP → R V
  | [.c (.ptr k 0 0), .c (.i x)], hp => (match Sx.look hp k with
    | some (.cells T [.bs b 256, .c (.i perm), .c (.i wr)]) => if T = 174 then .need (0 ≤ x ∧ x < 256) (.ok (.e (.c (.b (b x.toNat))))) else .fail
    | _ => .fail)
  | _, _ => .fail
noncomputable def q_byte : QE Try.prog := ⟨114, a_byte, fun args hp Q h => by
  unfold a_byte at h
  split at h
  · rename_i k x
    split at h
    · rename_i T b perm wr hk
      split at h
      · rename_i hT
        subst hT
        obtain ⟨hx, hq⟩ := h
        refine ⟨enters Try.func114 (by kernel_rfl) (by kernel_rfl), _, hq, fun ρ φ w hR => lone_quiet (h := ⟨hp, 0⟩) S0_ok hmo Try.func114 (by kernel_rfl) (k := k) (off := 0) (ix := 0) (rest := [.c (.i x)]) (v := .e (.c (.b (b x.toNat)))) (l := [.bs b 256, .c (.i perm), .c (.i wr)]) rfl rfl rfl (Nat.le_of_ble_eq_true (by kernel_rfl)) [0] (ran_of (T' := (.br (bif decide (x < 0) then true else decide (256 ≤ x)) (.leaf ((.e (.c (.b 0#8))), ⟨[(0, (.cells 174 [(.bs b 256), (.c (.i perm)), (.c (.i wr))]))], 1⟩)) (.need ((0 : Int) ≤ x ∧ x < (256 : Int)) (.need ((0 : Nat) + ((0 : Nat) + x.toNat) < (256 : Nat)) (.leaf ((.e (.c (.b (b (0 + (0 + x.toNat)))))), ⟨[(0, (.cells 174 [(.bs b 256), (.c (.i perm)), (.c (.i wr))]))], 1⟩)))))) (by kernel_rfl) (⟨fun hc => by
          have := hx.1; have := hx.2; simp only [cond_true_l, Bool.or_eq_true, decide_eq_true_eq] at hc; omega, fun _ => ⟨hx, by omega, by rw [Nat.zero_add, Nat.zero_add], rfl⟩⟩)) hR hk⟩
      · exact h.elim
    · exact h.elim
  · exact h.elim⟩
def a_perm : List E → HP → R V
  | [.c (.ptr k 0 0)], hp => (match Sx.look hp k with
    | some (.cells T [.bs b 256, .c (.i perm), .c (.i wr)]) => if T = 174 then .ok (.e (.c (.i perm))) else .fail
    | _ => .fail)
  | _, _ => .fail
noncomputable def q_perm : QE Try.prog := ⟨45, a_perm, fun args hp Q h => by
  unfold a_perm at h
  split at h
  · rename_i k
    split at h
    · rename_i T b perm wr hk
      split at h
      · rename_i hT
        subst hT
        refine ⟨enters Try.func45 (by kernel_rfl) (by kernel_rfl), .e (.c (.i perm)), h, fun ρ φ w hR => lone_quiet (h := ⟨hp, 0⟩) S0_ok hmo Try.func45 (by kernel_rfl) (k := k) (off := 0) (ix := 0) (rest := []) (v := .e (.c (.i perm))) (l := [.bs b 256, .c (.i perm), .c (.i wr)]) rfl rfl rfl (Nat.le_of_ble_eq_true (by kernel_rfl)) [] (ran_of (T' := (.leaf ((.e (.c (.i perm))), ⟨[(0, (.cells 174 [(.bs b 256), (.c (.i perm)), (.c (.i wr))]))], 1⟩))) (by kernel_rfl) (⟨rfl, rfl⟩)) hR hk⟩
      · exact h.elim
    · exact h.elim
  · exact h.elim⟩
def a_setperm : List E → H → R (V × H)
  | [.c (.ptr k 0 0), .c (.i x)], h => (match Sx.look h.hp k with
    | some (.cells T [.bs b 256, .c (.i perm), .c (.i wr)]) => if T = 174 then .ok (.tup [], ⟨sett h.hp k (.cells 174 [.bs b 256, .c (.i (iBits (fun x y => x &&& y) x 7)), .c (.i wr)]), h.nk⟩) else .fail
    | _ => .fail)
  | _, _ => .fail
noncomputable def m_setperm : ME Try.prog := ⟨70, a_setperm, fun args h Q hh => by
  unfold a_setperm at hh
  split at hh
  · rename_i k x
    split at hh
    · rename_i T b perm wr hk
      split at hh
      · rename_i hT
        subst hT
        refine ⟨enters Try.func70 (by kernel_rfl) (by kernel_rfl), .tup [], ⟨sett h.hp k (.cells 174 [.bs b 256, .c (.i (iBits (fun x y => x &&& y) x 7)), .c (.i wr)]), h.nk⟩, hh, fun ρ φ w hR hkb => lone_turn S0_ok hmo Try.func70 (by kernel_rfl) (k := k) (off := 0) (ix := 0) (rest := [.c (.i x)]) (v := .tup []) (l := [.bs b 256, .c (.i perm), .c (.i wr)]) (l' := [.bs b 256, .c (.i (iBits (fun x y => x &&& y) x 7)), .c (.i wr)]) rfl rfl rfl rfl (Nat.le_of_ble_eq_true (by kernel_rfl)) [] (ran_of (T' := (.leaf ((.tup []), ⟨[(0, (.cells 174 [(.bs b 256), (.c (.i (iBits (fun x y => x &&& y) x 7))), (.c (.i wr))]))], 1⟩))) (by kernel_rfl) (⟨rfl, rfl⟩)) hR hk⟩
      · exact hh.elim
    · exact hh.elim
  · exact hh.elim⟩
end Go.Proofs.Ytchoogeojpllfaa
