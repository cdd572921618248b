/- A part of the walk or of the law. -/
import Derived.Test.YtchoogeojpllfaaMemA
set_option linter.unusedVariables false
set_option linter.unusedSimpArgs false
namespace Go.Proofs.Ytchoogeojpllfaa
open Go.Sx
def wr1 (n d : Int) : Int := W64 (n + d)
/-- sync/atomic.Int64.Add on a page's count. -/
def a_add : List E → H → R (V × H)
  | [.c (.ptr k 257 0), .c (.i d)], h => (match Sx.look h.hp k with
    | some (.cells T [.bs b 256, .c (.i perm), .c (.i wr)]) => if T = 174 then .ok (.e (.c (.i (wr1 wr d))), ⟨sett h.hp k (.cells 174 [.bs b 256, .c (.i perm), .c (.i (wr1 wr d))]), h.nk⟩) else .fail
    | _ => .fail)
  | [.c (.ptr 0 1 0), .c (.i d)], h => (match Sx.look h.hp 0 with
    | some (.cells T [.c (.i most), .c (.i n), .c (.obj 1), .c (.obj 2), .c (.raw tv)]) => if T = 105 then .ok (.e (.c (.i (wr1 n d))), ⟨sett h.hp 0 (.cells 105 [.c (.i most), .c (.i (wr1 n d)), .c (.obj 1), .c (.obj 2), .c (.raw tv)]), h.nk⟩) else .fail
    | _ => .fail)
  | _, _ => .fail
noncomputable def m_add : ME Try.prog := ⟨74, a_add, fun args h Q hh => by
  unfold a_add at hh
  split at hh
  · rename_i k d
    split at hh
    · rename_i T b perm wr hk
      split at hh
      · rename_i hT
        subst hT
        exact ⟨enters Try.func74 (by kernel_rfl) (by kernel_rfl), .e (.c (.i (wr1 wr d))), ⟨sett h.hp k (.cells 174 [.bs b 256, .c (.i perm), .c (.i (wr1 wr d))]), h.nk⟩, hh, fun ρ φ w hR hkb => lone_turn S0_ok hmo Try.func74 (by kernel_rfl) (k := k) (off := 257) (ix := 0) (rest := [.c (.i d)]) (v := .e (.c (.i (wr1 wr d)))) (l := [.bs b 256, .c (.i perm), .c (.i wr)]) (l' := [.bs b 256, .c (.i perm), .c (.i (wr1 wr d))]) rfl rfl rfl rfl (Nat.le_of_ble_eq_true (by kernel_rfl)) [] (ran_of (T' := (.leaf ((.e (.c (.i (W64 (wr + d))))), ⟨[(0, (.cells 174 [(.bs b 256), (.c (.i perm)), (.c (.i (W64 (wr + d))))]))], 1⟩))) (by kernel_rfl) (⟨rfl, rfl⟩)) hR hk⟩
      · exact hh.elim
    · exact hh.elim
  · rename_i d
    split at hh
    · rename_i T most n tv hk
      split at hh
      · rename_i hT
        subst hT
        exact ⟨enters Try.func74 (by kernel_rfl) (by kernel_rfl), .e (.c (.i (wr1 n d))), ⟨sett h.hp 0 (.cells 105 [.c (.i most), .c (.i (wr1 n d)), .c (.obj 1), .c (.obj 2), .c (.raw tv)]), h.nk⟩, hh, fun ρ φ w hR hkb => key_turn (k := 0) (n := 3) S0_ok hmo Try.func74 (by kernel_rfl) (args := [.c (.ptr 0 1 0), .c (.i d)]) (v := .e (.c (.i (wr1 n d)))) (l := [.c (.i most), .c (.i n), .c (.obj 1), .c (.obj 2), .c (.raw tv)]) (l' := [.c (.i most), .c (.i (wr1 n d)), .c (.obj 1), .c (.obj 2), .c (.raw tv)]) (by omega) rfl rfl rfl rfl (Nat.le_of_ble_eq_true (by kernel_rfl)) [] (ran_of (T' := (.leaf ((.e (.c (.i (W64 (n + d))))), ⟨[(0, (.cells 105 [(.c (.i most)), (.c (.i (W64 (n + d)))), (.c (.obj 1)), (.c (.obj 2)), (.c (.raw tv))]))], 3⟩))) (by kernel_rfl) (⟨rfl, rfl⟩)) hR hk⟩
      · exact hh.elim
    · exact hh.elim
  · exact hh.elim⟩
/-- sync/atomic.Int64.Load on a memory's count. -/
def a_load : List E → HP → R V
  | [.c (.ptr 0 1 0)], hp => (match Sx.look hp 0 with
    | some (.cells T [.c (.i most), .c (.i n), .c (.obj 1), .c (.obj 2), .c (.raw tv)]) => if T = 105 then .ok (.e (.c (.i n))) else .fail
    | _ => .fail)
  | _, _ => .fail
theorem sub0 {hp : HP} {b : Blk} (h : Sx.look hp 0 = some b) : ∀ k c, Sx.look [(0, b)] k = some c → Sx.look hp k = some c := fun k c hc => by
  simp only [Sx.look] at hc
  split at hc
  · rename_i e; subst e; cases hc; exact h
  · cases hc
noncomputable def q_load : QE Try.prog := ⟨71, a_load, fun args hp Q h => by
  unfold a_load at h
  split at h
  · split at h
    · rename_i T most n tv hk
      split at h
      · rename_i hT
        subst hT
        exact ⟨enters Try.func71 (by kernel_rfl) (by kernel_rfl), .e (.c (.i n)), h, fun ρ φ w hR => quiet_call (hp := [(0, .cells 105 [.c (.i most), .c (.i n), .c (.obj 1), .c (.obj 2), .c (.raw tv)])]) (n := 3) (args := [.c (.ptr 0 1 0)]) (v := .e (.c (.i n))) S0_ok hmo Try.func71 (by kernel_rfl) rfl rfl rfl (Nat.le_of_ble_eq_true (by kernel_rfl)) [] (fun W G => (ran_of (T' := (.leaf ((.e (.c (.i n))), ⟨[(0, (.cells 105 [(.c (.i most)), (.c (.i n)), (.c (.obj 1)), (.c (.obj 2)), (.c (.raw tv))]))], 3⟩))) (by kernel_rfl) (⟨rfl, fun k b hk => hk⟩))) (hR.sub (sub0 hk))⟩
      · exact h.elim
    · exact h.elim
  · exact h.elim⟩
/-- page.New -/
def and7 (x : Int) : Int := iBits (fun x y => x &&& y) x 7
def a_pnew : List E → H → R (V × H)
  | [.c (.i x)], h => .ok (.e (.c (.ptr h.nk 0 0)), ⟨(h.nk, .cells 174 [.bs (fun _ => 0) 256, .c (.i (and7 x)), .c (.i 0)]) :: h.hp, h.nk + 1⟩)
  | _, _ => .fail
noncomputable def m_pnew : ME Try.prog := ⟨72, a_pnew, fun args h Q hh => by
  unfold a_pnew at hh
  split at hh
  · rename_i x
    exact ⟨enters Try.func72 (by kernel_rfl) (by kernel_rfl), .e (.c (.ptr h.nk 0 0)), ⟨(h.nk, .cells 174 [.bs (fun _ => 0) 256, .c (.i (and7 x)), .c (.i 0)]) :: h.hp, h.nk + 1⟩, hh, fun ρ φ w hR hkb => fresh_call (fun k => .ptr k 0 0) (fun ρ ρ' k hr => by simp only [C.den, hr]) S0_ok hmo Try.func72 (by kernel_rfl) (args := [.c (.i x)]) (t := 174) (l := [.bs (fun _ => 0) 256, .c (.i (and7 x)), .c (.i 0)]) rfl rfl (Nat.le_of_ble_eq_true (by kernel_rfl)) [] (ran_of (T' := (.leaf ((.e (.c (.ptr 0 0 0))), ⟨[(0, (.cells 174 [(.bs (fun x => 0#8) 256), (.c (.i (iBits (fun x y => x &&& y) x 7))), (.c (.i 0))]))], 1⟩))) (by kernel_rfl) (⟨rfl, rfl⟩)) hR hkb⟩
  · exact hh.elim⟩
noncomputable def S1 : Sp := spOf (P := Try.prog) [⟨_, _, zpage⟩] [] [q_of, q_byte, q_perm, q_load] [m_setperm, m_add, m_pnew] (some (mapX mapTy atm)) (some (mapY mapTy atm 174))
theorem S1_ok : SpOk Try.prog S1 := spOf_ok _ _ _ _ _ _
/-- page.SetByte -/
def updB (b : Nat → BitVec 8) (i : Nat) (v : BitVec 8) : Nat → BitVec 8 := Sx.upd b i v
def a_setbyte : List E → H → R (V × H)
  | [.c (.ptr k 0 0), .c (.i x), .c (.b v)], h => (match Sx.look h.hp k with
    | some (.cells T [.bs b 256, .c (.i perm), .c (.i wr)]) => if T = 174 then .need (0 ≤ x ∧ x < 256) (.ok (.tup [], ⟨sett h.hp k (.cells 174 [.bs (updB b x.toNat v) 256, .c (.i perm), .c (.i (wr1 wr 1))]), h.nk⟩)) else .fail
    | _ => .fail)
  | _, _ => .fail
noncomputable def m_setbyte : ME Try.prog := ⟨75, a_setbyte, fun args h Q hh => by
  unfold a_setbyte at hh
  split at hh
  · rename_i k x v
    split at hh
    · rename_i T b perm wr hk
      split at hh
      · rename_i hT
        subst hT
        obtain ⟨hx, hq⟩ := hh
        exact ⟨enters Try.func75 (by kernel_rfl) (by kernel_rfl), .tup [], ⟨sett h.hp k (.cells 174 [.bs (updB b x.toNat v) 256, .c (.i perm), .c (.i (wr1 wr 1))]), h.nk⟩, hq, fun ρ φ w hR hkb => lone_turn S1_ok hmo Try.func75 (by kernel_rfl) (k := k) (off := 0) (ix := 0) (rest := [.c (.i x), .c (.b v)]) (v := .tup []) (l := [.bs b 256, .c (.i perm), .c (.i wr)]) (l' := [.bs (updB b x.toNat v) 256, .c (.i perm), .c (.i (wr1 wr 1))]) rfl rfl rfl rfl (Nat.le_of_ble_eq_true (by kernel_rfl)) [0] (ran_of (T' := (.br (bif decide (x < 0) then true else decide (256 ≤ x)) (.leaf ((.tup []), ⟨[(0, (.cells 174 [(.bs b 256), (.c (.i perm)), (.c (.i wr))]))], 1⟩)) (.need ((0 : Int) ≤ x ∧ x < (256 : Int)) (.need ((0 : Nat) + ((0 : Nat) + x.toNat) < (256 : Nat)) (.leaf ((.tup []), ⟨[(0, (.cells 174 [(.bs (upd b (0 + (0 + x.toNat)) v) 256), (.c (.i perm)), (.c (.i (wr1 wr 1)))]))], 1⟩)))))) (by kernel_rfl) (⟨fun hc => by
          have := hx.1; have := hx.2; simp only [cond_true_l, Bool.or_eq_true, decide_eq_true_eq] at hc; omega, fun _ => ⟨hx, by omega, rfl, by simp only [Nat.zero_add]; rfl⟩⟩)) hR hk⟩
      · exact hh.elim
    · exact hh.elim
  · exact hh.elim⟩
end Go.Proofs.Ytchoogeojpllfaa
