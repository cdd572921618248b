/- A part of the walk or of the law. -/
import Derived.Test.YtchoogeojpllfaaMemL
import Derived.Test.YtchoogeojpllfaaSx5
set_option linter.unusedVariables false
set_option linter.unusedSimpArgs false
namespace Go.Proofs.Ytchoogeojpllfaa
open Go.Sx
noncomputable def A0 : Sp := spOf (P := Try.prog) [] [] [q_peekM, q_permM, q_wordM, q_insKind, q_acWide] [] none none
theorem A0_ok : SpOk Try.prog A0 := spOf_ok _ _ _ _ _ _
/-- access.Fetch -/
def fetch_0 (ps : List PgA) (a : BitVec 32) : BitVec 32 := (bif (a % 4#32 != 0#32) then 0#32 else (bif (iBits (fun x y => x &&& y) (permA ps a) 1 == 0) then 0#32 else (wordA ps a)))
def fetch_1 (ps : List PgA) (a : BitVec 32) : Int := (bif (a % 4#32 != 0#32) then 1 else (bif (iBits (fun x y => x &&& y) (permA ps a) 1 == 0) then 4 else 0))
def a_fetch : List E → HP → R V
  | .c (.ptr k 0 0) :: [.c (.w a)], hp => (match Sx.look hp k with
    | some (.ob o) => (match o.d with
      | .mem most ps wl _ => .need (IsMem MT PG o most ps wl) (.ok (.tup [(.c (.w (fetch_0 ps a))), (.c (.i (fetch_1 ps a)))]))
      | _ => .fail)
    | _ => .fail)
  | _, _ => .fail
noncomputable def q_fetch : QE Try.prog := ⟨34, a_fetch, fun args hp Q h => by
  unfold a_fetch at h
  split at h
  · rename_i k a
    split at h
    · rename_i o hk
      split at h
      · rename_i most ps wl tl hd
        exact ⟨enters Try.func34 (by kernel_rfl) (by kernel_rfl), (.tup [(.c (.w (fetch_0 ps a))), (.c (.i (fetch_1 ps a)))]), h.2, fun ρ φ w hR => one_reads (h := ⟨hp, 0⟩) (v := (.tup [(.c (.w (fetch_0 ps a))), (.c (.i (fetch_1 ps a)))])) A0_ok hmo Try.func34 (by kernel_rfl) rfl rfl (Nat.le_of_ble_eq_true (by kernel_rfl)) [0, 0] (fun W G => (ran_of (T' := (let x1 := (memOb 105 174 most ps wl); (.need (BitVec.ofNat (32 : Nat) (4 : Nat) ≠ BitVec.ofNat (32 : Nat) (0 : Nat)) (.br (a % 4#32 != 0#32) (.leaf ((.tup [(.c (.w 0#32)), (.c (.i 1))]), ⟨[(0, (.ob (pin x1 W (G 0))))], 1⟩)) (.need (IsMem MT PG (pin (memOb MT PG most ps wl) W (G (0 : Nat))) most ps wl) (.br (iBits (fun x y => x &&& y) (permA ps a) 1 == 0) (.leaf ((.tup [(.c (.w 0#32)), (.c (.i 4))]), ⟨[(0, (.ob (pin x1 W (G 0))))], 1⟩)) (.need (IsMem MT PG (pin (memOb MT PG most ps wl) W (G (0 : Nat))) most ps wl) (.leaf ((.tup [(.c (.w (wordA ps a))), (.c (.i 0))]), ⟨[(0, (.ob (pin x1 W (G 0))))], 1⟩))))))) : Tr (V × H))) (by kernel_rfl) (collP_sat (g := fun (r : V × H) => r.1) (K := fun (r : V × H) => Sx.look r.2.hp 0 = some (.ob (pin (memOb MT PG most ps wl) W (G 0)))) ⟨(by decide), ⟨fun h => rfl, fun h => ⟨(pin_mem is_mem), ⟨fun h => rfl, fun h => ⟨(pin_mem is_mem), rfl⟩⟩⟩⟩⟩ (by kernel_rfl)))) hR hk h.1⟩
      · exact h.elim
    · exact h.elim
  · exact h.elim⟩

theorem wideNe (op : Int) : acWide_0 op ≠ 0#32 := by
  simp only [acWide_0]
  cases (op == 49) <;> cases (op == 53) <;> cases (op == 56) <;> cases (op == 51) <;> cases (op == 58) <;> decide
/-- access.Kind -/
def acKind_0 (ps : List PgA) (op s t d a : Int) (imm x : BitVec 32) : Int := (bif (insKind_0 op == 4) then (bif (x % acWide_0 op != 0#32) then 2 else (bif (iBits (fun x y => x &&& y) (permA ps x) 4 == 0) then 5 else 0)) else (bif (insKind_0 op == 5) then (bif (x % acWide_0 op != 0#32) then 3 else (bif (iBits (fun x y => x &&& y) (permA ps x) 2 == 0) then 6 else 0)) else 0))
def a_acKind : List E → HP → R V
  | .c (.ptr k 0 0) :: [.agg [.c (.i op), .c (.i s), .c (.i t), .c (.i d), .c (.i a), .c (.w imm)], .c (.w x)], hp => (match Sx.look hp k with
    | some (.ob o) => (match o.d with
      | .mem most ps wl _ => .need (IsMem MT PG o most ps wl) (.ok (.e (.c (.i (acKind_0 ps op s t d a imm x)))))
      | _ => .fail)
    | _ => .fail)
  | _, _ => .fail
noncomputable def q_acKind : QE Try.prog := ⟨84, a_acKind, fun args hp Q h => by
  unfold a_acKind at h
  split at h
  · rename_i k op s t d a imm x
    split at h
    · rename_i o hk
      split at h
      · rename_i most ps wl tl hd
        exact ⟨enters Try.func84 (by kernel_rfl) (by kernel_rfl), (.e (.c (.i (acKind_0 ps op s t d a imm x)))), h.2, fun ρ φ w hR => one_reads (h := ⟨hp, 0⟩) (v := (.e (.c (.i (acKind_0 ps op s t d a imm x))))) A0_ok hmo Try.func84 (by kernel_rfl) rfl rfl (Nat.le_of_ble_eq_true (by kernel_rfl)) [0, 0, 0, 0, 0, 0] (fun W G => (ran_of (T' := (let x1 := (memOb 105 174 most ps wl); let x2 := (acWide_0 op ≠ BitVec.ofNat (32 : Nat) (0 : Nat)); (.br (insKind_0 op == 4) (.need x2 (.br (x % acWide_0 op != 0#32) (.leaf ((.e (.c (.i 2))), ⟨[(1, (.cells 84 [(.c (.i op)), (.c (.i s)), (.c (.i t)), (.c (.i d)), (.c (.i a)), (.c (.w imm))])), (0, (.ob (pin x1 W (G 0))))], 2⟩)) (.need (IsMem MT PG (pin (memOb MT PG most ps wl) W (G (0 : Nat))) most ps wl) (.br (iBits (fun x y => x &&& y) (permA ps x) 4 == 0) (.leaf ((.e (.c (.i 5))), ⟨[(1, (.cells 84 [(.c (.i op)), (.c (.i s)), (.c (.i t)), (.c (.i d)), (.c (.i a)), (.c (.w imm))])), (0, (.ob (pin x1 W (G 0))))], 2⟩)) (.leaf ((.e (.c (.i 0))), ⟨[(1, (.cells 84 [(.c (.i op)), (.c (.i s)), (.c (.i t)), (.c (.i d)), (.c (.i a)), (.c (.w imm))])), (0, (.ob (pin x1 W (G 0))))], 2⟩)))))) (.br (insKind_0 op == 5) (.need x2 (.br (x % acWide_0 op != 0#32) (.leaf ((.e (.c (.i 3))), ⟨[(1, (.cells 84 [(.c (.i op)), (.c (.i s)), (.c (.i t)), (.c (.i d)), (.c (.i a)), (.c (.w imm))])), (0, (.ob (pin x1 W (G 0))))], 2⟩)) (.need (IsMem MT PG (pin (memOb MT PG most ps wl) W (G (0 : Nat))) most ps wl) (.br (iBits (fun x y => x &&& y) (permA ps x) 2 == 0) (.leaf ((.e (.c (.i 6))), ⟨[(1, (.cells 84 [(.c (.i op)), (.c (.i s)), (.c (.i t)), (.c (.i d)), (.c (.i a)), (.c (.w imm))])), (0, (.ob (pin x1 W (G 0))))], 2⟩)) (.leaf ((.e (.c (.i 0))), ⟨[(1, (.cells 84 [(.c (.i op)), (.c (.i s)), (.c (.i t)), (.c (.i d)), (.c (.i a)), (.c (.w imm))])), (0, (.ob (pin x1 W (G 0))))], 2⟩)))))) (.leaf ((.e (.c (.i 0))), ⟨[(1, (.cells 84 [(.c (.i op)), (.c (.i s)), (.c (.i t)), (.c (.i d)), (.c (.i a)), (.c (.w imm))])), (0, (.ob (pin x1 W (G 0))))], 2⟩)))) : Tr (V × H))) (by kernel_rfl) (collP_sat (g := fun (r : V × H) => r.1) (K := fun (r : V × H) => Sx.look r.2.hp 0 = some (.ob (pin (memOb MT PG most ps wl) W (G 0)))) ⟨fun h => ⟨(wideNe _), ⟨fun h => rfl, fun h => ⟨(pin_mem is_mem), ⟨fun h => rfl, fun h => rfl⟩⟩⟩⟩, fun h => ⟨fun h => ⟨(wideNe _), ⟨fun h => rfl, fun h => ⟨(pin_mem is_mem), ⟨fun h => rfl, fun h => rfl⟩⟩⟩⟩, fun h => rfl⟩⟩ (by kernel_rfl)))) hR hk h.1⟩
      · exact h.elim
    · exact h.elim
  · exact h.elim⟩

/-- access.Load -/
def acLoad_0 (ps : List PgA) (op s t d a : Int) (imm x old : BitVec 32) : BitVec 32 := (bif (op == 48) then (BitVec.signExtend 32 (peekA ps x)) else (bif (op == 52) then (BitVec.setWidth 32 (peekA ps x)) else (bif (op == 49) then (BitVec.signExtend 32 (BitVec.setWidth 16 (wordA ps x >>> 16))) else (bif (op == 53) then (wordA ps x >>> 16) else (bif (op == 51) then (wordA ps x) else (bif (op == 50) then (wordA ps (x - x % 4#32) <<< (8#32 * (x % 4#32)).toNat ||| old &&& 1#32 <<< (8#32 * (x % 4#32)).toNat - 1#32) else (bif (op == 54) then (wordA ps (x - x % 4#32) >>> (24#32 - 8#32 * (x % 4#32)).toNat ||| old &&& ~~~(1#32 <<< (8#32 * (x % 4#32) + 8#32).toNat - 1#32)) else old)))))))
def a_acLoad : List E → HP → R V
  | .c (.ptr k 0 0) :: [.agg [.c (.i op), .c (.i s), .c (.i t), .c (.i d), .c (.i a), .c (.w imm)], .c (.w x), .c (.w old)], hp => (match Sx.look hp k with
    | some (.ob o) => (match o.d with
      | .mem most ps wl _ => .need (IsMem MT PG o most ps wl) (.ok (.e (.c (.w (acLoad_0 ps op s t d a imm x old)))))
      | _ => .fail)
    | _ => .fail)
  | _, _ => .fail
noncomputable def q_acLoad : QE Try.prog := ⟨88, a_acLoad, fun args hp Q h => by
  unfold a_acLoad at h
  split at h
  · rename_i k op s t d a imm x old
    split at h
    · rename_i o hk
      split at h
      · rename_i most ps wl tl hd
        exact ⟨enters Try.func88 (by kernel_rfl) (by kernel_rfl), (.e (.c (.w (acLoad_0 ps op s t d a imm x old)))), h.2, fun ρ φ w hR => one_reads (h := ⟨hp, 0⟩) (v := (.e (.c (.w (acLoad_0 ps op s t d a imm x old))))) A0_ok hmo Try.func88 (by kernel_rfl) rfl rfl (Nat.le_of_ble_eq_true (by kernel_rfl)) [0, 0, 0, 0, 0, 0, 0] (fun W G => (ran_of (T' := (let x1 := (memOb MT PG most ps wl); let x2 := (memOb 105 174 most ps wl); (.need (BitVec.ofNat (32 : Nat) (4 : Nat) ≠ BitVec.ofNat (32 : Nat) (0 : Nat)) (.need (BitVec.ofNat (32 : Nat) (4 : Nat) ≠ BitVec.ofNat (32 : Nat) (0 : Nat)) (.need (IsMem MT PG (pin x1 W (G (0 : Nat))) most ps wl) (.br (op == 48) (.need (IsMem MT PG (pin x1 W (G (0 : Nat))) most ps wl) (.leaf ((.e (.c (.w (BitVec.signExtend 32 (peekA ps x))))), ⟨[(1, (.cells 84 [(.c (.i op)), (.c (.i s)), (.c (.i t)), (.c (.i d)), (.c (.i a)), (.c (.w imm))])), (0, (.ob (pin x2 W (G 0))))], 2⟩))) (.br (op == 52) (.need (IsMem MT PG (pin x1 W (G (0 : Nat))) most ps wl) (.leaf ((.e (.c (.w (BitVec.setWidth 32 (peekA ps x))))), ⟨[(1, (.cells 84 [(.c (.i op)), (.c (.i s)), (.c (.i t)), (.c (.i d)), (.c (.i a)), (.c (.w imm))])), (0, (.ob (pin x2 W (G 0))))], 2⟩))) (.br (op == 49) (.need (IsMem MT PG (pin x1 W (G (0 : Nat))) most ps wl) (.leaf ((.e (.c (.w (BitVec.signExtend 32 (BitVec.setWidth 16 (wordA ps x >>> 16)))))), ⟨[(1, (.cells 84 [(.c (.i op)), (.c (.i s)), (.c (.i t)), (.c (.i d)), (.c (.i a)), (.c (.w imm))])), (0, (.ob (pin x2 W (G 0))))], 2⟩))) (.br (op == 53) (.need (IsMem MT PG (pin x1 W (G (0 : Nat))) most ps wl) (.leaf ((.e (.c (.w (wordA ps x >>> 16)))), ⟨[(1, (.cells 84 [(.c (.i op)), (.c (.i s)), (.c (.i t)), (.c (.i d)), (.c (.i a)), (.c (.w imm))])), (0, (.ob (pin x2 W (G 0))))], 2⟩))) (.br (op == 51) (.need (IsMem MT PG (pin x1 W (G (0 : Nat))) most ps wl) (.leaf ((.e (.c (.w (wordA ps x)))), ⟨[(1, (.cells 84 [(.c (.i op)), (.c (.i s)), (.c (.i t)), (.c (.i d)), (.c (.i a)), (.c (.w imm))])), (0, (.ob (pin x2 W (G 0))))], 2⟩))) (.br (op == 50) (.leaf ((.e (.c (.w (wordA ps (x - x % 4#32) <<< (8#32 * (x % 4#32)).toNat ||| old &&& 1#32 <<< (8#32 * (x % 4#32)).toNat - 1#32)))), ⟨[(1, (.cells 84 [(.c (.i op)), (.c (.i s)), (.c (.i t)), (.c (.i d)), (.c (.i a)), (.c (.w imm))])), (0, (.ob (pin x2 W (G 0))))], 2⟩)) (.br (op == 54) (.leaf ((.e (.c (.w (wordA ps (x - x % 4#32) >>> (24#32 - 8#32 * (x % 4#32)).toNat ||| old &&& ~~~(1#32 <<< (8#32 * (x % 4#32) + 8#32).toNat - 1#32))))), ⟨[(1, (.cells 84 [(.c (.i op)), (.c (.i s)), (.c (.i t)), (.c (.i d)), (.c (.i a)), (.c (.w imm))])), (0, (.ob (pin x2 W (G 0))))], 2⟩)) (.leaf ((.e (.c (.w old))), ⟨[(1, (.cells 84 [(.c (.i op)), (.c (.i s)), (.c (.i t)), (.c (.i d)), (.c (.i a)), (.c (.w imm))])), (0, (.ob (pin x2 W (G 0))))], 2⟩)))))))))))) : Tr (V × H))) (by kernel_rfl) (collP_sat (g := fun (r : V × H) => r.1) (K := fun (r : V × H) => Sx.look r.2.hp 0 = some (.ob (pin (memOb MT PG most ps wl) W (G 0)))) ⟨(by decide), ⟨(by decide), ⟨(pin_mem is_mem), ⟨fun h => (have h := eq_of_beq h; ⟨(pin_mem is_mem), rfl⟩), fun h => ⟨fun h => (have h := eq_of_beq h; ⟨(pin_mem is_mem), rfl⟩), fun h => ⟨fun h => (have h := eq_of_beq h; ⟨(pin_mem is_mem), rfl⟩), fun h => ⟨fun h => (have h := eq_of_beq h; ⟨(pin_mem is_mem), rfl⟩), fun h => ⟨fun h => (have h := eq_of_beq h; ⟨(pin_mem is_mem), rfl⟩), fun h => ⟨fun h => (have h := eq_of_beq h; rfl), fun h => ⟨fun h => (have h := eq_of_beq h; rfl), fun h => rfl⟩⟩⟩⟩⟩⟩⟩⟩⟩⟩ (by kernel_rfl)))) hR hk h.1⟩
      · exact h.elim
    · exact h.elim
  · exact h.elim⟩

end Go.Proofs.Ytchoogeojpllfaa
