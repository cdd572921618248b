/- A part of the walk or of the law. -/
import Derived.Test.YtchoogeojpllfaaMemM
set_option linter.unusedVariables false
set_option linter.unusedSimpArgs false
namespace Go.Proofs.Ytchoogeojpllfaa
open Go.Sx
noncomputable def A1 : Sp := spOf (P := Try.prog) [] [] [q_insKind, q_aTraps, q_acKind] [] none none
theorem A1_ok : SpOk Try.prog A1 := spOf_ok _ _ _ _ _ _
/-- step.wrong -/
def sWrong_0 (ps : List PgA) (r : Nat → BitVec 32) (hi lo pc nx : BitVec 32) (sl : Bool) (op s t d a : Int) (imm x y : BitVec 32) : Int := (bif (bif op == 0 then true else bif sl then insKind_0 op == 2 else false) then 7 else (bif (op == 36) then 10 else (bif (bif aTraps_0 op s t d a imm x y then bif bif op == 9 then true else op == 10 then true else op == 41 else false) then 8 else (bif (aTraps_0 op s t d a imm x y) then 9 else (bif (bif insKind_0 op == 4 then true else insKind_0 op == 5) then (bif (acKind_0 ps op s t d a imm (x + imm) != 0) then (acKind_0 ps op s t d a imm (x + imm)) else 0) else 0)))))
def sWrong_1 (ps : List PgA) (r : Nat → BitVec 32) (hi lo pc nx : BitVec 32) (sl : Bool) (op s t d a : Int) (imm x y : BitVec 32) : BitVec 32 := (bif (bif op == 0 then true else bif sl then insKind_0 op == 2 else false) then 0#32 else (bif (op == 36) then 0#32 else (bif (bif aTraps_0 op s t d a imm x y then bif bif op == 9 then true else op == 10 then true else op == 41 else false) then 0#32 else (bif (aTraps_0 op s t d a imm x y) then 0#32 else (bif (bif insKind_0 op == 4 then true else insKind_0 op == 5) then (bif (acKind_0 ps op s t d a imm (x + imm) != 0) then (x + imm) else 0#32) else 0#32)))))
def a_sWrong : List E → HP → R V
  | .c (.ptr k 0 0) :: [.agg [.ws r 32, .c (.w hi), .c (.w lo), .c (.w pc), .c (.w nx), .c (.bool sl)], .agg [.c (.i op), .c (.i s), .c (.i t), .c (.i d), .c (.i a), .c (.w imm)], .c (.w x), .c (.w y)], hp => (match Sx.look hp k with
    | some (.ob o) => (match o.d with
      | .mem most ps wl _ => .need (IsMem MT PG o most ps wl) (.ok (.tup [(.c (.i (sWrong_0 ps r hi lo pc nx sl op s t d a imm x y))), (.c (.w (sWrong_1 ps r hi lo pc nx sl op s t d a imm x y)))]))
      | _ => .fail)
    | _ => .fail)
  | _, _ => .fail
noncomputable def q_sWrong : QE Try.prog := ⟨36, a_sWrong, fun args hp Q h => by
  unfold a_sWrong at h
  split at h
  · rename_i k r hi lo pc nx sl op s t d a imm x y
    split at h
    · rename_i o hk
      split at h
      · rename_i most ps wl tl hd
        exact ⟨enters Try.func36 (by kernel_rfl) (by kernel_rfl), (.tup [(.c (.i (sWrong_0 ps r hi lo pc nx sl op s t d a imm x y))), (.c (.w (sWrong_1 ps r hi lo pc nx sl op s t d a imm x y)))]), h.2, fun ρ φ w hR => one_reads (h := ⟨hp, 0⟩) (v := (.tup [(.c (.i (sWrong_0 ps r hi lo pc nx sl op s t d a imm x y))), (.c (.w (sWrong_1 ps r hi lo pc nx sl op s t d a imm x y)))])) A1_ok hmo Try.func36 (by kernel_rfl) rfl rfl (Nat.le_of_ble_eq_true (by kernel_rfl)) [0, 0, 0, 0, 0, 0] (fun W G => (ran_of (T' := (let x1 := (memOb 105 174 most ps wl); (.br (bif op == 0 then true else bif sl then insKind_0 op == 2 else false) (.leaf ((.tup [(.c (.i 7)), (.c (.w 0#32))]), ⟨[(2, (.cells 84 [(.c (.i op)), (.c (.i s)), (.c (.i t)), (.c (.i d)), (.c (.i a)), (.c (.w imm))])), (1, (.cells 26 [(.ws r 32), (.c (.w hi)), (.c (.w lo)), (.c (.w pc)), (.c (.w nx)), (.c (.bool sl))])), (0, (.ob (pin x1 W (G 0))))], 3⟩)) (.br (op == 36) (.leaf ((.tup [(.c (.i 10)), (.c (.w 0#32))]), ⟨[(2, (.cells 84 [(.c (.i op)), (.c (.i s)), (.c (.i t)), (.c (.i d)), (.c (.i a)), (.c (.w imm))])), (1, (.cells 26 [(.ws r 32), (.c (.w hi)), (.c (.w lo)), (.c (.w pc)), (.c (.w nx)), (.c (.bool sl))])), (0, (.ob (pin x1 W (G 0))))], 3⟩)) (.br (bif aTraps_0 op s t d a imm x y then bif bif op == 9 then true else op == 10 then true else op == 41 else false) (.leaf ((.tup [(.c (.i 8)), (.c (.w 0#32))]), ⟨[(2, (.cells 84 [(.c (.i op)), (.c (.i s)), (.c (.i t)), (.c (.i d)), (.c (.i a)), (.c (.w imm))])), (1, (.cells 26 [(.ws r 32), (.c (.w hi)), (.c (.w lo)), (.c (.w pc)), (.c (.w nx)), (.c (.bool sl))])), (0, (.ob (pin x1 W (G 0))))], 3⟩)) (.br (aTraps_0 op s t d a imm x y) (.leaf ((.tup [(.c (.i 9)), (.c (.w 0#32))]), ⟨[(2, (.cells 84 [(.c (.i op)), (.c (.i s)), (.c (.i t)), (.c (.i d)), (.c (.i a)), (.c (.w imm))])), (1, (.cells 26 [(.ws r 32), (.c (.w hi)), (.c (.w lo)), (.c (.w pc)), (.c (.w nx)), (.c (.bool sl))])), (0, (.ob (pin x1 W (G 0))))], 3⟩)) (.br (bif insKind_0 op == 4 then true else insKind_0 op == 5) (.need (IsMem MT PG (pin (memOb MT PG most ps wl) W (G (0 : Nat))) most ps wl) (.br (acKind_0 ps op s t d a imm (x + imm) != 0) (.leaf ((.tup [(.c (.i (acKind_0 ps op s t d a imm (x + imm)))), (.c (.w (x + imm)))]), ⟨[(2, (.cells 84 [(.c (.i op)), (.c (.i s)), (.c (.i t)), (.c (.i d)), (.c (.i a)), (.c (.w imm))])), (1, (.cells 26 [(.ws r 32), (.c (.w hi)), (.c (.w lo)), (.c (.w pc)), (.c (.w nx)), (.c (.bool sl))])), (0, (.ob (pin x1 W (G 0))))], 3⟩)) (.leaf ((.tup [(.c (.i 0)), (.c (.w 0#32))]), ⟨[(2, (.cells 84 [(.c (.i op)), (.c (.i s)), (.c (.i t)), (.c (.i d)), (.c (.i a)), (.c (.w imm))])), (1, (.cells 26 [(.ws r 32), (.c (.w hi)), (.c (.w lo)), (.c (.w pc)), (.c (.w nx)), (.c (.bool sl))])), (0, (.ob (pin x1 W (G 0))))], 3⟩)))) (.leaf ((.tup [(.c (.i 0)), (.c (.w 0#32))]), ⟨[(2, (.cells 84 [(.c (.i op)), (.c (.i s)), (.c (.i t)), (.c (.i d)), (.c (.i a)), (.c (.w imm))])), (1, (.cells 26 [(.ws r 32), (.c (.w hi)), (.c (.w lo)), (.c (.w pc)), (.c (.w nx)), (.c (.bool sl))])), (0, (.ob (pin x1 W (G 0))))], 3⟩))))))) : Tr (V × H))) (by kernel_rfl) (collP_sat (g := fun (r : V × H) => r.1) (K := fun (r : V × H) => Sx.look r.2.hp 0 = some (.ob (pin (memOb MT PG most ps wl) W (G 0)))) ⟨fun h => rfl, fun h => ⟨fun h => (have h := eq_of_beq h; rfl), fun h => ⟨fun h => rfl, fun h => ⟨fun h => rfl, fun h => ⟨fun h => ⟨(pin_mem is_mem), ⟨fun h => rfl, fun h => rfl⟩⟩, fun h => rfl⟩⟩⟩⟩⟩ (by kernel_rfl)))) hR hk h.1⟩
      · exact h.elim
    · exact h.elim
  · exact h.elim⟩

end Go.Proofs.Ytchoogeojpllfaa
