/- A part of the walk or of the law. -/
import Derived.Test.YtchoogeojpllfaaMemZg
import Derived.Test.YtchoogeojpllfaaSx5
set_option linter.unusedVariables false
set_option linter.unusedSimpArgs false
namespace Go.Proofs.Ytchoogeojpllfaa
open Go.Sx
set_option maxHeartbeats 4000000
set_option maxRecDepth 20000
noncomputable def L6 : Sp := spOf (P := Try.prog) [⟨_, _, zstate⟩, ⟨_, _, zfault⟩, ⟨_, _, zpart⟩, ⟨_, _, zu32⟩, ⟨_, _, zu8⟩] [] [q_lPlain, q_awk] [m_put, m_memory14, m_sStep] none (some (slY hBytes))
theorem L6_ok : SpOk Try.prog L6 := spOf_ok _ _ _ _ _ _
noncomputable def zT (W : World) (v : Int) (x : Option Addr) (n c : Nat) (pc : BitVec 32) : Tr (V × Option Blk) := fexec Try.prog L6 Try.f3 (bodyOf Try.f3) [.c (.i v), .c (.raw (.slice x n c)), .c (.w pc)] ⟨oldH W, 1⟩ fun v h => (v, Sx.look h.hp 0)
/-- The loop's state. -/
def zI (W : World) (v : Int) (x : Option Addr) (n c : Nat) (pc : BitVec 32) (i : Int) (g : Nat → BitVec 32) : St :=
  ⟨[(8, .v (.e (.c (.i i)))), (7, .v (.e (.c (.ptr 1 0 0)))), (6, .v (.e (.c (.bool false)))), (0, .v (.e (.c (.i v)))), (1, .v (.e (.c (.raw (.slice x n c))))), (2, .v (.e (.c (.w pc))))], [], ⟨[(1, .cells 26 [.ws g 32, .c (.w 0), .c (.w 0), .c (.w 0), .c (.w 0), .c (.bool false)]), (0, .ob (oldOb W))], 2⟩⟩
/-- Its state at the end. -/
def zE (W : World) (v : Int) (x : Option Addr) (n c : Nat) (pc : BitVec 32) (i : Int) (g : Nat → BitVec 32) : St :=
  ⟨[(20, (.v (.e (.c (.bool (bif decide (i < (↑n : Int)) then decide (i < 32) else false)))))), (17, (.v (.e (.c (.bool (decide (i < (↑n : Int)))))))), (16, (.v (.e (.c (.bool (decide (i < (↑n : Int)))))))), (15, (.v (.e (.c (.i ((↑n : Int))))))), (14, (.v (.e (.c (.raw (.slice x n c)))))), (13, (.v (.e (.c (.i i))))), (8, (.v (.e (.c (.i i))))), (7, (.v (.e (.c (.ptr 1 0 0))))), (6, (.v (.e (.c (.bool false))))), (0, (.v (.e (.c (.i v))))), (1, (.v (.e (.c (.raw (.slice x n c)))))), (2, (.v (.e (.c (.w pc)))))], [], ⟨[(1, .cells 26 [.ws g 32, .c (.w 0), .c (.w 0), .c (.w 0), .c (.w 0), .c (.bool false)]), (0, .ob (oldOb W))], 2⟩⟩
def zTail_0 (W : World) (v : Int) (x : Option Addr) (n c : Nat) (pc : BitVec 32) (i : Int) (g : Nat → BitVec 32) : Bool := let x1 := (putB (lPlain_0 v)); let x2 := (sh (upd g 28 0#32) 0); (bif (sStep_6 (me14_ps (pc % 64#32 * 4#32 + 4096#32) (0#32) 7 6 x1 fun x => 0#8) x2 (0#32) (0#32) (pc % 64#32 * 4#32 + 4096#32) (pc % 64#32 * 4#32 + 4096#32 + 4#32) false == 2) then (bif bif sStep_8 (me14_ps (pc % 64#32 * 4#32 + 4096#32) (0#32) 7 6 x1 fun x => 0#8) x2 (0#32) (0#32) (pc % 64#32 * 4#32 + 4096#32) (pc % 64#32 * 4#32 + 4096#32 + 4#32) false == pc % 64#32 * 4#32 + 4096#32 then bif bif bif bif bif sStep_7 (me14_ps (pc % 64#32 * 4#32 + 4096#32) (0#32) 7 6 x1 fun x => 0#8) x2 (0#32) (0#32) (pc % 64#32 * 4#32 + 4096#32) (pc % 64#32 * 4#32 + 4096#32 + 4#32) false == 8 then true else sStep_7 (me14_ps (pc % 64#32 * 4#32 + 4096#32) (0#32) 7 6 x1 fun x => 0#8) x2 (0#32) (0#32) (pc % 64#32 * 4#32 + 4096#32) (pc % 64#32 * 4#32 + 4096#32 + 4#32) false == 9 then true else sStep_7 (me14_ps (pc % 64#32 * 4#32 + 4096#32) (0#32) 7 6 x1 fun x => 0#8) x2 (0#32) (0#32) (pc % 64#32 * 4#32 + 4096#32) (pc % 64#32 * 4#32 + 4096#32 + 4#32) false == 2 then true else sStep_7 (me14_ps (pc % 64#32 * 4#32 + 4096#32) (0#32) 7 6 x1 fun x => 0#8) x2 (0#32) (0#32) (pc % 64#32 * 4#32 + 4096#32) (pc % 64#32 * 4#32 + 4096#32 + 4#32) false == 3 then true else sStep_7 (me14_ps (pc % 64#32 * 4#32 + 4096#32) (0#32) 7 6 x1 fun x => 0#8) x2 (0#32) (0#32) (pc % 64#32 * 4#32 + 4096#32) (pc % 64#32 * 4#32 + 4096#32 + 4#32) false == 5 then true else sStep_7 (me14_ps (pc % 64#32 * 4#32 + 4096#32) (0#32) 7 6 x1 fun x => 0#8) x2 (0#32) (0#32) (pc % 64#32 * 4#32 + 4096#32) (pc % 64#32 * 4#32 + 4096#32 + 4#32) false == 6 else false then awk_0 else false) else (bif bif bif bif bif sStep_6 (me14_ps (pc % 64#32 * 4#32 + 4096#32) (0#32) 7 6 x1 fun x => 0#8) x2 (0#32) (0#32) (pc % 64#32 * 4#32 + 4096#32) (pc % 64#32 * 4#32 + 4096#32 + 4#32) false == 0 then sStep_0 (me14_ps (pc % 64#32 * 4#32 + 4096#32) (0#32) 7 6 x1 fun x => 0#8) x2 (0#32) (0#32) (pc % 64#32 * 4#32 + 4096#32) (pc % 64#32 * 4#32 + 4096#32 + 4#32) false 0 == 0#32 else false then sStep_3 (me14_ps (pc % 64#32 * 4#32 + 4096#32) (0#32) 7 6 x1 fun x => 0#8) x2 (0#32) (0#32) (pc % 64#32 * 4#32 + 4096#32) (pc % 64#32 * 4#32 + 4096#32 + 4#32) false == pc % 64#32 * 4#32 + 4096#32 + 4#32 else false then sStep_4 (me14_ps (pc % 64#32 * 4#32 + 4096#32) (0#32) 7 6 x1 fun x => 0#8) x2 (0#32) (0#32) (pc % 64#32 * 4#32 + 4096#32) (pc % 64#32 * 4#32 + 4096#32 + 4#32) false == pc % 64#32 * 4#32 + 4096#32 + 4#32 + 4#32 else false then !sStep_5 (me14_ps (pc % 64#32 * 4#32 + 4096#32) (0#32) 7 6 x1 fun x => 0#8) x2 (0#32) (0#32) (pc % 64#32 * 4#32 + 4096#32) (pc % 64#32 * 4#32 + 4096#32 + 4#32) false else false then awk_0 else false))
theorem zTail_sat (W : World) (v : Int) (x : Option Addr) (n c : Nat) (pc : BitVec 32) (i : Int) (g : Nat → BitVec 32) {L : Code → St → (Ex → St → Prop) → Prop} : ((zT W v x n c pc).loopK (.exit 0) (zE W v x n c pc i g)).sat L fun r => r.1 = (.e (.c (.bool (zTail_0 W v x n c pc i g)))) ∧ (fun (r : V × Option Blk) => r.2 = some (.ob (oldOb W))) r :=
  prune_sat _ [0] (sat_rw (T' := (let x1 := (putB (lPlain_0 v)); let x2 := (sh (upd g 28 0#32) 0); let x3 := (upd g (28 : Nat) (BitVec.ofNat (32 : Nat) (0 : Nat))); (.need ((0 : Int) ≤ (28 : Int) ∧ (28 : Int) < (32 : Int)) (.need ((28 : Nat) < (32 : Nat)) (.need (BitVec.ofNat (32 : Nat) (64 : Nat) ≠ BitVec.ofNat (32 : Nat) (0 : Nat)) (.need ((33 : Nat) = (33 : Nat) ∧ (5 : Nat) = (5 : Nat) ∧ (5 : Nat) = (5 : Nat)) (.need (IsMem MT PG (memOb MT PG (64 : Int) (me14_ps (pc % BitVec.ofNat (32 : Nat) (64 : Nat) * BitVec.ofNat (32 : Nat) (4 : Nat) + BitVec.ofNat (32 : Nat) (4096 : Nat)) (BitVec.ofNat (32 : Nat) (0 : Nat)) (7 : Int) (6 : Int) x1 fun x => BitVec.ofNat (8 : Nat) (0 : Nat)) []) (64 : Int) (me14_ps (pc % BitVec.ofNat (32 : Nat) (64 : Nat) * BitVec.ofNat (32 : Nat) (4 : Nat) + BitVec.ofNat (32 : Nat) (4096 : Nat)) (BitVec.ofNat (32 : Nat) (0 : Nat)) (7 : Int) (6 : Int) x1 fun x => BitVec.ofNat (8 : Nat) (0 : Nat)) []) (.br (sStep_6 (me14_ps (pc % 64#32 * 4#32 + 4096#32) (0#32) 7 6 x1 fun x => 0#8) x2 (0#32) (0#32) (pc % 64#32 * 4#32 + 4096#32) (pc % 64#32 * 4#32 + 4096#32 + 4#32) false == 2) (.leaf ((.e (.c (.bool (bif bif sStep_8 (me14_ps (pc % 64#32 * 4#32 + 4096#32) (0#32) 7 6 x1 fun x => 0#8) x2 (0#32) (0#32) (pc % 64#32 * 4#32 + 4096#32) (pc % 64#32 * 4#32 + 4096#32 + 4#32) false == pc % 64#32 * 4#32 + 4096#32 then bif bif bif bif bif sStep_7 (me14_ps (pc % 64#32 * 4#32 + 4096#32) (0#32) 7 6 x1 fun x => 0#8) x2 (0#32) (0#32) (pc % 64#32 * 4#32 + 4096#32) (pc % 64#32 * 4#32 + 4096#32 + 4#32) false == 8 then true else sStep_7 (me14_ps (pc % 64#32 * 4#32 + 4096#32) (0#32) 7 6 x1 fun x => 0#8) x2 (0#32) (0#32) (pc % 64#32 * 4#32 + 4096#32) (pc % 64#32 * 4#32 + 4096#32 + 4#32) false == 9 then true else sStep_7 (me14_ps (pc % 64#32 * 4#32 + 4096#32) (0#32) 7 6 x1 fun x => 0#8) x2 (0#32) (0#32) (pc % 64#32 * 4#32 + 4096#32) (pc % 64#32 * 4#32 + 4096#32 + 4#32) false == 2 then true else sStep_7 (me14_ps (pc % 64#32 * 4#32 + 4096#32) (0#32) 7 6 x1 fun x => 0#8) x2 (0#32) (0#32) (pc % 64#32 * 4#32 + 4096#32) (pc % 64#32 * 4#32 + 4096#32 + 4#32) false == 3 then true else sStep_7 (me14_ps (pc % 64#32 * 4#32 + 4096#32) (0#32) 7 6 x1 fun x => 0#8) x2 (0#32) (0#32) (pc % 64#32 * 4#32 + 4096#32) (pc % 64#32 * 4#32 + 4096#32 + 4#32) false == 5 then true else sStep_7 (me14_ps (pc % 64#32 * 4#32 + 4096#32) (0#32) 7 6 x1 fun x => 0#8) x2 (0#32) (0#32) (pc % 64#32 * 4#32 + 4096#32) (pc % 64#32 * 4#32 + 4096#32 + 4#32) false == 6 else false then awk_0 else false)))), (.some (.ob (oldOb W))))) (.need ((sStep_6 (me14_ps (pc % BitVec.ofNat (32 : Nat) (64 : Nat) * BitVec.ofNat (32 : Nat) (4 : Nat) + BitVec.ofNat (32 : Nat) (4096 : Nat)) (BitVec.ofNat (32 : Nat) (0 : Nat)) (7 : Int) (6 : Int) x1 fun x => BitVec.ofNat (8 : Nat) (0 : Nat)) (sh x3 (0 : Nat)) (BitVec.ofNat (32 : Nat) (0 : Nat)) (BitVec.ofNat (32 : Nat) (0 : Nat)) (pc % BitVec.ofNat (32 : Nat) (64 : Nat) * BitVec.ofNat (32 : Nat) (4 : Nat) + BitVec.ofNat (32 : Nat) (4096 : Nat)) (pc % BitVec.ofNat (32 : Nat) (64 : Nat) * BitVec.ofNat (32 : Nat) (4 : Nat) + BitVec.ofNat (32 : Nat) (4096 : Nat) + BitVec.ofNat (32 : Nat) (4 : Nat)) false == (0 : Int)) = true → (0 : Int) ≤ (0 : Int) ∧ (0 : Int) < (32 : Int)) (.need ((sStep_6 (me14_ps (pc % BitVec.ofNat (32 : Nat) (64 : Nat) * BitVec.ofNat (32 : Nat) (4 : Nat) + BitVec.ofNat (32 : Nat) (4096 : Nat)) (BitVec.ofNat (32 : Nat) (0 : Nat)) (7 : Int) (6 : Int) x1 fun x => BitVec.ofNat (8 : Nat) (0 : Nat)) (sh x3 (0 : Nat)) (BitVec.ofNat (32 : Nat) (0 : Nat)) (BitVec.ofNat (32 : Nat) (0 : Nat)) (pc % BitVec.ofNat (32 : Nat) (64 : Nat) * BitVec.ofNat (32 : Nat) (4 : Nat) + BitVec.ofNat (32 : Nat) (4096 : Nat)) (pc % BitVec.ofNat (32 : Nat) (64 : Nat) * BitVec.ofNat (32 : Nat) (4 : Nat) + BitVec.ofNat (32 : Nat) (4096 : Nat) + BitVec.ofNat (32 : Nat) (4 : Nat)) false == (0 : Int)) = true → (0 : Nat) < (32 : Nat)) (.leaf ((.e (.c (.bool (bif bif bif bif bif sStep_6 (me14_ps (pc % 64#32 * 4#32 + 4096#32) (0#32) 7 6 x1 fun x => 0#8) x2 (0#32) (0#32) (pc % 64#32 * 4#32 + 4096#32) (pc % 64#32 * 4#32 + 4096#32 + 4#32) false == 0 then sStep_0 (me14_ps (pc % 64#32 * 4#32 + 4096#32) (0#32) 7 6 x1 fun x => 0#8) x2 (0#32) (0#32) (pc % 64#32 * 4#32 + 4096#32) (pc % 64#32 * 4#32 + 4096#32 + 4#32) false 0 == 0#32 else false then sStep_3 (me14_ps (pc % 64#32 * 4#32 + 4096#32) (0#32) 7 6 x1 fun x => 0#8) x2 (0#32) (0#32) (pc % 64#32 * 4#32 + 4096#32) (pc % 64#32 * 4#32 + 4096#32 + 4#32) false == pc % 64#32 * 4#32 + 4096#32 + 4#32 else false then sStep_4 (me14_ps (pc % 64#32 * 4#32 + 4096#32) (0#32) 7 6 x1 fun x => 0#8) x2 (0#32) (0#32) (pc % 64#32 * 4#32 + 4096#32) (pc % 64#32 * 4#32 + 4096#32 + 4#32) false == pc % 64#32 * 4#32 + 4096#32 + 4#32 + 4#32 else false then !sStep_5 (me14_ps (pc % 64#32 * 4#32 + 4096#32) (0#32) 7 6 x1 fun x => 0#8) x2 (0#32) (0#32) (pc % 64#32 * 4#32 + 4096#32) (pc % 64#32 * 4#32 + 4096#32 + 4#32) false else false then awk_0 else false)))), (.some (.ob (oldOb W))))))))))))) : Tr (V × Option Blk))) (by kernel_rfl) (collP_sat (g := fun (r : V × Option Blk) => r.1) (K := fun (r : V × Option Blk) => r.2 = some (.ob (oldOb W))) ⟨(by decide), ⟨(by decide), ⟨(by decide), ⟨(⟨rfl, rfl, rfl⟩), ⟨is_mem, ⟨fun h => rfl, fun h => ⟨(by (simp_all; done)), ⟨(by (simp_all; done)), rfl⟩⟩⟩⟩⟩⟩⟩⟩ (by kernel_rfl)))

theorem zS (W : World) (v : Int) (x : Option Addr) (n c : Nat) (pc : BitVec 32) : (zT W v x n c pc).loopS = zI W v x n c pc 0 (fun _ => 0) := by kernel_rfl
/-- Where the loop reads. -/
def zAt (x : Option Addr) (i : Int) : Addr := (x.getD ⟨0, 0, none⟩).add (i.toNat * 1)
/-- A round. -/
theorem zR (W : World) (v : Int) (x : Option Addr) (n c : Nat) (pc : BitVec 32) (i : Int) (g : Nat → BitVec 32) {L : Code → St → (Ex → St → Prop) → Prop} {Q : Ex × St → Prop} (hi : 0 ≤ i) (hx : i < n → x.isSome = true) (hr : i < n → Reads W (zAt x i) [.c (.w (rdW W (zAt x i)))])
    (h1 : i < 32 → ∀ s, (∀ t sv, Sx.look (zI W v x n c pc (W64 (i + 1)) (upd g i.toNat (rdW W (zAt x i)))).tm t = some sv → Sx.look s.tm t = some sv) → s.h = (zI W v x n c pc (W64 (i + 1)) (upd g i.toNat (rdW W (zAt x i)))).h → Q (.normal, s)) (h2 : Q (.exit 0, zE W v x n c pc i g)) :
    (exec Try.prog L6 Try.f3.ntmps (zT W v x n c pc).loopB (zI W v x n c pc i g) fun e s' => Tr.leaf (e, s')).sat L Q := by
  have e : (exec Try.prog L6 Try.f3.ntmps (zT W v x n c pc).loopB (zI W v x n c pc i g) fun e s' => Tr.leaf (e, s')) = (.br (bif decide (i < (↑n : Int)) then decide (i < 32) else false) (.need ((0 : Int) ≤ i ∧ i < (↑n : Int)) (.need (x.isSome = true) (.need (IsOld (oldOb W) W ∧ Reads W (zAt x i) [Sg.c (C.w (rdW W (zAt x i)))]) (.need ((0 : Int) ≤ i ∧ i < (32 : Int)) (.need ((0 : Nat) + ((0 : Nat) + i.toNat) < (32 : Nat)) (.leaf (.normal, ⟨[(8, (.v (.e (.c (.i (W64 (i + 1))))))), (22, (.v (.e (.c (.i (W64 (i + 1))))))), (21, (.v (.e (.c (.i i))))), (29, (.v (.e (.c (.ptr 1 0 (0 + i.toNat)))))), (28, (.v (.e (.c (.ptr 1 0 0))))), (27, (.v (.e (.c (.w (rdW W (zAt x i))))))), (26, (.v (.e (.c (.raw (.pointer (.some (zAt x i)))))))), (25, (.v (.e (.c (.i i))))), (24, (.v (.e (.c (.raw (.slice x n c)))))), (23, (.v (.e (.c (.i i))))), (20, (.v (.e (.c (.bool (bif decide (i < (↑n : Int)) then decide (i < 32) else false)))))), (17, (.v (.e (.c (.bool (decide (i < (↑n : Int)))))))), (16, (.v (.e (.c (.bool (decide (i < (↑n : Int)))))))), (15, (.v (.e (.c (.i ((↑n : Int))))))), (14, (.v (.e (.c (.raw (.slice x n c)))))), (13, (.v (.e (.c (.i i))))), (8, (.v (.e (.c (.i i))))), (7, (.v (.e (.c (.ptr 1 0 0))))), (6, (.v (.e (.c (.bool false))))), (0, (.v (.e (.c (.i v))))), (1, (.v (.e (.c (.raw (.slice x n c)))))), (2, (.v (.e (.c (.w pc)))))], [], ⟨[(1, (.cells 26 [(.ws (upd g (0 + (0 + i.toNat)) (rdW W (zAt x i))) 32), (.c (.w 0)), (.c (.w 0)), (.c (.w 0)), (.c (.w 0)), (.c (.bool false))])), (0, (.ob (oldOb W)))], 2⟩⟩))))))) (.leaf (.exit 0, zE W v x n c pc i g)) : Tr (Ex × St)) := by kernel_rfl
  rw [e]
  refine ⟨fun hc => ?_, fun _ => h2⟩
  have hc2 : i < n ∧ i < 32 := by
    have : (decide (i < (↑n : Int)) && decide (i < 32)) = true := by rw [← hc]; cases decide (i < (↑n : Int)) <;> rfl
    rw [Bool.and_eq_true, decide_eq_true_eq, decide_eq_true_eq] at this
    exact this
  refine ⟨⟨hi, hc2.1⟩, hx hc2.1, ⟨is_old, hr hc2.1⟩, ⟨hi, hc2.2⟩, by omega, h1 hc2.2 _ ?_ ?_⟩
  · intro t sv ht
    simp only [zI, Sx.look] at ht ⊢
    split at ht
    · rename_i e; rw [if_pos e]; exact ht
    · rename_i e8
      rw [if_neg e8]
      split at ht
      · rename_i e; subst e; simpa using ht
      · rename_i e7
        split at ht
        · rename_i e; subst e; simpa using ht
        · rename_i e6
          split at ht
          · rename_i e; subst e; simpa using ht
          · rename_i e0
            split at ht
            · rename_i e; subst e; simpa using ht
            · rename_i e1
              split at ht
              · rename_i e; subst e; simpa using ht
              · cases ht
  · simp [zI]
theorem zLoop (W : World) (v : Int) (x : Option Addr) (n c : Nat) (pc : BitVec 32) (hx : 0 < n → x.isSome = true) (hr : ∀ i : Int, 0 ≤ i → i < n → Reads W (zAt x i) [.c (.w (rdW W (zAt x i)))]) :
    LoopT Try.prog Try.f3.ntmps 1 (zT W v x n c pc).loopB (zI W v x n c pc 0 (fun _ => 0)) fun e s => e = .exit 0 ∧ ∃ i g, s = zE W v x n c pc i g := by
  refine LoopT.of L6_ok hmo (X := Nat × (Nat → BitVec 32)) (fun p => zI W v x n c pc p.1 p.2) (fun p => 32 - p.1) (0, fun _ => 0) (St.le_refl _) fun p => ?_
  obtain ⟨i, g⟩ := p
  refine zR W v x n c pc i g (by omega) (fun h => hx (by omega)) (fun h => hr i (by omega) h) (fun h32 s ht hh => ?_) ⟨rfl, _, _, rfl⟩
  refine ⟨(i + 1, upd g i (rdW W (zAt x i))), ?_, by simp only; omega⟩
  have e64 : W64 ((i : Int) + 1) = ((i + 1 : Nat) : Int) := by rw [W64_of (by omega) (by omega)]; omega
  rw [e64, Int.toNat_natCast] at ht hh
  refine St.le_of ht (fun k b hk => by rw [hh]; exact hk) (by simp [zI]) (by rw [hh]; simp [zI]) rfl (fun t sv hl => ?_) (fun t s2 wt y hl => ?_)
  · simp only [zI, Sx.look] at hl
    repeat' (split at hl; · cases hl; rfl)
    cases hl
  · simp only [zI, Sx.look] at hl
    repeat' (split at hl; · cases hl)
    cases hl
/-- The walk of StepZero. -/
theorem zero_walk (W : World) (v : Int) (x : Option Addr) (n c : Nat) (pc : BitVec 32) (hx : 0 < n → x.isSome = true) (hr : ∀ i : Int, 0 ≤ i → i < n → Reads W (zAt x i) [.c (.w (rdW W (zAt x i)))]) (ht : ∀ i g, zTail_0 W v x n c pc i g = true) :
    Calls Try.prog 3 #[.int .i64 v, .slice x n c, .int .u32 pc.toNat] W fun e w' => e = .returned (.bool true) ∧ RowKit.Below W.heap.size W w' :=
  old_call (v := .e (.c (.bool true))) (args := [.c (.i v), .c (.raw (.slice x n c)), .c (.w pc)]) L6_ok hmo Try.func3 (by kernel_rfl) rfl rfl (Nat.le_of_ble_eq_true (by kernel_rfl)) W
    (sat_loop (T := zT W v x n c pc) (by kernel_rfl) rfl (zS W v x n c pc) _ (zLoop W v x n c pc hx hr) fun e s h => by
      obtain ⟨rfl, i, g, rfl⟩ := h
      refine Tr.sat_mono (fun r hr => ?_) (zTail_sat W v x n c pc i g)
      rw [ht] at hr
      exact hr)
end Go.Proofs.Ytchoogeojpllfaa
