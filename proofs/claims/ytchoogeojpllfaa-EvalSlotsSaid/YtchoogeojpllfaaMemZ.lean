/- A part of the walk or of the law. -/
import Derived.Test.YtchoogeojpllfaaMemY
import Derived.Test.YtchoogeojpllfaaSx5
set_option linter.unusedVariables false
set_option linter.unusedSimpArgs false
namespace Go.Proofs.Ytchoogeojpllfaa
open Go.Sx
set_option maxHeartbeats 4000000
theorem zu8 : Z1 Try.prog 5 [.c (.b 0)] := z1_of (by kernel_rfl) (by kernel_rfl) rfl
theorem zu32 : Z1 Try.prog 23 [.c (.w 0)] := z1_of (by kernel_rfl) (by kernel_rfl) rfl
theorem zpart : Z1 Try.prog 33 [.c (.w 0), .c (.raw (.slice none 0 0)), .c (.i 0), .c (.bool false)] := z1_of (by kernel_rfl) (by kernel_rfl) rfl
theorem hBytes : SlTy Try.prog 29 5 [.c (.b 0)] := ⟨by kernel_rfl, zu8, by decide, Nat.le_of_ble_eq_true (by kernel_rfl)⟩
theorem watch_off (ps : List PgA) (a : BitVec 32) : watchA ps [] a false = [] := by
  unfold watchA
  cases mapdA ps a <;> rfl
/-- A place that is not to be watched, of a memory of which nothing is. -/
def a_watch0 : List E → H → R (V × H)
  | [.c (.ptr k 0 0), .c (.w _), .c (.bool false)], h => (match Sx.look h.hp k with
    | some (.ob o) => (match o.d with
      | .mem most ps [] _ => .need (IsMem MT PG o most ps []) (.ok (.tup [], memNow h k most ps []))
      | _ => .fail)
    | _ => .fail)
  | _, _ => .fail
noncomputable def m_watch0 : ME Try.prog := ⟨33, a_watch0, fun args h Q hh => by
  unfold a_watch0 at hh
  split at hh
  · rename_i k a
    split at hh
    · rename_i o hk
      split at hh
      · rename_i most ps tl hd
        have hw := watch_does most ps [] a false
        rw [watch_off] at hw
        exact ⟨enters Try.func33 (by kernel_rfl) (by kernel_rfl), _, _, hh.2, fun ρ φ w hR hkb => hw.client rfl rfl hk hh.1 hR⟩
      · exact hh.elim
    · exact hh.elim
  · exact hh.elim⟩
noncomputable def L0 : Sp := spOf (P := Try.prog) [⟨_, _, zu8⟩] [] [] [] none none
theorem L0_ok : SpOk Try.prog L0 := spOf_ok _ _ _ _ _ _
/-- A word's four bytes. -/
def putB (v : BitVec 32) : Nat → BitVec 8 := upd (upd (upd (upd (fun _ => 0#8) 0 ((v >>> 24).setWidth 8)) 1 ((v >>> 16).setWidth 8)) 2 ((v >>> 8).setWidth 8)) 3 (v.setWidth 8)
def a_put : List E → H → R (V × H)
  | [.c (.w v)], h => .ok (.e (.c (.sl h.nk 0 0 4 4)), ⟨(h.nk, .cells 5 [.bs (putB v) 4]) :: h.hp, h.nk + 1⟩)
  | _, _ => .fail
theorem put_ran (v : BitVec 32) : Ran Try.prog Try.f12.ntmps 0 (fexec Try.prog L0 Try.f12 (bodyOf Try.f12) [.c (.w v)] ⟨[], 0⟩ fun v h => (v, h)) [] fun r => r.1 = .e (.c (.sl 0 0 0 4 4)) ∧ Sx.look r.2.hp 0 = some (.cells 5 [.bs (putB v) 4]) := by
  refine ran_of (T' := .need (0 < 4) (.need (1 < 4) (.need (2 < 4) (.need (3 < 4) (.leaf (.e (.c (.sl 0 0 0 4 4)), ⟨[(0, .cells 5 [.bs (putB v) 4])], 1⟩)))))) (by kernel_rfl) ⟨by decide, by decide, by decide, by decide, rfl, rfl⟩
noncomputable def m_put : ME Try.prog := ⟨12, a_put, fun args h Q hh => by
  unfold a_put at hh
  split at hh
  · rename_i v
    exact ⟨enters Try.func12 (by kernel_rfl) (by kernel_rfl), _, _, hh, fun ρ φ w hR hkb => fresh_call (fun k => .sl k 0 0 4 4) (fun ρ ρ' k e => by simp [C.den, e]) L0_ok hmo Try.func12 (by kernel_rfl) rfl rfl (Nat.le_of_ble_eq_true (by kernel_rfl)) [] (put_ran v) hR hkb⟩
  · exact hh.elim⟩
noncomputable def L1 : Sp := ((spOf (P := Try.prog) [⟨_, _, zu8⟩] [] [] [m_put] none (some (slY hBytes))).un 4).ck
theorem L1_ok : SpOk Try.prog L1 := Sp.ck_ok (Sp.un_ok (spOf_ok _ _ _ _ _ _) 4)
noncomputable def m_code : ME Try.prog := inlM L1_ok hmo Try.func17 (by kernel_rfl) (by kernel_rfl)
noncomputable def L2 : Sp := ((spOf (P := Try.prog) [⟨_, _, zpart⟩] [] [] [m_newM, m_mapM, m_pokeM, m_watch0] none none).un 14).ck
theorem L2_ok : SpOk Try.prog L2 := Sp.ck_ok (Sp.un_ok (spOf_ok _ _ _ _ _ _) 14)
/-- A memory of parts of known lengths. -/
def me4_ps (x : BitVec 32) (perm : Int) (f : Nat → BitVec 8) : List PgA := let p0 := ([] : List PgA); let p1 := mapA 64 p0 (x + 0#32) perm; let p2 := mapA 64 p1 (x + 1#32) perm; let p3 := mapA 64 p2 (x + 2#32) perm; let p4 := mapA 64 p3 (x + 3#32) perm; let p5 := pokeA p4 (x + 0#32) (f 0); let p6 := pokeA p5 (x + 1#32) (f 1); let p7 := pokeA p6 (x + 2#32) (f 2); let p8 := pokeA p7 (x + 3#32) (f 3); p8
set_option maxRecDepth 4000 in
theorem me4_ran (x : BitVec 32) (perm : Int) (f : Nat → BitVec 8) (W : World) (G : Nat → Nat → Prop) : Ran Try.prog Try.f11.ntmps 2 (fexec Try.prog L2 Try.f11 (bodyOf Try.f11) [.c (.sl 0 0 0 1 1)] ⟨pinHp W G [(0, .cells 33 [.c (.w x), .c (.obj 1), .c (.i perm), .c (.bool false)]), (1, .ob (btOb 5 1 [.bs f 4]))], 2⟩ fun v h => (v, h)) [1, 1, 1, 1, 2] fun r => r.1 = .e (.c (.ptr 2 0 0)) ∧ Sx.look r.2.hp 2 = some (.ob (memOb MT PG 64 (me4_ps x perm f) [])) ∧ ∀ k b, Sx.look (pinHp W G [(0, .cells 33 [.c (.w x), .c (.obj 1), .c (.i perm), .c (.bool false)]), (1, .ob (btOb 5 1 [.bs f 4]))]) k = some b → Sx.look r.2.hp k = some b :=
  ran_of (T' := (let bl := ([.bs f 4] : List Sg); let ob := pin (btOb 5 1 bl) W (G 1); let p0 := ([] : List PgA); let p1 := mapA 64 p0 (x + 0#32) perm; let p2 := mapA 64 p1 (x + 1#32) perm; let p3 := mapA 64 p2 (x + 2#32) perm; let p4 := mapA 64 p3 (x + 3#32) perm; let p5 := pokeA p4 (x + 0#32) (f 0); let p6 := pokeA p5 (x + 1#32) (f 1); let p7 := pokeA p6 (x + 2#32) (f 2); let p8 := pokeA p7 (x + 3#32) (f 3); (.need (true = true) (.need (IsMem MT PG (memOb MT PG 64 p0 []) 64 p0 [] ∧ (64 : Int) ≤ 64) (.need (true = true) (.need (IsMem MT PG (memOb MT PG 64 p1 []) 64 p1 [] ∧ (64 : Int) ≤ 64) (.need (true = true) (.need (IsMem MT PG (memOb MT PG 64 p2 []) 64 p2 [] ∧ (64 : Int) ≤ 64) (.need (true = true) (.need (IsMem MT PG (memOb MT PG 64 p3 []) 64 p3 [] ∧ (64 : Int) ≤ 64) (.need (false = false) (.need (IsMem MT PG (memOb MT PG 64 p4 []) 64 p4 [] ∧ false = false) (.need (IsMem MT PG (memOb MT PG 64 p5 []) 64 p5 [] ∧ false = false) (.need (IsMem MT PG (memOb MT PG 64 p6 []) 64 p6 [] ∧ false = false) (.need (IsMem MT PG (memOb MT PG 64 p7 []) 64 p7 [] ∧ false = false) (.need (IsMem MT PG (memOb MT PG 64 p8 []) 64 p8 []) (.leaf (.e (.c (.ptr 2 0 0)), ⟨[(2, .ob (memOb MT PG 64 p8 [])), (0, .cells 33 [.c (.w x), .c (.obj 1), .c (.i perm), .c (.bool false)]), (1, .ob ob)], 3⟩)))))))))))))))) : Tr (V × H))) (by kernel_rfl) ⟨rfl, ⟨⟨is_mem, by decide⟩, ⟨rfl, ⟨⟨is_mem, by decide⟩, ⟨rfl, ⟨⟨is_mem, by decide⟩, ⟨rfl, ⟨⟨is_mem, by decide⟩, ⟨rfl, ⟨⟨is_mem, rfl⟩, ⟨⟨is_mem, rfl⟩, ⟨⟨is_mem, rfl⟩, ⟨⟨is_mem, rfl⟩, ⟨is_mem, ⟨rfl, rfl, fun k b hk => match k, hk with | 0, hk => hk | 1, hk => hk | k + 2, hk => absurd hk (by simp [pinHp, Sx.look])⟩⟩⟩⟩⟩⟩⟩⟩⟩⟩⟩⟩⟩⟩⟩
/-- Memory, of one part, its bytes a list that has grown. -/
def a_memory : List E → H → R (V × H)
  | [.c (.sl k 0 0 1 1)], h => (match Sx.look h.hp k with
    | some (.cells t [.c (.w x), .c (.obj j), .c (.i perm), .c (.bool false)]) => (match Sx.look h.hp j with
      | some (.ob o) => (match o.d with
        | .bt T 1 [.bs f 4] => .need (t = 33 ∧ T = 5 ∧ o = btOb 5 1 [.bs f 4]) (.ok (.e (.c (.ptr h.nk 0 0)), ⟨(h.nk, .ob (memOb MT PG 64 (me4_ps x perm f) [])) :: h.hp, h.nk + 1⟩))
        | _ => .fail)
      | _ => .fail)
    | _ => .fail)
  | _, _ => .fail
theorem one_part {ρ : As} {φ : Nat → Nat → Prop} {hp : HP} {w : World} {k j : Nat} {x : BitVec 32} {perm : Int} {l : List Sg} (hR : Rep ρ φ hp w) (hk : Sx.look hp k = some (.cells 33 [.c (.w x), .c (.obj j), .c (.i perm), .c (.bool false)])) (hj : Sx.look hp j = some (.ob (btOb 5 1 l))) :
    Rep (ρ.via fun i => match i with | 0 => k | _ => j) (fun i => φ (match i with | 0 => k | _ => j)) [(0, .cells 33 [.c (.w x), .c (.obj 1), .c (.i perm), .c (.bool false)]), (1, .ob (btOb 5 1 l))] w := by
  refine hR.via (fun i => match i with | 0 => k | _ => j) (fun i b hi => ?_) (fun i i' b c hi hi' hne => ?_)
  · match i, hi with
    | 0, hi => cases hi; exact ⟨_, hk, hR.ok k _ hk⟩
    | 1, hi => cases hi; exact ⟨_, hj, bt_via (K := fun i => match i with | 0 => k | _ => j) (hR.ok j _ hj)⟩
    | n + 2, hi => exact absurd hi (by simp [Sx.look])
  · have hkj : k ≠ j := fun e => by rw [e, hj] at hk; cases hk
    match i, hi, i', hi' with
    | 0, _, 0, _ => exact absurd rfl hne
    | 0, _, 1, _ => exact hkj
    | 1, _, 0, _ => exact fun e => hkj e.symm
    | 1, _, 1, _ => exact absurd rfl hne
    | n + 2, hi, _, _ => exact absurd hi (by simp [Sx.look])
    | _, _, n + 2, hi => exact absurd hi (by simp [Sx.look])
noncomputable def m_memory : ME Try.prog := ⟨11, a_memory, fun args h Q hh => by
  unfold a_memory at hh
  split at hh
  · rename_i k
    split at hh
    · rename_i t x j perm hk
      split at hh
      · rename_i o hj
        split at hh
        · rename_i T f hd
          obtain ⟨⟨rfl, rfl, rfl⟩, hq⟩ := hh
          exact ⟨enters Try.func11 (by kernel_rfl) (by kernel_rfl), _, _, hq, fun ρ φ w hR hkb => made_call 2 L2_ok hmo Try.func11 (by kernel_rfl) rfl rfl (Nat.le_of_ble_eq_true (by kernel_rfl)) (Nat.le_of_ble_eq_true rfl) _ (fun W G => me4_ran x perm f W G) (one_part hR hk hj) rfl hR hkb⟩
        · exact hh.elim
      · exact hh.elim
    · exact hh.elim
  · exact hh.elim⟩
end Go.Proofs.Ytchoogeojpllfaa
