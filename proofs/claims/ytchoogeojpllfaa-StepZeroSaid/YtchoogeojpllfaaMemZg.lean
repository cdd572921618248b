/- A part of the walk or of the law. -/
import Derived.Test.YtchoogeojpllfaaMemZb
set_option linter.unusedVariables false
set_option linter.unusedSimpArgs false
namespace Go.Proofs.Ytchoogeojpllfaa
open Go.Sx
set_option maxHeartbeats 4000000
/-- A memory of parts of known lengths. -/
def me14_ps (x y : BitVec 32) (perm perm2 : Int) (f g : Nat → BitVec 8) : List PgA := let p0 := ([] : List PgA); let p1 := mapA 64 p0 (x + 0#32) perm; let p2 := mapA 64 p1 (x + 1#32) perm; let p3 := mapA 64 p2 (x + 2#32) perm; let p4 := mapA 64 p3 (x + 3#32) perm; let p5 := pokeA p4 (x + 0#32) (f 0); let p6 := pokeA p5 (x + 1#32) (f 1); let p7 := pokeA p6 (x + 2#32) (f 2); let p8 := pokeA p7 (x + 3#32) (f 3); let p9 := mapA 64 p8 (y + 0#32) perm2; let p10 := mapA 64 p9 (y + 1#32) perm2; let p11 := mapA 64 p10 (y + 2#32) perm2; let p12 := mapA 64 p11 (y + 3#32) perm2; let p13 := mapA 64 p12 (y + 4#32) perm2; let p14 := mapA 64 p13 (y + 5#32) perm2; let p15 := mapA 64 p14 (y + 6#32) perm2; let p16 := mapA 64 p15 (y + 7#32) perm2; let p17 := mapA 64 p16 (y + 8#32) perm2; let p18 := mapA 64 p17 (y + 9#32) perm2; let p19 := pokeA p18 (y + 0#32) (g 0); let p20 := pokeA p19 (y + 1#32) (g 1); let p21 := pokeA p20 (y + 2#32) (g 2); let p22 := pokeA p21 (y + 3#32) (g 3); let p23 := pokeA p22 (y + 4#32) (g 4); let p24 := pokeA p23 (y + 5#32) (g 5); let p25 := pokeA p24 (y + 6#32) (g 6); let p26 := pokeA p25 (y + 7#32) (g 7); let p27 := pokeA p26 (y + 8#32) (g 8); let p28 := pokeA p27 (y + 9#32) (g 9); p28
set_option maxRecDepth 4000 in
theorem me14_ran (x y : BitVec 32) (perm perm2 : Int) (f g : Nat → BitVec 8) (W : World) (G : Nat → Nat → Prop) : Ran Try.prog Try.f11.ntmps 3 (fexec Try.prog L2 Try.f11 (bodyOf Try.f11) [.c (.sl 0 0 0 2 2)] ⟨pinHp W G [(0, .cells 33 [.c (.w x), .c (.sl 1 0 0 4 4), .c (.i perm), .c (.bool false), .c (.w y), .c (.sl 2 0 0 10 10), .c (.i perm2), .c (.bool false)]), (1, .cells 5 [.bs f 4]), (2, .cells 5 [.bs g 10])], 3⟩ fun v h => (v, h)) [1, 1, 1, 1, 2, 1, 1, 1, 1, 1, 1, 1, 1, 1, 1, 2] fun r => r.1 = .e (.c (.ptr 3 0 0)) ∧ Sx.look r.2.hp 3 = some (.ob (memOb MT PG 64 (me14_ps x y perm perm2 f g) [])) ∧ ∀ k b, Sx.look (pinHp W G [(0, .cells 33 [.c (.w x), .c (.sl 1 0 0 4 4), .c (.i perm), .c (.bool false), .c (.w y), .c (.sl 2 0 0 10 10), .c (.i perm2), .c (.bool false)]), (1, .cells 5 [.bs f 4]), (2, .cells 5 [.bs g 10])]) k = some b → Sx.look r.2.hp k = some b :=
  ran_of (T' := (let p0 := ([] : List PgA); let p1 := mapA 64 p0 (x + 0#32) perm; let p2 := mapA 64 p1 (x + 1#32) perm; let p3 := mapA 64 p2 (x + 2#32) perm; let p4 := mapA 64 p3 (x + 3#32) perm; let p5 := pokeA p4 (x + 0#32) (f 0); let p6 := pokeA p5 (x + 1#32) (f 1); let p7 := pokeA p6 (x + 2#32) (f 2); let p8 := pokeA p7 (x + 3#32) (f 3); let p9 := mapA 64 p8 (y + 0#32) perm2; let p10 := mapA 64 p9 (y + 1#32) perm2; let p11 := mapA 64 p10 (y + 2#32) perm2; let p12 := mapA 64 p11 (y + 3#32) perm2; let p13 := mapA 64 p12 (y + 4#32) perm2; let p14 := mapA 64 p13 (y + 5#32) perm2; let p15 := mapA 64 p14 (y + 6#32) perm2; let p16 := mapA 64 p15 (y + 7#32) perm2; let p17 := mapA 64 p16 (y + 8#32) perm2; let p18 := mapA 64 p17 (y + 9#32) perm2; let p19 := pokeA p18 (y + 0#32) (g 0); let p20 := pokeA p19 (y + 1#32) (g 1); let p21 := pokeA p20 (y + 2#32) (g 2); let p22 := pokeA p21 (y + 3#32) (g 3); let p23 := pokeA p22 (y + 4#32) (g 4); let p24 := pokeA p23 (y + 5#32) (g 5); let p25 := pokeA p24 (y + 6#32) (g 6); let p26 := pokeA p25 (y + 7#32) (g 7); let p27 := pokeA p26 (y + 8#32) (g 8); let p28 := pokeA p27 (y + 9#32) (g 9); (.need (true = true) (.need (IsMem MT PG (memOb MT PG 64 p0 []) 64 p0 [] ∧ (64 : Int) ≤ 64) (.need (true = true) (.need (IsMem MT PG (memOb MT PG 64 p1 []) 64 p1 [] ∧ (64 : Int) ≤ 64) (.need (true = true) (.need (IsMem MT PG (memOb MT PG 64 p2 []) 64 p2 [] ∧ (64 : Int) ≤ 64) (.need (true = true) (.need (IsMem MT PG (memOb MT PG 64 p3 []) 64 p3 [] ∧ (64 : Int) ≤ 64) (.need (false = false) (.need ((0 : Nat) < 4) (.need (IsMem MT PG (memOb MT PG 64 p4 []) 64 p4 [] ∧ false = false) (.need ((1 : Nat) < 4) (.need (IsMem MT PG (memOb MT PG 64 p5 []) 64 p5 [] ∧ false = false) (.need ((2 : Nat) < 4) (.need (IsMem MT PG (memOb MT PG 64 p6 []) 64 p6 [] ∧ false = false) (.need ((3 : Nat) < 4) (.need (IsMem MT PG (memOb MT PG 64 p7 []) 64 p7 [] ∧ false = false) (.need (true = true) (.need (IsMem MT PG (memOb MT PG 64 p8 []) 64 p8 [] ∧ (64 : Int) ≤ 64) (.need (true = true) (.need (IsMem MT PG (memOb MT PG 64 p9 []) 64 p9 [] ∧ (64 : Int) ≤ 64) (.need (true = true) (.need (IsMem MT PG (memOb MT PG 64 p10 []) 64 p10 [] ∧ (64 : Int) ≤ 64) (.need (true = true) (.need (IsMem MT PG (memOb MT PG 64 p11 []) 64 p11 [] ∧ (64 : Int) ≤ 64) (.need (true = true) (.need (IsMem MT PG (memOb MT PG 64 p12 []) 64 p12 [] ∧ (64 : Int) ≤ 64) (.need (true = true) (.need (IsMem MT PG (memOb MT PG 64 p13 []) 64 p13 [] ∧ (64 : Int) ≤ 64) (.need (true = true) (.need (IsMem MT PG (memOb MT PG 64 p14 []) 64 p14 [] ∧ (64 : Int) ≤ 64) (.need (true = true) (.need (IsMem MT PG (memOb MT PG 64 p15 []) 64 p15 [] ∧ (64 : Int) ≤ 64) (.need (true = true) (.need (IsMem MT PG (memOb MT PG 64 p16 []) 64 p16 [] ∧ (64 : Int) ≤ 64) (.need (true = true) (.need (IsMem MT PG (memOb MT PG 64 p17 []) 64 p17 [] ∧ (64 : Int) ≤ 64) (.need (false = false) (.need ((0 : Nat) < 10) (.need (IsMem MT PG (memOb MT PG 64 p18 []) 64 p18 [] ∧ false = false) (.need ((1 : Nat) < 10) (.need (IsMem MT PG (memOb MT PG 64 p19 []) 64 p19 [] ∧ false = false) (.need ((2 : Nat) < 10) (.need (IsMem MT PG (memOb MT PG 64 p20 []) 64 p20 [] ∧ false = false) (.need ((3 : Nat) < 10) (.need (IsMem MT PG (memOb MT PG 64 p21 []) 64 p21 [] ∧ false = false) (.need ((4 : Nat) < 10) (.need (IsMem MT PG (memOb MT PG 64 p22 []) 64 p22 [] ∧ false = false) (.need ((5 : Nat) < 10) (.need (IsMem MT PG (memOb MT PG 64 p23 []) 64 p23 [] ∧ false = false) (.need ((6 : Nat) < 10) (.need (IsMem MT PG (memOb MT PG 64 p24 []) 64 p24 [] ∧ false = false) (.need ((7 : Nat) < 10) (.need (IsMem MT PG (memOb MT PG 64 p25 []) 64 p25 [] ∧ false = false) (.need ((8 : Nat) < 10) (.need (IsMem MT PG (memOb MT PG 64 p26 []) 64 p26 [] ∧ false = false) (.need ((9 : Nat) < 10) (.need (IsMem MT PG (memOb MT PG 64 p27 []) 64 p27 [] ∧ false = false) (.need (IsMem MT PG (memOb MT PG 64 p28 []) 64 p28 []) (.need (IsMem MT PG (memOb MT PG 64 p28 []) 64 p28 []) (.leaf (.e (.c (.ptr 3 0 0)), ⟨[(3, .ob (memOb MT PG 64 p28 [])), (0, .cells 33 [.c (.w x), .c (.sl 1 0 0 4 4), .c (.i perm), .c (.bool false), .c (.w y), .c (.sl 2 0 0 10 10), .c (.i perm2), .c (.bool false)]), (1, .cells 5 [.bs f 4]), (2, .cells 5 [.bs g 10])], 4⟩)))))))))))))))))))))))))))))))))))))))))))))))))))))))))))))) : Tr (V × H))) (by kernel_rfl) ⟨rfl, ⟨⟨is_mem, by decide⟩, ⟨rfl, ⟨⟨is_mem, by decide⟩, ⟨rfl, ⟨⟨is_mem, by decide⟩, ⟨rfl, ⟨⟨is_mem, by decide⟩, ⟨rfl, ⟨by decide, ⟨⟨is_mem, rfl⟩, ⟨by decide, ⟨⟨is_mem, rfl⟩, ⟨by decide, ⟨⟨is_mem, rfl⟩, ⟨by decide, ⟨⟨is_mem, rfl⟩, ⟨rfl, ⟨⟨is_mem, by decide⟩, ⟨rfl, ⟨⟨is_mem, by decide⟩, ⟨rfl, ⟨⟨is_mem, by decide⟩, ⟨rfl, ⟨⟨is_mem, by decide⟩, ⟨rfl, ⟨⟨is_mem, by decide⟩, ⟨rfl, ⟨⟨is_mem, by decide⟩, ⟨rfl, ⟨⟨is_mem, by decide⟩, ⟨rfl, ⟨⟨is_mem, by decide⟩, ⟨rfl, ⟨⟨is_mem, by decide⟩, ⟨rfl, ⟨⟨is_mem, by decide⟩, ⟨rfl, ⟨by decide, ⟨⟨is_mem, rfl⟩, ⟨by decide, ⟨⟨is_mem, rfl⟩, ⟨by decide, ⟨⟨is_mem, rfl⟩, ⟨by decide, ⟨⟨is_mem, rfl⟩, ⟨by decide, ⟨⟨is_mem, rfl⟩, ⟨by decide, ⟨⟨is_mem, rfl⟩, ⟨by decide, ⟨⟨is_mem, rfl⟩, ⟨by decide, ⟨⟨is_mem, rfl⟩, ⟨by decide, ⟨⟨is_mem, rfl⟩, ⟨by decide, ⟨⟨is_mem, rfl⟩, ⟨is_mem, ⟨is_mem, ⟨rfl, rfl, fun k b hk => match k, hk with | 0, hk => hk | 1, hk => hk | 2, hk => hk | k + 3, hk => absurd hk (by simp [pinHp, Sx.look])⟩⟩⟩⟩⟩⟩⟩⟩⟩⟩⟩⟩⟩⟩⟩⟩⟩⟩⟩⟩⟩⟩⟩⟩⟩⟩⟩⟩⟩⟩⟩⟩⟩⟩⟩⟩⟩⟩⟩⟩⟩⟩⟩⟩⟩⟩⟩⟩⟩⟩⟩⟩⟩⟩⟩⟩⟩⟩⟩⟩⟩

theorem two_parts {ρ : As} {φ : Nat → Nat → Prop} {hp : HP} {w : World} {k j i : Nat} {x y : BitVec 32} {perm perm2 : Int} {l m : List Sg} (hl : l.all (Sg.kb 0) = true) (hm : m.all (Sg.kb 0) = true) (hR : Rep ρ φ hp w) (hk : Sx.look hp k = some (.cells 33 [.c (.w x), .c (.sl j 0 0 4 4), .c (.i perm), .c (.bool false), .c (.w y), .c (.sl i 0 0 10 10), .c (.i perm2), .c (.bool false)])) (hj : Sx.look hp j = some (.cells 5 l)) (hi : Sx.look hp i = some (.cells 5 m)) (h1 : k ≠ j) (h2 : k ≠ i) (h3 : j ≠ i) :
    Rep (ρ.via fun n => match n with | 0 => k | 1 => j | _ => i) (fun n => φ (match n with | 0 => k | 1 => j | _ => i)) [(0, .cells 33 [.c (.w x), .c (.sl 1 0 0 4 4), .c (.i perm), .c (.bool false), .c (.w y), .c (.sl 2 0 0 10 10), .c (.i perm2), .c (.bool false)]), (1, .cells 5 l), (2, .cells 5 m)] w := by
  refine hR.via (fun n => match n with | 0 => k | 1 => j | _ => i) (fun n b hn => ?_) (fun n n' b c hn hn' hne => ?_)
  · match n, hn with
    | 0, hn => cases hn; exact ⟨_, hk, hR.ok k _ hk⟩
    | 1, hn => cases hn; exact ⟨_, hj, (by have := hR.ok j _ hj; exact ⟨by rw [cellsOf_agr (n := 0) (ρ := ρ) hl fun j hj => by omega]; exact this.1, this.2⟩)⟩
    | 2, hn => cases hn; exact ⟨_, hi, (by have := hR.ok i _ hi; exact ⟨by rw [cellsOf_agr (n := 0) (ρ := ρ) hm fun j hj => by omega]; exact this.1, this.2⟩)⟩
    | n + 3, hn => exact absurd hn (by simp [Sx.look])
  · match n, hn, n', hn' with
    | 0, _, 0, _ => exact absurd rfl hne
    | 0, _, 1, _ => exact h1
    | 0, _, 2, _ => exact h2
    | 1, _, 0, _ => exact fun e => h1 e.symm
    | 1, _, 1, _ => exact absurd rfl hne
    | 1, _, 2, _ => exact h3
    | 2, _, 0, _ => exact fun e => h2 e.symm
    | 2, _, 1, _ => exact fun e => h3 e.symm
    | 2, _, 2, _ => exact absurd rfl hne
    | n + 3, hn, _, _ => exact absurd hn (by simp [Sx.look])
    | _, _, n + 3, hn => exact absurd hn (by simp [Sx.look])
/-- Memory, of two parts. -/
def a_memory14 : List E → H → R (V × H)
  | [.c (.sl k 0 0 2 2)], h => (match Sx.look h.hp k with
    | some (.cells t [.c (.w x), .c (.sl j 0 0 4 4), .c (.i perm), .c (.bool false), .c (.w y), .c (.sl i 0 0 10 10), .c (.i perm2), .c (.bool false)]) => (match Sx.look h.hp j, Sx.look h.hp i with
      | some (.cells T [.bs f 4]), some (.cells T' [.bs g 10]) => .need (t = 33 ∧ T = 5 ∧ T' = 5) (match k != j && (k != i && j != i) with | true => .ok (.e (.c (.ptr h.nk 0 0)), ⟨(h.nk, .ob (memOb MT PG 64 (me14_ps x y perm perm2 f g) [])) :: h.hp, h.nk + 1⟩) | false => .fail)
      | _, _ => .fail)
    | _ => .fail)
  | _, _ => .fail
noncomputable def m_memory14 : ME Try.prog := ⟨11, a_memory14, fun args h Q hh => by
  unfold a_memory14 at hh
  split at hh
  · rename_i k
    split at hh
    · rename_i t x j perm y i perm2 hk
      split at hh
      · rename_i T f T' g hj hi
        obtain ⟨⟨rfl, rfl, rfl⟩, hq⟩ := hh
        split at hq
        · rename_i hb
          simp only [Bool.and_eq_true, bne_iff_ne] at hb
          obtain ⟨h1, h2, h3⟩ := hb
          exact ⟨enters Try.func11 (by kernel_rfl) (by kernel_rfl), _, _, hq, fun ρ φ w hR hkb => made_call 3 L2_ok hmo Try.func11 (by kernel_rfl) rfl rfl (Nat.le_of_ble_eq_true (by kernel_rfl)) (Nat.le_of_ble_eq_true rfl) _ (fun W G => me14_ran x y perm perm2 f g W G) (two_parts rfl rfl hR hk hj hi h1 h2 h3) rfl hR hkb⟩
        · exact hq.elim
      · exact hh.elim
    · exact hh.elim
  · exact hh.elim⟩
end Go.Proofs.Ytchoogeojpllfaa
