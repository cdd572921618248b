/- A part of the walk or of the law. -/
import Derived.Test.YtchoogeojpllfaaMemC
set_option linter.unusedVariables false
set_option linter.unusedSimpArgs false
namespace Go.Proofs.Ytchoogeojpllfaa
open Go.Sx
/-- A memory from what stands in a heap, whether pinned or not. -/
theorem unpin {ρ : As} {φ : Nat → Nat → Prop} {hp : HP} {w : World} {most : Int} {ps : List PgA} {wl : List (BitVec 32)} {tv : Value} {o o2 : Ob} (hR : Rep ρ φ hp w)
    (h0 : Sx.look hp 0 = some (.cells MT (memCells most ps.length tv))) (h1 : Sx.look hp 1 = some (.ob o)) (ho : IsPO o PG ps none []) (h2 : Sx.look hp 2 = some (.ob o2)) (ho2 : IsWO o2 wl) : Rep ρ φ (memHp MT PG most ps wl tv) w := by
  constructor
  · intro k b hk
    simp only [memHp, Sx.look] at hk
    split at hk
    · rename_i e; subst e; cases hk; exact hR.ok 0 _ h0
    · split at hk
      · rename_i e; subst e; cases hk
        have := hR.ok 1 _ h1
        rcases ho with rfl | ⟨W, G, rfl⟩
        · exact this
        · exact this.1
      · split at hk
        · rename_i e; subst e; cases hk
          have := hR.ok 2 _ h2
          rcases ho2 with rfl | ⟨W, G, rfl⟩
          · exact this
          · exact this.1
        · cases hk
  · intro k b hk x hx
    have := memHp_lt hk
    match k, this with
    | 0, _ => exact hR.lt 0 _ h0 x hx
    | 1, _ => exact hR.lt 1 _ h1 x hx
    | 2, _ => exact hR.lt 2 _ h2 x hx
  · intro k j b b' hk hj hne x hx
    have hL : ∀ k, k < 3 → ∃ b, Sx.look hp k = some b := fun k hk => by
      match k, hk with
      | 0, _ => exact ⟨_, h0⟩
      | 1, _ => exact ⟨_, h1⟩
      | 2, _ => exact ⟨_, h2⟩
    obtain ⟨c, hc⟩ := hL k (memHp_lt hk)
    obtain ⟨d, hd⟩ := hL j (memHp_lt hj)
    exact hR.dis k j c d hc hd hne x hx
/-- Mem.Watched, told of a memory's own blocks. -/
def a_wtch : List E → HP → R V
  | [.c (.ptr 0 0 0), .c (.w a)], hp => (match Sx.look hp 0, Sx.look hp 2 with
    | some (.cells T [.c (.i most), .c (.i n), .c (.obj 1), .c (.obj 2), .c (.raw tv)]), some (.ob o) => if T = MT then (match o.d with
      | .wm l => .need (IsWO o l) (.ok (.e (.c (.bool (l.contains (ofPg a))))))
      | _ => .fail) else .fail
    | _, _ => .fail)
  | _, _ => .fail
theorem sub02 {hp : HP} {b c : Blk} (h : Sx.look hp 0 = some b) (h1 : Sx.look hp 2 = some c) : ∀ k d, Sx.look [(0, b), (2, c)] k = some d → Sx.look hp k = some d := fun k d hc => by
  simp only [Sx.look] at hc
  split at hc
  · rename_i e; subst e; cases hc; exact h
  · split at hc
    · rename_i e; subst e; cases hc; exact h1
    · cases hc
noncomputable def q_wtch : QE Try.prog := ⟨76, a_wtch, fun args hp Q h => by
  unfold a_wtch at h
  split at h
  · rename_i a
    split at h
    · rename_i T most n tv o hk0 hk1
      split at h
      · rename_i hT
        subst hT
        split at h
        · rename_i l hd
          obtain ⟨ho, hq⟩ := h
          refine ⟨enters Try.func76 (by kernel_rfl) (by kernel_rfl), .e (.c (.bool (l.contains (ofPg a)))), hq, fun ρ φ w hR => ?_⟩
          rcases ho with rfl | ⟨W0, G0, rfl⟩
          · exact quiet_call (hp := [(0, .cells MT [.c (.i most), .c (.i n), .c (.obj 1), .c (.obj 2), .c (.raw tv)]), (2, .ob (wmOb l))]) (n := 4) (args := [.c (.ptr 0 0 0), .c (.w a)]) (v := .e (.c (.bool (l.contains (ofPg a))))) S1_ok hmo Try.func76 (by kernel_rfl) rfl rfl rfl (Nat.le_of_ble_eq_true (by kernel_rfl)) [] (fun W G => (ran_of (T' := (.need (IsWm (pin (wmOb l) W (G (2 : Nat))) l) (.leaf ((.e (.c (.bool (l.contains (ofPg a))))), ⟨[(0, (.cells 105 [(.c (.i most)), (.c (.i n)), (.c (.obj 1)), (.c (.obj 2)), (.c (.raw tv))])), (2, (.ob (pin (wmOb l) W (G 2))))], 4⟩)))) (by kernel_rfl) (⟨pin_wm, rfl, fun k b hk => hk⟩))) (hR.sub (sub02 hk0 hk1))
          · exact quiet_call (hp := [(0, .cells MT [.c (.i most), .c (.i n), .c (.obj 1), .c (.obj 2), .c (.raw tv)]), (2, .ob (pin (wmOb l) W0 G0))]) (n := 4) (args := [.c (.ptr 0 0 0), .c (.w a)]) (v := .e (.c (.bool (l.contains (ofPg a))))) S1_ok hmo Try.func76 (by kernel_rfl) rfl rfl rfl (Nat.le_of_ble_eq_true (by kernel_rfl)) [] (fun W G => (ran_of (T' := (.need (IsWm (pin (pin (wmOb l) W0 G0) W (G (2 : Nat))) l) (.leaf ((.e (.c (.bool (l.contains (ofPg a))))), ⟨[(0, (.cells 105 [(.c (.i most)), (.c (.i n)), (.c (.obj 1)), (.c (.obj 2)), (.c (.raw tv))])), (2, (.ob (pin (pin (wmOb l) W0 G0) W (G 2))))], 4⟩)))) (by kernel_rfl) (⟨pin_isw pin_wm, rfl, fun k b hk => hk⟩))) (hR.sub (sub02 hk0 hk1))
        · exact h.elim
      · exact h.elim
    · exact h.elim
  · exact h.elim⟩
noncomputable def S3 : Sp := spOf (P := Try.prog) [⟨_, _, zpage⟩] [] [q_of, q_byte, q_perm, q_load, q_page, q_wtch] [m_setperm, m_add, m_pnew, m_setbyte] (some (mapX mapTy atm)) (some (mapY mapTy atm 174))
theorem S3_ok : SpOk Try.prog S3 := spOf_ok _ _ _ _ _ _
/-- The first page of that place, turned. -/
def setPg (f : PgA → PgA) (x : BitVec 32) : List PgA → List PgA
  | [] => []
  | p :: l => if p.base = x then f p :: l else p :: setPg f x l
theorem setPg_at {f : PgA → PgA} {x : BitVec 32} {p : PgA} {post : List PgA} (hp : p.base = x) : ∀ {pre : List PgA}, (∀ q ∈ pre, q.base ≠ x) → setPg f x (pre ++ p :: post) = pre ++ f p :: post
  | [], _ => by simp [setPg, hp]
  | q :: pre, h => by
    have := h q List.mem_cons_self
    simp only [List.cons_append, setPg, if_neg this, setPg_at hp (fun r hr => h r (List.mem_cons_of_mem _ hr))]
theorem setPg_no {f : PgA → PgA} {x : BitVec 32} : ∀ {l : List PgA}, (∀ q ∈ l, q.base ≠ x) → setPg f x l = l
  | [], _ => rfl
  | q :: l, h => by simp only [setPg, if_neg (h q List.mem_cons_self), setPg_no fun r hr => h r (List.mem_cons_of_mem _ hr)]
def pokeA (ps : List PgA) (a : BitVec 32) (v : BitVec 8) : List PgA := setPg (fun p => { p with b := updB p.b (a % 256#32).toNat v }) (ofPg a) ps
/-- Mem.Poke, where nothing is watched there. -/
theorem poke_does (most : Int) (ps : List PgA) (wl : List (BitVec 32)) (a : BitVec 32) (v : BitVec 8) (hw : wl.contains (ofPg a) = false) : MemDoes Try.prog MT PG 32 [.c (.w a), .c (.b v)] most ps wl (.e (.c (.bool (mapdA ps a)))) most (pokeA ps a v) wl := by
  refine mem_turns S3_ok hmo Try.func32 (by kernel_rfl) rfl rfl (Nat.le_of_ble_eq_true (by kernel_rfl)) (ofPg a) [1] [2, 0] (fun hp tv htv => (ran_of (T' := (.need (IsPO (pmOb PG ps none []) PG ps none []) (.need (∀ (p : PgA), p ∈ ps ++ [] → p.base ≠ ofPg a) (.need (true = true) (.leaf ((.e (.c (.bool false))), ⟨[(0, (.cells 105 [(.c (.i most)), (.c (.i ((↑ps.length : Int)))), (.c (.obj 1)), (.c (.obj 2)), (.c (.raw tv))])), (1, (.ob (pmOb 174 ps .none []))), (2, (.ob (wmOb wl)))], 3⟩)))))) (by kernel_rfl) (⟨.inl rfl, fun p hm => pageAt_none hp p (by simpa using hm), rfl, by rw [show mapdA ps a = false by simp only [mapdA, hp, Option.isSome_none]], .inl (by rw [show pokeA ps a v = ps from setPg_no (pageAt_none hp)]; exact ⟨tv, htv, rfl, rfl, rfl⟩)⟩))) (fun pre p post wr hps hb hmiss hp n tv htv hn => (ran_of (T' := (.need (IsPO (pmOb PG pre (some (p.base, (3 : Nat))) post) PG pre (some (p.base, (3 : Nat))) post) (.need (ofPg a = p.base ∧ ∀ (p : PgA), p ∈ pre → p.base ≠ ofPg a) (.need (false = false) (.need (BitVec.ofNat (32 : Nat) (256 : Nat) ≠ BitVec.ofNat (32 : Nat) (0 : Nat)) (.need ((0 : Int) ≤ (↑(a % BitVec.ofNat (32 : Nat) (256 : Nat)).toNat : Int) ∧ (↑(a % BitVec.ofNat (32 : Nat) (256 : Nat)).toNat : Int) < (256 : Int)) (.need (IsWO (wmOb wl) wl) (.br (wl.contains (ofPg a)) .fail (.leaf ((.e (.c (.bool true))), ⟨[(0, (.cells 105 [(.c (.i most)), (.c (.i ((↑n : Int)))), (.c (.obj 1)), (.c (.obj 2)), (.c (.raw tv))])), (1, (.ob (pmOb 174 pre (.some (p.base, 3)) post))), (2, (.ob (wmOb wl))), (3, (.cells 174 [(.bs (updB p.b (↑(a % 256#32).toNat : Int).toNat v) 256), (.c (.i p.perm)), (.c (.i (wr1 wr 1)))]))], 4⟩)))))))))) (by kernel_rfl) (⟨.inl rfl, ⟨hb.symm, hmiss⟩, rfl, by decide, mod256 a, .inl rfl, fun hc => (by rw [hw] at hc; cases hc), fun _ => ⟨by rw [show mapdA ps a = true by simp only [mapdA, hp, Option.isSome_some]], .inr ⟨n, pre, { p with b := updB p.b (a % 256#32).toNat v }, post, wr1 wr 1, tv, htv, by rw [hps]; exact setPg_at hb hmiss, by rw [hn, hps, show pokeA (pre ++ p :: post) a v = _ from setPg_at hb hmiss]; simp, rfl, rfl, rfl, rfl⟩⟩⟩)))
end Go.Proofs.Ytchoogeojpllfaa
