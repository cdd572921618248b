/- A part of the walk or of the law. -/
import Derived.Test.YtchoogeojpllfaaMemB
set_option linter.unusedVariables false
set_option linter.unusedSimpArgs false
namespace Go.Proofs.Ytchoogeojpllfaa
open Go.Sx
abbrev MT : TypeId := 105
abbrev PG : TypeId := 174
def IsPO (o : Ob) (T : Nat) (pre : List PgA) (foc : Option (BitVec 32 × Nat)) (post : List PgA) : Prop := o = pmOb T pre foc post ∨ ∃ W G, o = pin (pmOb T pre foc post) W G
def IsWO (o : Ob) (l : List (BitVec 32)) : Prop := o = wmOb l ∨ ∃ W G, o = pin (wmOb l) W G
theorem pin_is {o : Ob} {T : Nat} {pre post : List PgA} {foc : Option (BitVec 32 × Nat)} {W : World} {G : Nat → Prop} (h : IsPm o T pre foc post) : IsPm (pin o W G) T pre foc post := fun ρ w k F hh => h ρ w k F hh.1
theorem pin_isw {o : Ob} {l : List (BitVec 32)} {W : World} {G : Nat → Prop} (h : IsWm o l) : IsWm (pin o W G) l := fun ρ w k F hh => h ρ w k F hh.1
/-- Mem.page, told of a memory's own blocks. -/
def a_page : List E → HP → R V
  | [.c (.ptr 0 0 0), .c (.w a)], hp => (match Sx.look hp 0, Sx.look hp 1 with
    | some (.cells T [.c (.i most), .c (.i n), .c (.obj 1), .c (.obj 2), .c (.raw tv)]), some (.ob o) => if T = MT then (match o.d with
      | .pm T2 pre none post => .need (IsPO o T2 pre none post) (.need (∀ p ∈ pre ++ post, p.base ≠ ofPg a) (.ok (.e (.c (.raw (.pointer none))))))
      | .pm T2 pre (some (x, 3)) post => .need (IsPO o T2 pre (some (x, 3)) post) (.need (ofPg a = x ∧ ∀ p ∈ pre, p.base ≠ ofPg a) (.ok (.e (.c (.ptr 3 0 0)))))
      | _ => .fail) else .fail
    | _, _ => .fail)
  | _, _ => .fail
theorem sub01 {hp : HP} {b c : Blk} (h : Sx.look hp 0 = some b) (h1 : Sx.look hp 1 = some c) : ∀ k d, Sx.look [(0, b), (1, c)] k = some d → Sx.look hp k = some d := fun k d hc => by
  simp only [Sx.look] at hc
  split at hc
  · rename_i e; subst e; cases hc; exact h
  · split at hc
    · rename_i e; subst e; cases hc; exact h1
    · cases hc
noncomputable def q_page : QE Try.prog := ⟨69, a_page, fun args hp Q h => by
  unfold a_page at h
  split at h
  · rename_i a
    split at h
    · rename_i T most n tv o hk0 hk1
      split at h
      · rename_i hT
        subst hT
        split at h
        · rename_i T2 pre post hd
          obtain ⟨ho, hmiss, hq⟩ := h
          refine ⟨enters Try.func69 (by kernel_rfl) (by kernel_rfl), .e (.c (.raw (.pointer none))), hq, fun ρ φ w hR => ?_⟩
          rcases ho with rfl | ⟨W0, G0, rfl⟩
          · exact quiet_call (hp := [(0, .cells MT [.c (.i most), .c (.i n), .c (.obj 1), .c (.obj 2), .c (.raw tv)]), (1, .ob (pmOb T2 pre none post))]) (n := 4) (args := [.c (.ptr 0 0 0), .c (.w a)]) (v := .e (.c (.raw (.pointer none)))) S1_ok hmo Try.func69 (by kernel_rfl) rfl rfl rfl (Nat.le_of_ble_eq_true (by kernel_rfl)) [] (fun W G => (ran_of (T' := (.need (IsPm (pin (pmOb T2 pre none post) W (G (1 : Nat))) T2 pre none post) (.need (∀ (p : PgA), p ∈ pre ++ post → p.base ≠ ofPg a) (.leaf ((.e (.c (.raw (.pointer .none)))), ⟨[(0, (.cells 105 [(.c (.i most)), (.c (.i n)), (.c (.obj 1)), (.c (.obj 2)), (.c (.raw tv))])), (1, (.ob (pin (pmOb T2 pre .none post) W (G 1))))], 4⟩))))) (by kernel_rfl) (⟨pin_pm, hmiss, rfl, fun k b hk => hk⟩))) (hR.sub (sub01 hk0 hk1))
          · exact quiet_call (hp := [(0, .cells MT [.c (.i most), .c (.i n), .c (.obj 1), .c (.obj 2), .c (.raw tv)]), (1, .ob (pin (pmOb T2 pre none post) W0 G0))]) (n := 4) (args := [.c (.ptr 0 0 0), .c (.w a)]) (v := .e (.c (.raw (.pointer none)))) S1_ok hmo Try.func69 (by kernel_rfl) rfl rfl rfl (Nat.le_of_ble_eq_true (by kernel_rfl)) [] (fun W G => (ran_of (T' := (.need (IsPm (pin (pin (pmOb T2 pre none post) W0 G0) W (G (1 : Nat))) T2 pre none post) (.need (∀ (p : PgA), p ∈ pre ++ post → p.base ≠ ofPg a) (.leaf ((.e (.c (.raw (.pointer .none)))), ⟨[(0, (.cells 105 [(.c (.i most)), (.c (.i n)), (.c (.obj 1)), (.c (.obj 2)), (.c (.raw tv))])), (1, (.ob (pin (pin (pmOb T2 pre .none post) W0 G0) W (G 1))))], 4⟩))))) (by kernel_rfl) (⟨pin_is pin_pm, hmiss, rfl, fun k b hk => hk⟩))) (hR.sub (sub01 hk0 hk1))
        · rename_i T2 pre x post hd
          obtain ⟨ho, hmiss, hq⟩ := h
          refine ⟨enters Try.func69 (by kernel_rfl) (by kernel_rfl), .e (.c (.ptr 3 0 0)), hq, fun ρ φ w hR => ?_⟩
          rcases ho with rfl | ⟨W0, G0, rfl⟩
          · exact quiet_call (hp := [(0, .cells MT [.c (.i most), .c (.i n), .c (.obj 1), .c (.obj 2), .c (.raw tv)]), (1, .ob (pmOb T2 pre (some (x, 3)) post))]) (n := 4) (args := [.c (.ptr 0 0 0), .c (.w a)]) (v := .e (.c (.ptr 3 0 0))) S1_ok hmo Try.func69 (by kernel_rfl) rfl rfl rfl (Nat.le_of_ble_eq_true (by kernel_rfl)) [] (fun W G => (ran_of (T' := (.need (IsPm (pin (pmOb T2 pre (some (x, (3 : Nat))) post) W (G (1 : Nat))) T2 pre (some (x, (3 : Nat))) post) (.need (ofPg a = x ∧ ∀ (p : PgA), p ∈ pre → p.base ≠ ofPg a) (.leaf ((.e (.c (.ptr 3 0 0))), ⟨[(0, (.cells 105 [(.c (.i most)), (.c (.i n)), (.c (.obj 1)), (.c (.obj 2)), (.c (.raw tv))])), (1, (.ob (pin (pmOb T2 pre (.some (x, 3)) post) W (G 1))))], 4⟩))))) (by kernel_rfl) (⟨pin_pm, hmiss, rfl, fun k b hk => hk⟩))) (hR.sub (sub01 hk0 hk1))
          · exact quiet_call (hp := [(0, .cells MT [.c (.i most), .c (.i n), .c (.obj 1), .c (.obj 2), .c (.raw tv)]), (1, .ob (pin (pmOb T2 pre (some (x, 3)) post) W0 G0))]) (n := 4) (args := [.c (.ptr 0 0 0), .c (.w a)]) (v := .e (.c (.ptr 3 0 0))) S1_ok hmo Try.func69 (by kernel_rfl) rfl rfl rfl (Nat.le_of_ble_eq_true (by kernel_rfl)) [] (fun W G => (ran_of (T' := (.need (IsPm (pin (pin (pmOb T2 pre (some (x, (3 : Nat))) post) W0 G0) W (G (1 : Nat))) T2 pre (some (x, (3 : Nat))) post) (.need (ofPg a = x ∧ ∀ (p : PgA), p ∈ pre → p.base ≠ ofPg a) (.leaf ((.e (.c (.ptr 3 0 0))), ⟨[(0, (.cells 105 [(.c (.i most)), (.c (.i n)), (.c (.obj 1)), (.c (.obj 2)), (.c (.raw tv))])), (1, (.ob (pin (pin (pmOb T2 pre (.some (x, 3)) post) W0 G0) W (G 1))))], 4⟩))))) (by kernel_rfl) (⟨pin_is pin_pm, hmiss, rfl, fun k b hk => hk⟩))) (hR.sub (sub01 hk0 hk1))
        · exact h.elim
      · exact h.elim
    · exact h.elim
  · exact h.elim⟩
noncomputable def S2 : Sp := spOf (P := Try.prog) [⟨_, _, zpage⟩] [] [q_of, q_byte, q_perm, q_load, q_page] [m_setperm, m_add, m_pnew, m_setbyte] (some (mapX mapTy atm)) (some (mapY mapTy atm 174))
theorem S2_ok : SpOk Try.prog S2 := spOf_ok _ _ _ _ _ _
def peekA (ps : List PgA) (a : BitVec 32) : BitVec 8 := match pageAt ps (ofPg a) with | some p => p.b (a % 256#32).toNat | none => 0
def permA (ps : List PgA) (a : BitVec 32) : Int := match pageAt ps (ofPg a) with | some p => p.perm | none => 0
def mapdA (ps : List PgA) (a : BitVec 32) : Bool := (pageAt ps (ofPg a)).isSome
theorem mod256 (a : BitVec 32) : 0 ≤ ((a % 256#32).toNat : Int) ∧ ((a % 256#32).toNat : Int) < 256 := by
  rw [BitVec.toNat_umod]
  have : a.toNat % (256#32).toNat < 256 := Nat.mod_lt _ (by decide)
  omega
theorem peek_reads (most : Int) (ps : List PgA) (wl : List (BitVec 32)) (a : BitVec 32) : MemReads Try.prog MT PG 68 [.c (.w a)] most ps wl (.e (.c (.b (peekA ps a)))) := by
  refine mem_reads S2_ok hmo Try.func68 (by kernel_rfl) rfl rfl (Nat.le_of_ble_eq_true (by kernel_rfl)) (ofPg a) [1] [2] (fun hp tv W G => (ran_of (T' := (.need (IsPO (pin (pmOb PG ps none []) W (G (1 : Nat))) PG ps none []) (.need (∀ (p : PgA), p ∈ ps ++ [] → p.base ≠ ofPg a) (.need (true = true) (.leaf ((.e (.c (.b 0#8))), ⟨[(0, (.cells 105 [(.c (.i most)), (.c (.i ((↑ps.length : Int)))), (.c (.obj 1)), (.c (.obj 2)), (.c (.raw tv))])), (1, (.ob (pin (pmOb 174 ps .none []) W (G 1)))), (2, (.ob (pin (wmOb wl) W (G 2))))], 3⟩)))))) (by kernel_rfl) (⟨.inr ⟨W, G 1, rfl⟩, fun p hm => pageAt_none hp p (by simpa using hm), rfl, by rw [show peekA ps a = 0#8 by (simp only [peekA, hp]; rfl)]; rfl⟩))) (fun pre p post wr hps hb hmiss hp n tv W G => (ran_of (T' := (.need (IsPO (pin (pmOb PG pre (some (p.base, (3 : Nat))) post) W (G (1 : Nat))) PG pre (some (p.base, (3 : Nat))) post) (.need (ofPg a = p.base ∧ ∀ (p : PgA), p ∈ pre → p.base ≠ ofPg a) (.need (false = false) (.need (BitVec.ofNat (32 : Nat) (256 : Nat) ≠ BitVec.ofNat (32 : Nat) (0 : Nat)) (.need ((0 : Int) ≤ (↑(a % BitVec.ofNat (32 : Nat) (256 : Nat)).toNat : Int) ∧ (↑(a % BitVec.ofNat (32 : Nat) (256 : Nat)).toNat : Int) < (256 : Int)) (.leaf ((.e (.c (.b (p.b (↑(a % 256#32).toNat : Int).toNat)))), ⟨[(0, (.cells 105 [(.c (.i most)), (.c (.i ((↑n : Int)))), (.c (.obj 1)), (.c (.obj 2)), (.c (.raw tv))])), (1, (.ob (pin (pmOb 174 pre (.some (p.base, 3)) post) W (G 1)))), (2, (.ob (pin (wmOb wl) W (G 2)))), (3, (.cells 174 [(.bs p.b 256), (.c (.i p.perm)), (.c (.i wr))]))], 4⟩)))))))) (by kernel_rfl) (⟨.inr ⟨W, G 1, rfl⟩, ⟨hb.symm, hmiss⟩, rfl, by decide, mod256 a, by rw [show peekA ps a = p.b (a % 256#32).toNat by simp only [peekA, hp]]; rfl⟩)))
theorem perm_reads (most : Int) (ps : List PgA) (wl : List (BitVec 32)) (a : BitVec 32) : MemReads Try.prog MT PG 78 [.c (.w a)] most ps wl (.e (.c (.i (permA ps a)))) := by
  refine mem_reads S2_ok hmo Try.func78 (by kernel_rfl) rfl rfl (Nat.le_of_ble_eq_true (by kernel_rfl)) (ofPg a) [1] [2] (fun hp tv W G => (ran_of (T' := (.need (IsPO (pin (pmOb PG ps none []) W (G (1 : Nat))) PG ps none []) (.need (∀ (p : PgA), p ∈ ps ++ [] → p.base ≠ ofPg a) (.need (true = true) (.leaf ((.e (.c (.i 0))), ⟨[(0, (.cells 105 [(.c (.i most)), (.c (.i ((↑ps.length : Int)))), (.c (.obj 1)), (.c (.obj 2)), (.c (.raw tv))])), (1, (.ob (pin (pmOb 174 ps .none []) W (G 1)))), (2, (.ob (pin (wmOb wl) W (G 2))))], 3⟩)))))) (by kernel_rfl) (⟨.inr ⟨W, G 1, rfl⟩, fun p hm => pageAt_none hp p (by simpa using hm), rfl, by rw [show permA ps a = 0 by simp only [permA, hp]]; rfl⟩))) (fun pre p post wr hps hb hmiss hp n tv W G => (ran_of (T' := (.need (IsPO (pin (pmOb PG pre (some (p.base, (3 : Nat))) post) W (G (1 : Nat))) PG pre (some (p.base, (3 : Nat))) post) (.need (ofPg a = p.base ∧ ∀ (p : PgA), p ∈ pre → p.base ≠ ofPg a) (.need (false = false) (.leaf ((.e (.c (.i p.perm))), ⟨[(0, (.cells 105 [(.c (.i most)), (.c (.i ((↑n : Int)))), (.c (.obj 1)), (.c (.obj 2)), (.c (.raw tv))])), (1, (.ob (pin (pmOb 174 pre (.some (p.base, 3)) post) W (G 1)))), (2, (.ob (pin (wmOb wl) W (G 2)))), (3, (.cells 174 [(.bs p.b 256), (.c (.i p.perm)), (.c (.i wr))]))], 4⟩)))))) (by kernel_rfl) (⟨.inr ⟨W, G 1, rfl⟩, ⟨hb.symm, hmiss⟩, rfl, by rw [show permA ps a = p.perm by simp only [permA, hp]]; rfl⟩)))
theorem mapd_reads (most : Int) (ps : List PgA) (wl : List (BitVec 32)) (a : BitVec 32) : MemReads Try.prog MT PG 77 [.c (.w a)] most ps wl (.e (.c (.bool (mapdA ps a)))) := by
  refine mem_reads S2_ok hmo Try.func77 (by kernel_rfl) rfl rfl (Nat.le_of_ble_eq_true (by kernel_rfl)) (ofPg a) [] [] (fun hp tv W G => (ran_of (T' := (.need (IsPO (pin (pmOb PG ps none []) W (G (1 : Nat))) PG ps none []) (.need (∀ (p : PgA), p ∈ ps ++ [] → p.base ≠ ofPg a) (.leaf ((.e (.c (.bool false))), ⟨[(0, (.cells 105 [(.c (.i most)), (.c (.i ((↑ps.length : Int)))), (.c (.obj 1)), (.c (.obj 2)), (.c (.raw tv))])), (1, (.ob (pin (pmOb 174 ps .none []) W (G 1)))), (2, (.ob (pin (wmOb wl) W (G 2))))], 3⟩))))) (by kernel_rfl) (⟨.inr ⟨W, G 1, rfl⟩, fun p hm => pageAt_none hp p (by simpa using hm), by rw [show mapdA ps a = false by simp only [mapdA, hp, Option.isSome_none]]; rfl⟩))) (fun pre p post wr hps hb hmiss hp n tv W G => (ran_of (T' := (.need (IsPO (pin (pmOb PG pre (some (p.base, (3 : Nat))) post) W (G (1 : Nat))) PG pre (some (p.base, (3 : Nat))) post) (.need (ofPg a = p.base ∧ ∀ (p : PgA), p ∈ pre → p.base ≠ ofPg a) (.leaf ((.e (.c (.bool true))), ⟨[(0, (.cells 105 [(.c (.i most)), (.c (.i ((↑n : Int)))), (.c (.obj 1)), (.c (.obj 2)), (.c (.raw tv))])), (1, (.ob (pin (pmOb 174 pre (.some (p.base, 3)) post) W (G 1)))), (2, (.ob (pin (wmOb wl) W (G 2)))), (3, (.cells 174 [(.bs p.b 256), (.c (.i p.perm)), (.c (.i wr))]))], 4⟩))))) (by kernel_rfl) (⟨.inr ⟨W, G 1, rfl⟩, ⟨hb.symm, hmiss⟩, by rw [show mapdA ps a = true by simp only [mapdA, hp, Option.isSome_some]]; rfl⟩)))
end Go.Proofs.Ytchoogeojpllfaa
