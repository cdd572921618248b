/- A part of the walk or of the law. -/
import Derived.Test.YtchoogeojpllfaaMemD
set_option linter.unusedVariables false
set_option linter.unusedSimpArgs false
namespace Go.Proofs.Ytchoogeojpllfaa
open Go.Sx
def or3 (x y : Int) : Int := iBits (fun x y => x ||| y) x y
def mapR (most : Int) (ps : List PgA) (a : BitVec 32) : Int := match pageAt ps (ofPg a) with | some _ => 0 | none => if most ≤ (ps.length : Int) then 2 else 0
def mapA (most : Int) (ps : List PgA) (a : BitVec 32) (perm : Int) : List PgA := match pageAt ps (ofPg a) with
  | some _ => setPg (fun p => { p with perm := and7 (or3 p.perm perm) }) (ofPg a) ps
  | none => if most ≤ (ps.length : Int) then ps else ps ++ [⟨ofPg a, and7 perm, fun _ => 0⟩]
theorem map_does (most : Int) (hmost : most ≤ 64) (ps : List PgA) (wl : List (BitVec 32)) (a : BitVec 32) (perm : Int) : MemDoes Try.prog MT PG 31 [.c (.w a), .c (.i perm)] most ps wl (.e (.c (.i (mapR most ps a)))) most (mapA most ps a perm) wl := by
  refine mem_turns S3_ok hmo Try.func31 (by kernel_rfl) rfl rfl (Nat.le_of_ble_eq_true (by kernel_rfl)) (ofPg a) [2, 0] [1] (fun hp tv htv => (ran_of (T' := (.need (IsPO (pmOb PG ps none []) PG ps none []) (.need (∀ (p : PgA), p ∈ ps ++ [] → p.base ≠ ofPg a) (.need (false = false) (.br (decide (most ≤ (↑ps.length : Int))) (.leaf ((.e (.c (.i 2))), ⟨[(0, (.cells 105 [(.c (.i most)), (.c (.i ((↑ps.length : Int)))), (.c (.obj 1)), (.c (.obj 2)), (.c (.raw tv))])), (1, (.ob (pmOb 174 ps .none []))), (2, (.ob (wmOb wl)))], 3⟩)) (.need (pmOb PG ps none [] = pmOb PG ps none []) (.need (∀ (p : PgA), p ∈ ps → p.base ≠ ofPg a) (.leaf ((.e (.c (.i 0))), ⟨[(3, (.cells 174 [(.bs (fun x => 0#8) 256), (.c (.i (and7 perm))), (.c (.i 0))])), (1, (.ob (pmOb 174 ps (.some ((ofPg a), 3)) []))), (0, (.cells 105 [(.c (.i most)), (.c (.i (wr1 (↑ps.length : Int) 1))), (.c (.obj 1)), (.c (.obj 2)), (.c (.raw tv))])), (2, (.ob (wmOb wl)))], 4⟩))))))))) (by kernel_rfl) (⟨.inl rfl, fun p hm => pageAt_none hp p (by simpa using hm), rfl, fun hc => (by
      have hc' : most ≤ (ps.length : Int) := by simpa using hc
      exact ⟨by rw [show mapR most ps a = 2 by simp only [mapR, hp, if_pos hc']], .inl (by rw [show mapA most ps a perm = ps by simp only [mapA, hp, if_pos hc']]; exact ⟨tv, htv, rfl, rfl, rfl⟩)⟩), fun hc => ⟨rfl, pageAt_none hp, (by
      have hc' : ¬ most ≤ (ps.length : Int) := by simpa using hc
      have e : wr1 (ps.length : Int) 1 = ((ps.length + 1 : Nat) : Int) := by unfold wr1; rw [W64_of (by omega) (by omega)]; omega
      exact ⟨by rw [show mapR most ps a = 0 by simp only [mapR, hp, if_neg hc']], .inr ⟨ps.length + 1, ps, ⟨ofPg a, and7 perm, fun _ => 0⟩, [], 0, tv, htv, by simp only [mapA, hp, if_neg hc'], by simp only [mapA, hp, if_neg hc', List.length_append, List.length_cons, List.length_nil], by rw [e]; rfl, rfl, rfl, rfl⟩⟩)⟩⟩))) (fun pre p post wr hps hb hmiss hp n tv htv hn => (ran_of (T' := (.need (IsPO (pmOb PG pre (some (p.base, (3 : Nat))) post) PG pre (some (p.base, (3 : Nat))) post) (.need (ofPg a = p.base ∧ ∀ (p : PgA), p ∈ pre → p.base ≠ ofPg a) (.need (true = true) (.leaf ((.e (.c (.i 0))), ⟨[(0, (.cells 105 [(.c (.i most)), (.c (.i ((↑n : Int)))), (.c (.obj 1)), (.c (.obj 2)), (.c (.raw tv))])), (1, (.ob (pmOb 174 pre (.some (p.base, 3)) post))), (2, (.ob (wmOb wl))), (3, (.cells 174 [(.bs p.b 256), (.c (.i (iBits (fun x y => x &&& y) (iBits (fun x y => x ||| y) p.perm perm) 7))), (.c (.i wr))]))], 4⟩)))))) (by kernel_rfl) (⟨.inl rfl, ⟨hb.symm, hmiss⟩, rfl, by rw [show mapR most ps a = 0 by simp only [mapR, hp]], .inr ⟨n, pre, { p with perm := and7 (or3 p.perm perm) }, post, wr, tv, htv, by simp only [mapA, hp]; rw [hps]; exact setPg_at hb hmiss, by rw [hn]; simp only [mapA, hp]; rw [hps, setPg_at hb hmiss]; simp, rfl, rfl, rfl, rfl⟩⟩)))
noncomputable def S4 : Sp := spOf (P := Try.prog) [⟨_, _, zpage⟩] [] [q_of, q_byte, q_perm, q_load, q_page, q_wtch] [m_setperm, m_add, m_pnew, m_setbyte] (some (mapX mapTy atm)) (some (mapY mapTy atm 174))
end Go.Proofs.Ytchoogeojpllfaa
