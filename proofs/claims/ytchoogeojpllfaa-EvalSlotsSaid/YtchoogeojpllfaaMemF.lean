/- A part of the walk or of the law. -/
import Derived.Test.YtchoogeojpllfaaMemE
import Derived.Test.YtchoogeojpllfaaSx5
set_option linter.unusedVariables false
set_option linter.unusedSimpArgs false
namespace Go.Proofs.Ytchoogeojpllfaa
open Go.Sx
/-- What reads a memory at a place: told of its own blocks, or of it as one. -/
def a_rd (spec : List PgA → List (BitVec 32) → BitVec 32 → C) : List E → HP → R V
  | [.c (.ptr k 0 0), .c (.w a)], hp => (match Sx.look hp k with
    | some (.ob o) => (match o.d with
      | .mem most ps wl _ => .need (IsMem MT PG o most ps wl) (.ok (.e (.c (spec ps wl a))))
      | _ => .fail)
    | some (.cells T [.c (.i most), .c (.i n), .c (.obj 1), .c (.obj 2), .c (.raw tv)]) => if T = MT ∧ k = 0 then (match Sx.look hp 1, Sx.look hp 2 with
      | some (.ob o), some (.ob o2) => (match o.d, o2.d with
        | .pm T2 ps none [], .wm wl => .need (T2 = PG ∧ IsPO o PG ps none [] ∧ IsWO o2 wl ∧ n = ps.length ∧ tv.oneCell' = true) (.ok (.e (.c (spec ps wl a))))
        | _, _ => .fail)
      | _, _ => .fail) else .fail
    | _ => .fail)
  | _, _ => .fail
theorem a_rd_ok {spec : List PgA → List (BitVec 32) → BitVec 32 → C} {f : FuncId} (hen : Enters Try.prog f) (H : ∀ most ps wl a, MemReads Try.prog MT PG f [.c (.w a)] most ps wl (.e (.c (spec ps wl a)))) (hkb : ∀ ps wl a, (spec ps wl a).kb 0 = true) (args : List E) (hp : HP) (Q : V → Prop) (h : (a_rd spec args hp).sat Q) :
    Enters Try.prog f ∧ ∃ v, Q v ∧ ∀ ρ φ w, Rep ρ φ hp w → Calls Try.prog f (args.map (E.den ρ)).toArray w fun e w' => e = .returned (v.den ρ) ∧ RowKit.Below w.heap.size w w' := by
  unfold a_rd at h
  split at h
  · rename_i k a
    split at h
    · rename_i o hk
      split at h
      · rename_i most ps wl tl hd
        exact ⟨hen, _, h.2, fun ρ φ w hR => (H most ps wl a).client (h := ⟨hp, 0⟩) rfl (hkb ps wl a) hk h.1 hR⟩
      · exact h.elim
    · rename_i T most n tv hk
      split at h
      · rename_i hT
        obtain ⟨rfl, rfl⟩ := hT
        split at h
        · rename_i o o2 h1 h2
          split at h
          · rename_i T2 ps wl hd hd2
            obtain ⟨⟨rfl, ho, ho2, rfl, htv⟩, hq⟩ := h
            exact ⟨hen, _, hq, fun ρ φ w hR => H most ps wl a tv ρ φ w htv (unpin hR hk h1 ho h2 ho2)⟩
          · exact h.elim
        · exact h.elim
      · exact h.elim
    · exact h.elim
  · exact h.elim
noncomputable def q_peekM : QE Try.prog := ⟨68, a_rd fun ps _ a => .b (peekA ps a), a_rd_ok (enters Try.func68 (by kernel_rfl) (by kernel_rfl)) peek_reads fun _ _ _ => rfl⟩
noncomputable def q_permM : QE Try.prog := ⟨78, a_rd fun ps _ a => .i (permA ps a), a_rd_ok (enters Try.func78 (by kernel_rfl) (by kernel_rfl)) perm_reads fun _ _ _ => rfl⟩
noncomputable def q_mapdM : QE Try.prog := ⟨77, a_rd fun ps _ a => .bool (mapdA ps a), a_rd_ok (enters Try.func77 (by kernel_rfl) (by kernel_rfl)) mapd_reads fun _ _ _ => rfl⟩
noncomputable def S6 : Sp := spOf (P := Try.prog) [⟨_, _, zpage⟩] [] [q_of, q_peekM, q_permM, q_mapdM] [] (some (mapX mapTy atm)) (some (mapY mapTy atm 174))
theorem S6_ok : SpOk Try.prog S6 := spOf_ok _ _ _ _ _ _
def wordA (ps : List PgA) (a : BitVec 32) : BitVec 32 :=
  (((0#32 ||| (peekA ps (a + 0#32)).setWidth 32) <<< 8 ||| (peekA ps (a + 1#32)).setWidth 32) <<< 8 ||| (peekA ps (a + 2#32)).setWidth 32) <<< 8 ||| (peekA ps (a + 3#32)).setWidth 32
theorem word_reads (most : Int) (ps : List PgA) (wl : List (BitVec 32)) (a : BitVec 32) : MemReads Try.prog MT PG 29 [.c (.w a)] most ps wl (.e (.c (.w (wordA ps a)))) := by
  exact mem_reads0 (Sp.un_ok S6_ok 5) hmo Try.func29 (by kernel_rfl) rfl rfl (Nat.le_of_ble_eq_true (by kernel_rfl)) [1, 1, 1, 1, 2] (fun tv W G htv => (ran_of (T' := (.need (true = true) (.need (PG = PG ∧ IsPO (pin (pmOb PG ps none []) W (G (1 : Nat))) PG ps none [] ∧ IsWO (pin (wmOb wl) W (G (2 : Nat))) wl ∧ (↑ps.length : Int) = (↑ps.length : Int) ∧ tv.oneCell' = true) (.need (true = true) (.need (PG = PG ∧ IsPO (pin (pmOb PG ps none []) W (G (1 : Nat))) PG ps none [] ∧ IsWO (pin (wmOb wl) W (G (2 : Nat))) wl ∧ (↑ps.length : Int) = (↑ps.length : Int) ∧ tv.oneCell' = true) (.need (true = true) (.need (PG = PG ∧ IsPO (pin (pmOb PG ps none []) W (G (1 : Nat))) PG ps none [] ∧ IsWO (pin (wmOb wl) W (G (2 : Nat))) wl ∧ (↑ps.length : Int) = (↑ps.length : Int) ∧ tv.oneCell' = true) (.need (true = true) (.need (PG = PG ∧ IsPO (pin (pmOb PG ps none []) W (G (1 : Nat))) PG ps none [] ∧ IsWO (pin (wmOb wl) W (G (2 : Nat))) wl ∧ (↑ps.length : Int) = (↑ps.length : Int) ∧ tv.oneCell' = true) (.need (false = false) (.leaf ((.e (.c (.w ((((0#32 ||| BitVec.setWidth 32 (peekA ps (a + 0#32))) <<< 8 ||| BitVec.setWidth 32 (peekA ps (a + 1#32))) <<< 8 ||| BitVec.setWidth 32 (peekA ps (a + 2#32))) <<< 8 ||| BitVec.setWidth 32 (peekA ps (a + 3#32)))))), ⟨[(0, (.cells 105 [(.c (.i most)), (.c (.i ((↑ps.length : Int)))), (.c (.obj 1)), (.c (.obj 2)), (.c (.raw tv))])), (1, (.ob (pin (pmOb 174 ps .none []) W (G 1)))), (2, (.ob (pin (wmOb wl) W (G 2))))], 3⟩)))))))))))) (by kernel_rfl) (⟨rfl, ⟨rfl, .inr ⟨W, G 1, rfl⟩, .inr ⟨W, G 2, rfl⟩, rfl, htv⟩, rfl, ⟨rfl, .inr ⟨W, G 1, rfl⟩, .inr ⟨W, G 2, rfl⟩, rfl, htv⟩, rfl, ⟨rfl, .inr ⟨W, G 1, rfl⟩, .inr ⟨W, G 2, rfl⟩, rfl, htv⟩, rfl, ⟨rfl, .inr ⟨W, G 1, rfl⟩, .inr ⟨W, G 2, rfl⟩, rfl, htv⟩, rfl, by (unfold wordA; rfl)⟩)))
def watchA (ps : List PgA) (wl : List (BitVec 32)) (a : BitVec 32) (on : Bool) : List (BitVec 32) := bif mapdA ps a then (bif on then (if wl.contains (ofPg a) then wl else wl ++ [ofPg a]) else wl.erase (ofPg a)) else wl
theorem watch_does (most : Int) (ps : List PgA) (wl : List (BitVec 32)) (a : BitVec 32) (on : Bool) : MemDoes Try.prog MT PG 33 [.c (.w a), .c (.bool on)] most ps wl (.tup []) most ps (watchA ps wl a on) := by
  exact mem_turns0 S6_ok hmo Try.func33 (by kernel_rfl) rfl rfl (Nat.le_of_ble_eq_true (by kernel_rfl)) [0, 0] (fun tv htv => (ran_of (T' := (.need (PG = PG ∧ IsPO (pmOb PG ps none []) PG ps none [] ∧ IsWO (wmOb wl) wl ∧ (↑ps.length : Int) = (↑ps.length : Int) ∧ tv.oneCell' = true) (.br (!mapdA ps a) (.leaf ((.tup []), ⟨[(0, (.cells 105 [(.c (.i most)), (.c (.i ((↑ps.length : Int)))), (.c (.obj 1)), (.c (.obj 2)), (.c (.raw tv))])), (1, (.ob (pmOb 174 ps .none []))), (2, (.ob (wmOb wl)))], 3⟩)) (.br on (.need (wmOb wl = wmOb wl) (.need (true = true) (.leaf ((.tup []), ⟨[(2, (.ob (wmOb (if wl.contains (ofPg a) = true then wl else wl ++ [ofPg a])))), (0, (.cells 105 [(.c (.i most)), (.c (.i ((↑ps.length : Int)))), (.c (.obj 1)), (.c (.obj 2)), (.c (.raw tv))])), (1, (.ob (pmOb 174 ps .none [])))], 3⟩)))) (.need (wmOb wl = wmOb wl) (.leaf ((.tup []), ⟨[(2, (.ob (wmOb (wl.erase (ofPg a))))), (0, (.cells 105 [(.c (.i most)), (.c (.i ((↑ps.length : Int)))), (.c (.obj 1)), (.c (.obj 2)), (.c (.raw tv))])), (1, (.ob (pmOb 174 ps .none [])))], 3⟩))))))) (by kernel_rfl) (⟨⟨rfl, .inl rfl, .inl rfl, rfl, htv⟩, fun hc => ⟨rfl, tv, htv, rfl, rfl, by rw [show watchA ps wl a on = wl by simp [watchA, show mapdA ps a = false by simpa using hc]]; rfl⟩, fun hc => ⟨fun hon => ⟨rfl, rfl, rfl, tv, htv, rfl, rfl, by rw [show watchA ps wl a on = (if wl.contains (ofPg a) then wl else wl ++ [ofPg a]) by simp [watchA, hon, show mapdA ps a = true by simpa using hc]]; rfl⟩, fun hoff => ⟨rfl, rfl, tv, htv, rfl, rfl, by rw [show watchA ps wl a on = wl.erase (ofPg a) by simp [watchA, hoff, show mapdA ps a = true by simpa using hc]]; rfl⟩⟩⟩)))
end Go.Proofs.Ytchoogeojpllfaa
