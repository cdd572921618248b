/- A part of the walk or of the law. -/
import Derived.Test.YtchoogeojpllfaaMemF
set_option linter.unusedVariables false
set_option linter.unusedSimpArgs false
namespace Go.Proofs.Ytchoogeojpllfaa
open Go.Sx
def As.rot (ρ : As) : As := ⟨fun j => match j with | 0 => ρ.r 2 | 1 => ρ.r 0 | _ => ρ.r 1, fun j => match j with | 0 => ρ.v 2 | 1 => ρ.v 0 | _ => ρ.v 1, fun j => match j with | 0 => ρ.one 2 | 1 => ρ.one 0 | _ + 2 => ρ.one 1⟩
theorem fold_new {ρ : As} {φ : Nat → Nat → Prop} {hp : HP} {w : World} {most : Int} {tv : Value} (hR : Rep ρ φ hp w) (h2 : Sx.look hp 2 = some (.cells MT [.c (.i most), .c (.i 0), .c (.obj 0), .c (.obj 1), .c (.raw tv)])) (h0 : Sx.look hp 0 = some (.ob (pmOb PG [] none []))) (h1 : Sx.look hp 1 = some (.ob (wmOb []))) (htv : tv.oneCell' = true) :
    ∃ F, (Blk.ob (memOb MT PG most [] [])).holds (ρ.at1 2) w 0 F ∧ ∀ x, F x → ∃ k b, Sx.look hp k = some b ∧ φ k x := by
  refine ⟨Foot (fun j => match j with | 0 => φ 2 | 1 => φ 0 | _ => φ 1) 3, ⟨tv, As.rot ρ, fun j => match j with | 0 => φ 2 | 1 => φ 0 | _ => φ 1, htv, rfl, ⟨?_, ?_, ?_⟩, fun x => Iff.rfl⟩, ?_⟩
  · intro k b hk
    have := memHp_lt hk
    match k, this with
    | 0, _ => cases hk; exact hR.ok 2 _ h2
    | 1, _ => cases hk; exact hR.ok 0 _ h0
    | 2, _ => cases hk; exact hR.ok 1 _ h1
  · intro k b hk x hx
    have := memHp_lt hk
    match k, this with
    | 0, _ => exact hR.lt 2 _ h2 x hx
    | 1, _ => exact hR.lt 0 _ h0 x hx
    | 2, _ => exact hR.lt 1 _ h1 x hx
  · intro k j b b' hk hj hne x hx hx'
    have h1' := memHp_lt hk
    have h2' := memHp_lt hj
    match k, h1', j, h2' with
    | 0, _, 0, _ => exact hne rfl
    | 0, _, 1, _ => exact hR.dis 2 0 _ _ h2 h0 (by omega) x hx hx'
    | 0, _, 2, _ => exact hR.dis 2 1 _ _ h2 h1 (by omega) x hx hx'
    | 1, _, 0, _ => exact hR.dis 0 2 _ _ h0 h2 (by omega) x hx hx'
    | 1, _, 1, _ => exact hne rfl
    | 1, _, 2, _ => exact hR.dis 0 1 _ _ h0 h1 (by omega) x hx hx'
    | 2, _, 0, _ => exact hR.dis 1 2 _ _ h1 h2 (by omega) x hx hx'
    | 2, _, 1, _ => exact hR.dis 1 0 _ _ h1 h0 (by omega) x hx hx'
    | 2, _, 2, _ => exact hne rfl
  · rintro x ⟨j, hj, hx⟩
    match j, hj with
    | 0, _ => exact ⟨2, _, h2, hx⟩
    | 1, _ => exact ⟨0, _, h0, hx⟩
    | 2, _ => exact ⟨1, _, h1, hx⟩
theorem zmem : Z1 Try.prog MT [.c (.i 0), .c (.i 0), .c (.raw (.map none)), .c (.raw (.map none)), .c (.raw (.slice none 0 0))] := z1_of (by kernel_rfl) (by kernel_rfl) rfl
noncomputable def S7 : Sp := spOf (P := Try.prog) [⟨_, _, zpage⟩, ⟨_, _, zmem⟩] [] [q_of, q_peekM, q_permM, q_mapdM] [] (some (mapX mapTy atm)) (some (mapY mapTy atm 174))
theorem S7_ok : SpOk Try.prog S7 := spOf_ok _ _ _ _ _ _
def mostA (x : Int) : Int := max 0 (min x 64)
theorem new_made (x : Int) {ρ : As} {φ : Nat → Nat → Prop} {h : H} {w : World} (hR : Rep ρ φ h.hp w) (hkb : hpkb h.hp h.nk = true) : Calls Try.prog 30 ([E.c (.i x)].map (E.den ρ)).toArray w fun e w' => ∃ ρ' φ', e = .returned ((V.e (.c (.ptr h.nk 0 0))).den ρ') ∧ Rep ρ' φ' ((h.nk, .ob (memOb MT PG (mostA x) [] [])) :: h.hp) w' ∧ Evo ρ φ h w ρ' φ' ⟨(h.nk, .ob (memOb MT PG (mostA x) [] [])) :: h.hp, h.nk + 1⟩ w' := by
  exact mem_made S7_ok hmo Try.func30 (by kernel_rfl) (args := [.c (.i x)]) rfl (Nat.le_of_ble_eq_true (by kernel_rfl)) [] 2 0 1 (ran_of (T' := (.leaf ((.e (.c (.ptr 2 0 0))), ⟨[(2, (.cells 105 [(.c (.i (max 0 (min x 64)))), (.c (.i 0)), (.c (.obj 0)), (.c (.obj 1)), (.c (.raw (.slice .none 0 0)))])), (1, (.ob (wmOb []))), (0, (.ob (pmOb 174 [] .none [])))], 3⟩))) (by kernel_rfl) (⟨rfl, _, rfl, fun ρ φ w hR => fold_new hR rfl rfl rfl rfl⟩)) hR hkb
/-! ### A memory, told as one -/
def a_newM : List E → H → R (V × H)
  | [.c (.i x)], h => .ok (.e (.c (.ptr h.nk 0 0)), ⟨(h.nk, .ob (memOb MT PG (mostA x) [] [])) :: h.hp, h.nk + 1⟩)
  | _, _ => .fail
noncomputable def m_newM : ME Try.prog := ⟨30, a_newM, fun args h Q hh => by
  unfold a_newM at hh
  split at hh
  · rename_i x
    exact ⟨enters Try.func30 (by kernel_rfl) (by kernel_rfl), _, _, hh, fun ρ φ w hR hkb => new_made x hR hkb⟩
  · exact hh.elim⟩
def memNow (h : H) (k : Nat) (most : Int) (ps : List PgA) (wl : List (BitVec 32)) : H := ⟨sett h.hp k (.ob (memOb MT PG most ps wl)), h.nk⟩
def a_mapM : List E → H → R (V × H)
  | [.c (.ptr k 0 0), .c (.w a), .c (.i perm)], h => (match Sx.look h.hp k with
    | some (.ob o) => (match o.d with
      | .mem most ps wl _ => .need (IsMem MT PG o most ps wl ∧ most ≤ 64) (.ok (.e (.c (.i (mapR most ps a))), memNow h k most (mapA most ps a perm) wl))
      | _ => .fail)
    | _ => .fail)
  | _, _ => .fail
noncomputable def m_mapM : ME Try.prog := ⟨31, a_mapM, fun args h Q hh => by
  unfold a_mapM at hh
  split at hh
  · rename_i k a perm
    split at hh
    · rename_i o hk
      split at hh
      · rename_i most ps wl tl hd
        exact ⟨enters Try.func31 (by kernel_rfl) (by kernel_rfl), _, _, hh.2, fun ρ φ w hR hkb => (map_does most hh.1.2 ps wl a perm).client rfl rfl hk hh.1.1 hR⟩
      · exact hh.elim
    · exact hh.elim
  · exact hh.elim⟩
def a_pokeM : List E → H → R (V × H)
  | [.c (.ptr k 0 0), .c (.w a), .c (.b v)], h => (match Sx.look h.hp k with
    | some (.ob o) => (match o.d with
      | .mem most ps wl _ => .need (IsMem MT PG o most ps wl ∧ wl.contains (ofPg a) = false) (.ok (.e (.c (.bool (mapdA ps a))), memNow h k most (pokeA ps a v) wl))
      | _ => .fail)
    | _ => .fail)
  | _, _ => .fail
noncomputable def m_pokeM : ME Try.prog := ⟨32, a_pokeM, fun args h Q hh => by
  unfold a_pokeM at hh
  split at hh
  · rename_i k a v
    split at hh
    · rename_i o hk
      split at hh
      · rename_i most ps wl tl hd
        exact ⟨enters Try.func32 (by kernel_rfl) (by kernel_rfl), _, _, hh.2, fun ρ φ w hR hkb => (poke_does most ps wl a v hh.1.2).client rfl rfl hk hh.1.1 hR⟩
      · exact hh.elim
    · exact hh.elim
  · exact hh.elim⟩
def a_watchM : List E → H → R (V × H)
  | [.c (.ptr k 0 0), .c (.w a), .c (.bool on)], h => (match Sx.look h.hp k with
    | some (.ob o) => (match o.d with
      | .mem most ps wl _ => .need (IsMem MT PG o most ps wl) (.ok (.tup [], memNow h k most ps (watchA ps wl a on)))
      | _ => .fail)
    | _ => .fail)
  | _, _ => .fail
noncomputable def m_watchM : ME Try.prog := ⟨33, a_watchM, fun args h Q hh => by
  unfold a_watchM at hh
  split at hh
  · rename_i k a on
    split at hh
    · rename_i o hk
      split at hh
      · rename_i most ps wl tl hd
        exact ⟨enters Try.func33 (by kernel_rfl) (by kernel_rfl), _, _, hh.2, fun ρ φ w hR hkb => (watch_does most ps wl a on).client rfl rfl hk hh.1 hR⟩
      · exact hh.elim
    · exact hh.elim
  · exact hh.elim⟩
noncomputable def q_wordM : QE Try.prog := ⟨29, a_rd fun ps _ a => .w (wordA ps a), a_rd_ok (enters Try.func29 (by kernel_rfl) (by kernel_rfl)) word_reads fun _ _ _ => rfl⟩
end Go.Proofs.Ytchoogeojpllfaa
