/- The executor, part 5. -/
import Derived.Test.YtchoogeojpllfaaSx4
import Derived.ChangeKeysEq
import Derived.ArgAppend
import Derived.Maps.AppendAt
import Derived.Laws.CopyRow
set_option linter.unusedVariables false
set_option linter.unusedSimpArgs false
namespace Go.Sx
universe u v

theorem z1_of {P : Program} {t : TypeId} {l : List Sg} (h : ((P.info? t).bind (·.zero)).map (·.cells.toList) = some (cellsOf As0 l)) (hs : (P.info? t).map (·.size) = some (lenOf l)) (hk : l.all (Sg.kb 0) = true) : Z1 P t l := by
  cases hi : P.info? t with
  | none => rw [hi] at hs; cases hs
  | some i =>
    rw [hi] at h hs
    cases hz : i.zero with
    | none => simp [hz] at h
    | some z =>
      simp only [Option.bind_some, hz, Option.map_some, Option.some.injEq] at h hs
      exact ⟨i, z, hi, hz, hs, fun ρ => by rw [h]; exact (cellsOf_agr (n := 0) (ρ := As0) (ρ' := ρ) hk fun j hj => by omega).symm⟩

section
variable {P : Program} {S : Sp} {ρ : As} {φ : Nat → Nat → Prop} {h : H} {w : World}
/-- A call that turns one block, told by its key. -/
theorem key_turn {f : FuncId} {k n : Nat} {t : TypeId} {l l' : List Sg} {args : List E} {v : V} (hS : SpOk P S) (hm : P.follows .mixedOrders = true) {fn : Func} (hf : P.funcs[f]? = some fn) (hb : fn.body.isSome = true) (hkn : k < n) (hl : l.all (Sg.kb n) = true) (hl' : l'.all (Sg.kb n) = true) (ha : args.all (E.kb n) = true) (hv : v.kb n = true)
    (hN : args.length ≤ fn.ntmps) (os : List Nat)
    (hx : Ran P fn.ntmps n (fexec P S fn (bodyOf fn) args ⟨[(k, .cells t l)], n⟩ fun v h => (v, h)) os fun r => r.1 = v ∧ look r.2.hp k = some (.cells t l'))
    (hR : Rep ρ φ h.hp w) (hk : look h.hp k = some (.cells t l)) : Calls P f (args.map (E.den ρ)).toArray w fun e w' => ∃ ρ' φ', e = .returned (v.den ρ') ∧ Rep ρ' φ' (sett h.hp k (.cells t l')) w' ∧ Evo ρ φ h w ρ' φ' ⟨sett h.hp k (.cells t l'), h.nk⟩ w' := by
  have hL : Rep ρ φ [(k, .cells t l)] w := hR.sub fun j b hj => by
    simp only [look] at hj
    split at hj
    · rename_i e; subst e; cases hj; exact hk
    · cases hj
  have := calls_of_exec (h0 := ⟨[(k, .cells t l)], n⟩) hS hm hf (body_eq hb) (by
      simp only [hpkb, List.all_cons, List.all_nil, Bool.and_true, Bool.and_eq_true, decide_eq_true_eq]
      exact ⟨hkn, hl⟩) ha hN (fun v h => (v, h)) (prune_sat _ _ hx.sat) hL
  refine this.mono fun e w' hp => ?_
  obtain ⟨v', h', ρ', φ', rfl, ⟨rfl, hlk⟩, hR', hE⟩ := hp
  have h3 : ρ'.r k = ρ.r k := (hE.agr k hkn).1
  have h1 := hR'.cells hlk
  rw [h3, cellsOf_agr hl' hE.agr] at h1
  have hFk := (hR.ok k _ hk).2
  have := hR.turnF (w' := w') (b1 := .cells t l') (F := fun x => x = ρ.r k) hk ⟨h1, fun x => Iff.rfl⟩ (fun x hx => .inl ((hFk x).2 hx)) (fun x hx => by
      subst hx
      exact (Array.getElem?_eq_some_iff.1 h1).1) (fun x hx hno => hE.fr x hx fun j b hj hφ => by
        simp only [look] at hj
        split at hj
        · rename_i e; subst e; exact hno hφ
        · cases hj) hE.os hE.tape hE.output hE.size
  exact ⟨ρ, _, by rw [V.den_agr hv hE.agr], this.1, this.2⟩

/-- A call that makes one block. -/
theorem fresh_call {f : FuncId} {t : TypeId} {l : List Sg} {args : List E} (mk : Nat → C) (hmk : ∀ (ρ ρ' : As) k, ρ.r 0 = ρ'.r k → (mk 0).den ρ = (mk k).den ρ') (hS : SpOk P S) (hm : P.follows .mixedOrders = true) {fn : Func} (hf : P.funcs[f]? = some fn) (hb : fn.body.isSome = true) (hl : l.all (Sg.kb 0) = true) (ha : args.all (E.kb 0) = true)
    (hN : args.length ≤ fn.ntmps) (os : List Nat)
    (hx : Ran P fn.ntmps 0 (fexec P S fn (bodyOf fn) args ⟨[], 0⟩ fun v h => (v, h)) os fun r => r.1 = .e (.c (mk 0)) ∧ look r.2.hp 0 = some (.cells t l))
    (hR : Rep ρ φ h.hp w) (hkb : hpkb h.hp h.nk = true) : Calls P f (args.map (E.den ρ)).toArray w fun e w' => ∃ ρ' φ', e = .returned ((V.e (.c (mk h.nk))).den ρ') ∧ Rep ρ' φ' ((h.nk, .cells t l) :: h.hp) w' ∧ Evo ρ φ h w ρ' φ' ⟨(h.nk, .cells t l) :: h.hp, h.nk + 1⟩ w' := by
  have hL : Rep ρ (fun _ _ => False) [] w := ⟨fun k b hk => (by cases hk), fun k b hk => (by cases hk), fun k k' b b' hk => (by cases hk)⟩
  refine (calls_of_exec (h0 := ⟨[], 0⟩) hS hm hf (body_eq hb) rfl ha hN (fun v h => (v, h)) (prune_sat _ _ hx.sat) hL).mono fun e w' hp => ?_
  obtain ⟨v', h', ρ', φ', rfl, ⟨rfl, hlk⟩, hR', hE⟩ := hp
  have hB : RowKit.Below w.heap.size w w' := ⟨hE.os, hE.tape, hE.output, hE.size, fun x hx => hE.fr x hx fun k b hk => by cases hk⟩
  have h1 := hR'.cells hlk
  have hone : (Value.bool false).oneCell' = true := rfl
  have hc : cellsOf (ρ.newV h.nk (ρ'.r 0) (.bool false) hone) l = cellsOf ρ' l := cellsOf_agr (n := 0) hl fun j hj => by omega
  have hg : (ρ.newV h.nk (ρ'.r 0) (.bool false) hone).r h.nk = ρ'.r 0 := by simp [As.newV]
  have := hR.addF hkb (g := ρ'.r 0) (v := .bool false) hone (b1 := .cells t l) (F := fun x => x = ρ'.r 0) (w' := w') ⟨by
      rw [hc, hg]; exact h1, fun x => by simp [As.newV]⟩ (fun x hx => by
      subst hx
      refine ⟨Nat.le_of_not_lt fun hlt => ?_, (Array.getElem?_eq_some_iff.1 h1).1⟩
      obtain ⟨_, _, hno, _⟩ := hE.own 0 _ hlk _ (((hR'.ok 0 _ hlk).2 _).2 rfl) hlt
      cases hno) hB
  exact ⟨_, _, by simp only [V.den, E.den]; exact congrArg _ (hmk _ _ _ (by simp [As.newV])), this.1, this.2⟩
end

theorem sat_of {α : Type u} {L : Code → St → (Ex → St → Prop) → Prop} {Q : α → Prop} {T T' : Tr α} (h : T = T') (h' : T'.sat L Q) : T.sat L Q := by rw [h]; exact h'

/-! ### Calls that turn a memory -/
section
variable {P : Program} {MT PG : TypeId} {most : Int} {ps : List PgA} {wl : List (BitVec 32)}
/-- A memory from what is followed of it, its page by itself. -/
def FocIs (MT PG : TypeId) (hp : HP) (most : Int) (ps : List PgA) (wl : List (BitVec 32)) : Prop :=
  ∃ n pre p post wr tv, tv.oneCell' = true ∧ ps = pre ++ p :: post ∧ n = ps.length ∧ look hp 0 = some (.cells MT (memCells most n tv)) ∧ look hp 1 = some (.ob (pmOb PG pre (some (p.base, 3)) post)) ∧ look hp 2 = some (.ob (wmOb wl)) ∧ look hp 3 = some (.cells PG (pageCells p wr))
def AllIs (MT PG : TypeId) (hp : HP) (most : Int) (ps : List PgA) (wl : List (BitVec 32)) : Prop :=
  ∃ tv, tv.oneCell' = true ∧ look hp 0 = some (.cells MT (memCells most ps.length tv)) ∧ look hp 1 = some (.ob (pmOb PG ps none [])) ∧ look hp 2 = some (.ob (wmOb wl))

theorem mem_turns {S : Sp} {f : FuncId} {rest : List E} {v : V} {most' : Int} {ps' : List PgA} {wl' : List (BitVec 32)} (hS : SpOk P S) (hm : P.follows .mixedOrders = true) {fn : Func} (hf : P.funcs[f]? = some fn) (hb : fn.body.isSome = true) (hr : rest.all (E.kb 0) = true) (hv : v.kb 0 = true) (hN : rest.length + 1 ≤ fn.ntmps) (x : BitVec 32) (os os' : List Nat)
    (hno : pageAt ps x = none → ∀ tv, tv.oneCell' = true → Ran P fn.ntmps 3 (fexec P S fn (bodyOf fn) (.c (.ptr 0 0 0) :: rest) ⟨memHp MT PG most ps wl tv, 3⟩ fun v h => (v, h)) os fun r => r.1 = v ∧ (AllIs MT PG r.2.hp most' ps' wl' ∨ FocIs MT PG r.2.hp most' ps' wl'))
    (hyes : ∀ pre p post wr, ps = pre ++ p :: post → p.base = x → (∀ q ∈ pre, q.base ≠ x) → pageAt ps x = some p → ∀ n tv, tv.oneCell' = true → n = ps.length → Ran P fn.ntmps 4 (fexec P S fn (bodyOf fn) (.c (.ptr 0 0 0) :: rest) ⟨focHp MT PG most n pre p wr post wl tv, 4⟩ fun v h => (v, h)) os' fun r => r.1 = v ∧ (AllIs MT PG r.2.hp most' ps' wl' ∨ FocIs MT PG r.2.hp most' ps' wl')) :
    MemDoes P MT PG f rest most ps wl v most' ps' wl' := by
  intro tv ρ φ w htv hR
  have done : ∀ (lh : HP) (n : Nat) (ρ1 : As) (φ1 : Nat → Nat → Prop) (h' : H) (ρ' : As) (φ' : Nat → Nat → Prop) (w' : World), (∀ k b, look lh k = some b → k < n) → 0 < n → ρ1.r 0 = ρ.r 0 → (∀ x, Foot φ1 n x ↔ Foot φ 3 x) → (∀ k, k < n → ∃ b, look lh k = some b) → (AllIs MT PG h'.hp most' ps' wl' ∨ FocIs MT PG h'.hp most' ps' wl') → Rep ρ' φ' h'.hp w' → Evo ρ1 φ1 ⟨lh, n⟩ w ρ' φ' h' w' →
      ∃ ρ' φ' tv', (Ending.returned (v.den ρ) = Ending.returned (v.den ρ)) ∧ tv'.oneCell' = true ∧ ρ'.r 0 = ρ.r 0 ∧ Rep ρ' φ' (memHp MT PG most' ps' wl' tv') w' ∧ (∀ x, Foot φ' 3 x → Foot φ 3 x ∨ w.heap.size ≤ x) ∧ (∀ x, x < w.heap.size → ¬ Foot φ 3 x → w'.heap[x]? = w.heap[x]?) ∧ w'.os = w.os ∧ w'.tape = w.tape ∧ w'.output = w.output ∧ w.heap.size ≤ w'.heap.size := by
    intro lh n ρ1 φ1 h' ρ' φ' w' hlt hn h0 hft hall hres hR' hE
    have e0 : ρ'.r 0 = ρ.r 0 := (hE.agr 0 hn).1.trans h0
    have hfr : ∀ x, x < w.heap.size → ¬ Foot φ 3 x → w'.heap[x]? = w.heap[x]? := fun x hx hno => hE.fr x hx fun k b hk hφ => hno ((hft x).1 ⟨k, hlt k b hk, hφ⟩)
    have hown : ∀ k b, look h'.hp k = some b → ∀ x, φ' k x → Foot φ 3 x ∨ w.heap.size ≤ x := fun k b hk x hx => by
      rcases Nat.lt_or_ge x w.heap.size with h1 | h1
      · obtain ⟨k0, b0, h2, h3⟩ := hE.own k b hk x hx h1
        exact .inl ((hft x).1 ⟨k0, hlt _ _ h2, h3⟩)
      · exact .inr h1
    rcases hres with ⟨tv', h1, h2, h3, h4⟩ | ⟨n', pre, p, post, wr, tv', h1, rfl, h3, h4, h5, h6, h7⟩
    · refine ⟨ρ', φ', tv', rfl, h1, e0, hR'.sub fun k b hk => ?_, fun x hx => ?_, hfr, hE.os, hE.tape, hE.output, hE.size⟩
      · have := memHp_lt hk
        match k, this with
        | 0, _ => cases hk; exact h2
        | 1, _ => cases hk; exact h3
        | 2, _ => cases hk; exact h4
      · obtain ⟨j, hj, hx⟩ := hx
        match j, hj with
        | 0, _ => exact hown 0 _ h2 x hx
        | 1, _ => exact hown 1 _ h3 x hx
        | 2, _ => exact hown 2 _ h4 x hx
    · obtain ⟨φ2, hR2, hf2⟩ := unfocus hR' h4 h5 h6 h7 h3
      refine ⟨ρ', φ2, tv', rfl, h1, e0, hR2, fun x hx => ?_, hfr, hE.os, hE.tape, hE.output, hE.size⟩
      obtain ⟨j, hj, hx⟩ := (hf2 x).1 hx
      match j, hj with
      | 0, _ => exact hown 0 _ h4 x hx
      | 1, _ => exact hown 1 _ h5 x hx
      | 2, _ => exact hown 2 _ h6 x hx
      | 3, _ => exact hown 3 _ h7 x hx
  have hden : ∀ ρ' : As, v.den ρ' = v.den ρ := fun ρ' => V.den_agr (n := 0) hv fun j hj => by omega
  cases hp : pageAt ps x with
  | none =>
    refine (calls_of_exec (h0 := ⟨memHp MT PG most ps wl tv, 3⟩) (args := .c (.ptr 0 0 0) :: rest) hS hm hf (body_eq hb) rfl (by
        simp only [List.all_cons, Bool.and_eq_true]
        exact ⟨rfl, List.all_eq_true.2 fun e he => E.kb_mono (Nat.zero_le _) (List.all_eq_true.1 hr e he)⟩) (by simpa using hN) (fun v h => (v, h)) (prune_sat _ _ (hno hp tv htv).sat) hR).mono fun e w' hq => ?_
    obtain ⟨v', h', ρ', φ', rfl, ⟨rfl, hres⟩, hR', hE⟩ := hq
    rw [hden]
    exact done _ 3 ρ φ h' ρ' φ' w' (fun k b hk => memHp_lt hk) (by omega) rfl (fun x => Iff.rfl) (fun k hk => memHp_some hk) hres hR' hE
  | some p =>
    obtain ⟨pre, post, hps, hb2, hpre⟩ := pageAt_some hp
    subst hps
    obtain ⟨wr, ρ1, φ1, hF, h0, hft⟩ := focus hR
    have hd : (E.c (.ptr 0 0 0) :: rest).map (E.den ρ) = (E.c (.ptr 0 0 0) :: rest).map (E.den ρ1) := by
      rw [den_mem (ρ := ρ1) (ρ2 := ρ) (k := 0) hr h0.symm]
    rw [hd]
    refine (calls_of_exec (h0 := ⟨focHp MT PG most (pre ++ p :: post).length pre p wr post wl tv, 4⟩) (args := .c (.ptr 0 0 0) :: rest) hS hm hf (body_eq hb) rfl (by
        simp only [List.all_cons, Bool.and_eq_true]
        exact ⟨rfl, List.all_eq_true.2 fun e he => E.kb_mono (Nat.zero_le _) (List.all_eq_true.1 hr e he)⟩) (by simpa using hN) (fun v h => (v, h)) (prune_sat _ _ (hyes pre p post wr rfl hb2 hpre hp _ tv htv rfl).sat) hF).mono fun e w' hq => ?_
    obtain ⟨v', h', ρ', φ', rfl, ⟨rfl, hres⟩, hR', hE⟩ := hq
    rw [hden]
    have key : ∀ k b, look (focHp MT PG most (pre ++ p :: post).length pre p wr post wl tv) k = some b → k < 4 := fun k b hk => by
      simp only [focHp, look] at hk
      split at hk
      · omega
      · split at hk
        · omega
        · split at hk
          · omega
          · split at hk
            · omega
            · cases hk
    exact done _ 4 ρ1 φ1 h' ρ' φ' w' key (by omega) h0 hft (fun k hk => by
      match k, hk with
      | 0, _ => exact ⟨_, rfl⟩
      | 1, _ => exact ⟨_, rfl⟩
      | 2, _ => exact ⟨_, rfl⟩
      | 3, _ => exact ⟨_, rfl⟩) hres hR' hE
end
end Go.Sx
namespace Go.Sx
universe u v
section
variable {P : Program} {MT PG : TypeId} {most : Int} {ps : List PgA} {wl : List (BitVec 32)}
theorem mem_reads0 {S : Sp} {f : FuncId} {rest : List E} {v : V} (hS : SpOk P S) (hm : P.follows .mixedOrders = true) {fn : Func} (hf : P.funcs[f]? = some fn) (hb : fn.body.isSome = true) (hr : rest.all (E.kb 0) = true) (hv : v.kb 0 = true) (hN : rest.length + 1 ≤ fn.ntmps) (os : List Nat)
    (hx : ∀ tv W G, tv.oneCell' = true → Ran P fn.ntmps 3 (fexec P S fn (bodyOf fn) (.c (.ptr 0 0 0) :: rest) ⟨pinHp W G (memHp MT PG most ps wl tv), 3⟩ fun v h => (v, h)) os fun r => r = (v, ⟨pinHp W G (memHp MT PG most ps wl tv), 3⟩)) :
    MemReads P MT PG f rest most ps wl v := by
  intro tv ρ φ w htv hR
  refine quiet_call hS hm hf hb (hp := memHp MT PG most ps wl tv) (n := 3) rfl ?_ (V.kb_mono (Nat.zero_le _) hv) (by simpa using hN) os (fun W G => ?_) hR
  · simp only [List.all_cons, Bool.and_eq_true]
    exact ⟨rfl, List.all_eq_true.2 fun e he => E.kb_mono (Nat.zero_le _) (List.all_eq_true.1 hr e he)⟩
  · exact ⟨Tr.sat_mono (fun r hr => by subst hr; exact ⟨rfl, fun k b hk => hk⟩) (hx tv W G htv).sat⟩
theorem mem_turns0 {S : Sp} {f : FuncId} {rest : List E} {v : V} {most' : Int} {ps' : List PgA} {wl' : List (BitVec 32)} (hS : SpOk P S) (hm : P.follows .mixedOrders = true) {fn : Func} (hf : P.funcs[f]? = some fn) (hb : fn.body.isSome = true) (hr : rest.all (E.kb 0) = true) (hv : v.kb 0 = true) (hN : rest.length + 1 ≤ fn.ntmps) (os : List Nat)
    (hx : ∀ tv, tv.oneCell' = true → Ran P fn.ntmps 3 (fexec P S fn (bodyOf fn) (.c (.ptr 0 0 0) :: rest) ⟨memHp MT PG most ps wl tv, 3⟩ fun v h => (v, h)) os fun r => r.1 = v ∧ AllIs MT PG r.2.hp most' ps' wl') :
    MemDoes P MT PG f rest most ps wl v most' ps' wl' := by
  intro tv ρ φ w htv hR
  refine (calls_of_exec (h0 := ⟨memHp MT PG most ps wl tv, 3⟩) (args := .c (.ptr 0 0 0) :: rest) hS hm hf (body_eq hb) rfl (by
        simp only [List.all_cons, Bool.and_eq_true]
        exact ⟨rfl, List.all_eq_true.2 fun e he => E.kb_mono (Nat.zero_le _) (List.all_eq_true.1 hr e he)⟩) (by simpa using hN) (fun v h => (v, h)) (prune_sat _ _ (hx tv htv).sat) hR).mono fun e w' hq => ?_
  obtain ⟨v', h', ρ', φ', rfl, ⟨rfl, tv', h1, h2, h3, h4⟩, hR', hE⟩ := hq
  have hown : ∀ k b, look h'.hp k = some b → ∀ x, φ' k x → Foot φ 3 x ∨ w.heap.size ≤ x := fun k b hk x hx => by
    rcases Nat.lt_or_ge x w.heap.size with h1 | h1
    · obtain ⟨k0, b0, h2, h3⟩ := hE.own k b hk x hx h1
      exact .inl ⟨k0, memHp_lt h2, h3⟩
    · exact .inr h1
  refine ⟨ρ', φ', tv', congrArg Ending.returned (V.den_agr (n := 0) hv fun j hj => by omega), h1, (hE.agr 0 (by simp)).1, hR'.sub fun k b hk => ?_, fun x hx => ?_, fun x hx hno => hE.fr x hx fun k b hk hφ => hno ⟨k, memHp_lt hk, hφ⟩, hE.os, hE.tape, hE.output, hE.size⟩
  · have := memHp_lt hk
    match k, this with
    | 0, _ => cases hk; exact h2
    | 1, _ => cases hk; exact h3
    | 2, _ => cases hk; exact h4
  · obtain ⟨j, hj, hx⟩ := hx
    match j, hj with
    | 0, _ => exact hown 0 _ h2 x hx
    | 1, _ => exact hown 1 _ h3 x hx
    | 2, _ => exact hown 2 _ h4 x hx
/-- A memory that a call has made. -/
theorem mem_made {S : Sp} {f : FuncId} {args : List E} {ρ : As} {φ : Nat → Nat → Prop} {h : H} {w : World} (hS : SpOk P S) (hm : P.follows .mixedOrders = true) {fn : Func} (hf : P.funcs[f]? = some fn) (hb : fn.body.isSome = true) (ha : args.all (E.kb 0) = true) (hN : args.length ≤ fn.ntmps) (os : List Nat) (j0 j1 j2 : Nat)
    (hx : Ran P fn.ntmps 0 (fexec P S fn (bodyOf fn) args ⟨[], 0⟩ fun v h => (v, h)) os fun r => r.1 = .e (.c (.ptr j0 0 0)) ∧ ∃ b, look r.2.hp j0 = some b ∧ ∀ ρ φ w, Rep ρ φ r.2.hp w → ∃ F, (Blk.ob (memOb MT PG most ps wl)).holds (ρ.at1 j0) w 0 F ∧ ∀ x, F x → ∃ k b, look r.2.hp k = some b ∧ φ k x)
    (hR : Rep ρ φ h.hp w) (hkb : hpkb h.hp h.nk = true) : Calls P f (args.map (E.den ρ)).toArray w fun e w' => ∃ ρ' φ', e = .returned ((V.e (.c (.ptr h.nk 0 0))).den ρ') ∧ Rep ρ' φ' ((h.nk, .ob (memOb MT PG most ps wl)) :: h.hp) w' ∧ Evo ρ φ h w ρ' φ' ⟨(h.nk, .ob (memOb MT PG most ps wl)) :: h.hp, h.nk + 1⟩ w' := by
  have hL : Rep ρ (fun _ _ => False) [] w := ⟨fun k b hk => (by cases hk), fun k b hk => (by cases hk), fun k k' b b' hk => (by cases hk)⟩
  refine (calls_of_exec (h0 := ⟨[], 0⟩) hS hm hf (body_eq hb) rfl ha hN (fun v h => (v, h)) (prune_sat _ _ hx.sat) hL).mono fun e w' hp => ?_
  obtain ⟨v', h', ρ', φ', rfl, ⟨rfl, b, hlk, hall⟩, hR', hE⟩ := hp
  have hB : RowKit.Below w.heap.size w w' := ⟨hE.os, hE.tape, hE.output, hE.size, fun x hx => hE.fr x hx fun k b hk => by cases hk⟩
  obtain ⟨F, ⟨tv, ρ2, φ2, g1, g2, g3, g4⟩, hFo⟩ := hall ρ' φ' w' hR'
  have hone : (Value.bool false).oneCell' = true := rfl
  have := hR.addF hkb (g := ρ'.r j0) (v := .bool false) hone (b1 := .ob (memOb MT PG most ps wl)) (F := F) (w' := w') ⟨tv, ρ2, φ2, g1, by rw [g2]; simp [As.newV, As.at1], g3, g4⟩ (fun x hx => by
      obtain ⟨k, b, hk, hφ⟩ := hFo x hx
      refine ⟨Nat.le_of_not_lt fun hlt => ?_, hR'.lt k b hk x hφ⟩
      obtain ⟨_, _, hno, _⟩ := hE.own k b hk x hφ hlt
      cases hno) hB
  exact ⟨_, _, by simp [V.den, E.den, C.den, As.newV], this.1, this.2⟩
end
end Go.Sx
namespace Go.Sx
universe u v
/-- The usual QE, of any executor's knowledge. -/
theorem qe_of {P : Program} {S : Sp} (hS : SpOk P S) {f : FuncId} {fn : Func} (hm : P.follows .mixedOrders = true) (hf : P.funcs[f]? = some fn) (hb : fn.body.isSome = true)
    (hn : (fn.name == "runtime.NumGoroutine") = false) {args : List E} (hak : args.all (E.kb 0) = true) (hN : args.length ≤ fn.ntmps) {v : V} (hv : v.kb 0 = true) (os : List Nat)
    (h : Ran P fn.ntmps 0 (fexec P S fn (bodyOf fn) args ⟨[], 0⟩ fun v _ => v) os fun v' => v' = v) {Q : V → Prop} (hQ : Q v) {hp : HP} :
    Enters P f ∧ ∃ v, Q v ∧ ∀ ρ φ w, Rep ρ φ hp w → Calls P f (args.map (E.den ρ)).toArray w fun e w' => e = .returned (v.den ρ) ∧ RowKit.Below w.heap.size w w' :=
  ⟨⟨fn, hf, by cases hx : fn.body <;> simp_all, hn⟩, v, hQ, fun ρ _ w _ => pure_of_exec hS hm hf (body_eq hb) hak hN hv (prune_sat _ _ h.sat) ρ w⟩

/-! ### A tree as one value -/
def mrgC (c : Bool) : C → C → Option C
  | .i x, .i y => some (.i (bif c then x else y))
  | .w x, .w y => some (.w (bif c then x else y))
  | .b x, .b y => some (.b (bif c then x else y))
  | .q x, .q y => some (.q (bif c then x else y))
  | .bool x, .bool y => some (.bool (bif c then x else y))
  | .raw (.string x), .raw (.string y) => some (.raw (.string (bif c then x else y)))
  | _, _ => none
def mrgE (c : Bool) : E → E → Option E
  | .c x, .c y => (mrgC c x y).map .c
  | .agg l, .agg r => (mrgG c l r).map .agg
  | _, _ => none
where mrgG (c : Bool) : List Sg → List Sg → Option (List Sg)
  | [], [] => some []
  | .c x :: l, .c y :: r => match mrgC c x y, mrgG c l r with
    | some z, some t => some (.c z :: t)
    | _, _ => none
  | .ws f n :: l, .ws g m :: r => if n = m then (mrgG c l r).map (.ws (fun j => bif c then f j else g j) n :: ·) else none
  | _, _ => none
def mrgL (c : Bool) : List E → List E → Option (List E)
  | [], [] => some []
  | x :: l, y :: r => match mrgE c x y, mrgL c l r with
    | some z, some t => some (z :: t)
    | _, _ => none
  | _, _ => none
def mrgV (c : Bool) : V → V → Option V
  | .e x, .e y => (mrgE c x y).map .e
  | .tup l, .tup r => (mrgL c l r).map .tup
  | _, _ => none
theorem mrgC_l {x y z : C} {c : Bool} (h : mrgC c x y = some z) : z = bif c then x else y := by
  unfold mrgC at h
  split at h <;> first | (cases h; done) | (simp only [Option.some.injEq] at h; subst h; cases c <;> rfl)
theorem mrgG_l {c : Bool} : ∀ {l r t : List Sg}, mrgE.mrgG c l r = some t → t = bif c then l else r
  | [], [], t, h => by simp only [mrgE.mrgG, Option.some.injEq] at h; subst h; cases c <;> rfl
  | .c x :: l, .c y :: r, t, h => by
    simp only [mrgE.mrgG] at h
    split at h
    · rename_i z t' h1 h2
      cases h
      rw [mrgC_l h1, mrgG_l h2]
      cases c <;> rfl
    · cases h
  | .ws f n :: l, .ws g m :: r, t, h => by
    simp only [mrgE.mrgG] at h
    split at h
    · rename_i e
      subst e
      simp only [Option.map_eq_some_iff] at h
      obtain ⟨w, hw, rfl⟩ := h
      rw [mrgG_l hw]
      cases c <;> rfl
    · cases h
  | [], _ :: _, _, h => by simp [mrgE.mrgG] at h
  | .ws _ _ :: _, [], _, h => by simp [mrgE.mrgG] at h
  | .ws _ _ :: _, .c _ :: _, _, h => by simp [mrgE.mrgG] at h
  | .ws _ _ :: _, .bs _ _ :: _, _, h => by simp [mrgE.mrgG] at h
  | .ws _ _ :: _, .bl _ _ :: _, _, h => by simp [mrgE.mrgG] at h
  | .ws _ _ :: _, .is _ _ :: _, _, h => by simp [mrgE.mrgG] at h
  | .bs _ _ :: _, _, _, h => by simp [mrgE.mrgG] at h
  | .bl _ _ :: _, _, _, h => by simp [mrgE.mrgG] at h
  | .is _ _ :: _, _, _, h => by simp [mrgE.mrgG] at h
  | .c _ :: _, [], _, h => by simp [mrgE.mrgG] at h
  | .c _ :: _, .ws _ _ :: _, _, h => by simp [mrgE.mrgG] at h
  | .c _ :: _, .bs _ _ :: _, _, h => by simp [mrgE.mrgG] at h
  | .c _ :: _, .bl _ _ :: _, _, h => by simp [mrgE.mrgG] at h
  | .c _ :: _, .is _ _ :: _, _, h => by simp [mrgE.mrgG] at h
theorem mrgE_l {x y z : E} {c : Bool} (h : mrgE c x y = some z) : z = bif c then x else y := by
  cases x with
  | c x => cases y with
    | c y =>
      simp only [mrgE, Option.map_eq_some_iff] at h
      obtain ⟨w, hw, rfl⟩ := h
      rw [mrgC_l hw]; cases c <;> rfl
    | agg r => simp [mrgE] at h
  | agg l => cases y with
    | c y => simp [mrgE] at h
    | agg r =>
      simp only [mrgE, Option.map_eq_some_iff] at h
      obtain ⟨w, hw, rfl⟩ := h
      rw [mrgG_l hw]; cases c <;> rfl
theorem mrgL_l {c : Bool} : ∀ {l r t : List E}, mrgL c l r = some t → t = bif c then l else r
  | [], [], t, h => by simp only [mrgL, Option.some.injEq] at h; subst h; cases c <;> rfl
  | x :: l, y :: r, t, h => by
    simp only [mrgL] at h
    split at h
    · rename_i z t' h1 h2
      cases h
      rw [mrgE_l h1, mrgL_l h2]
      cases c <;> rfl
    · cases h
  | [], _ :: _, _, h => by simp [mrgL] at h
  | _ :: _, [], _, h => by simp [mrgL] at h
theorem mrgV_l {x y z : V} {c : Bool} (h : mrgV c x y = some z) : z = bif c then x else y := by
  cases x with
  | e x => cases y with
    | e y =>
      simp only [mrgV, Option.map_eq_some_iff] at h
      obtain ⟨w, hw, rfl⟩ := h
      rw [mrgE_l hw]; cases c <;> rfl
    | tup r => simp [mrgV] at h
  | tup l => cases y with
    | e y => simp [mrgV] at h
    | tup r =>
      simp only [mrgV, Option.map_eq_some_iff] at h
      obtain ⟨w, hw, rfl⟩ := h
      rw [mrgL_l hw]; cases c <;> rfl
def coll : Tr V → Option V
  | .leaf v => some v
  | .need _ t => coll t
  | .br c a b => match coll a, coll b with
    | some x, some y => mrgV c x y
    | _, _ => none
  | _ => none
def needs : Tr V → Prop
  | .leaf _ => True
  | .need p t => p ∧ needs t
  | .br c a b => (c = true → needs a) ∧ (c = false → needs b)
  | _ => False
/-- Is nothing asked? -/
def noNeeds : Tr V → Bool
  | .leaf _ => true
  | .br _ a b => noNeeds a && noNeeds b
  | _ => false
theorem needs_no : ∀ {T : Tr V}, noNeeds T = true → needs T
  | .leaf _, _ => trivial
  | .br _ a b, h => by
    simp only [noNeeds, Bool.and_eq_true] at h
    exact ⟨fun _ => needs_no h.1, fun _ => needs_no h.2⟩
theorem coll_sat {L : Code → St → (Ex → St → Prop) → Prop} : ∀ {T : Tr V} {v : V}, needs T → coll T = some v → T.sat L fun v' => v' = v
  | .leaf x, v, _, h => by simp only [coll, Option.some.injEq] at h; exact h
  | .need p t, v, hn, h => ⟨hn.1, coll_sat hn.2 h⟩
  | .br c a b, v, hn, h => by
    simp only [coll] at h
    split at h
    · rename_i x y h1 h2
      have := mrgV_l h
      refine ⟨fun hc => ?_, fun hc => ?_⟩
      · rw [hc] at this; subst this; exact coll_sat (hn.1 hc) h1
      · rw [hc] at this; subst this; exact coll_sat (hn.2 hc) h2
    · cases h
  | .fail, _, hn, _ => hn.elim
  | .loop _ _ _, _, hn, _ => hn.elim
def collP {α : Type u} (g : α → V) : Tr α → Option V
  | .leaf x => some (g x)
  | .need _ t => collP g t
  | .br c a b => match collP g a, collP g b with
    | some x, some y => mrgV c x y
    | _, _ => none
  | _ => none
def needsP {α : Type u} (K : α → Prop) : Tr α → Prop
  | .leaf x => K x
  | .need p t => p ∧ needsP K t
  | .br c a b => (c = true → needsP K a) ∧ (c = false → needsP K b)
  | _ => False
theorem collP_sat {α : Type u} {g : α → V} {K : α → Prop} {L : Code → St → (Ex → St → Prop) → Prop} : ∀ {T : Tr α} {v : V}, needsP K T → collP g T = some v → T.sat L fun x => g x = v ∧ K x
  | .leaf x, v, hn, h => by simp only [collP, Option.some.injEq] at h; exact ⟨h, hn⟩
  | .need p t, v, hn, h => ⟨hn.1, collP_sat hn.2 h⟩
  | .br c a b, v, hn, h => by
    simp only [collP] at h
    split at h
    · rename_i x y h1 h2
      have := mrgV_l h
      refine ⟨fun hc => ?_, fun hc => ?_⟩
      · rw [hc] at this; subst this; exact collP_sat (hn.1 hc) h1
      · rw [hc] at this; subst this; exact collP_sat (hn.2 hc) h2
    · cases h
  | .fail, _, hn, _ => hn.elim
  | .loop _ _ _, _, hn, _ => hn.elim

/-! ### Small facts for what is asked on the way -/
theorem ne_beq {b : BitVec 32} (h : (b == 0#32) = false) : b ≠ 0#32 := by rintro rfl; simp at h
theorem toInt_ne {b : BitVec 32} (h : (b == 0#32) = false) : b.toInt ≠ 0 := fun h0 => ne_beq h (BitVec.eq_of_toInt_eq (by simpa using h0))
theorem sext_need (n : Int) : 0 ≤ W64 (32 - max 1 (min n 32)) := by rw [W64_of (by omega) (by omega)]; omega
theorem byte_lt (x : BitVec 8) : 0 ≤ ((x.toNat : Nat) : Int) ∧ ((x.toNat : Nat) : Int) < 256 := by have := x.isLt; omega

/-! ### A tree as one value, of which nothing else is needed -/
def collF : Tr V → Option V
  | .leaf v => some v
  | .br c t e => (match collF t with
    | some x => (match collF e with
      | some y => mrgV c x y
      | none => (match c with | true => some x | false => none))
    | none => (match collF e with
      | some y => (match c with | true => none | false => some y)
      | none => none))
  | _ => none
theorem collF_sat {L : Code → St → (Ex → St → Prop) → Prop} : ∀ {T : Tr V} {v : V}, collF T = some v → T.sat L fun x => x = v := by
  intro T
  induction T with
  | leaf x => intro v h; cases h; rfl
  | fail => intro v h; cases h
  | need p t ih => intro v h; cases h
  | loop b s k ih => intro v h; cases h
  | br c t e iht ihe =>
    intro v h
    simp only [collF] at h
    cases ht : collF t with
    | none =>
      cases he : collF e with
      | none => rw [ht, he] at h; cases h
      | some y =>
        rw [ht, he] at h
        cases c with
        | true => cases h
        | false => cases h; exact ⟨(fun h => by cases h), fun _ => ihe he⟩
    | some x =>
      cases he : collF e with
      | none =>
        rw [ht, he] at h
        cases c with
        | true => cases h; exact ⟨fun _ => iht ht, fun h => by cases h⟩
        | false => cases h
      | some y =>
        rw [ht, he] at h
        have := mrgV_l h
        refine ⟨fun hc => ?_, fun hc => ?_⟩
        · subst hc; subst this; exact iht ht
        · subst hc; subst this; exact ihe he
theorem prune_nil {α : Type u} : ∀ T : Tr α, (prune T []).1 = T := by
  intro T
  induction T with
  | need p t ih => simp only [prune, ih]
  | _ => rfl
theorem ran_F {P : Program} {N n : Nat} {T : Tr V} {v : V} (h : collF T = some v) : Ran P N n T [] fun x => x = v := ⟨by
  rw [prune_nil]; exact collF_sat h⟩
end Go.Sx
namespace Go.Sx
universe u v
section
variable {P : Program} {MT PG : TypeId} {most : Int} {ps : List PgA} {wl : List (BitVec 32)} {S : Sp} {ρ : As} {φ : Nat → Nat → Prop} {h : H} {w : World}
theorem Rep.mem1 (hR : Rep ρ φ h.hp w) {k : Nat} {o : Ob} (hk : look h.hp k = some (.ob o)) (ho : IsMem MT PG o most ps wl) : Rep (ρ.at1 k) (fun _ => φ k) [(0, .ob (memOb MT PG most ps wl))] w := by
  obtain ⟨tv, ρ2, φ2, h1, h2, h3, h4⟩ := ho _ _ _ _ (hR.ok k _ hk)
  constructor
  · intro j b hj
    simp only [look] at hj
    split at hj
    · rename_i e; subst e; cases hj
      exact ⟨tv, ρ2, φ2, h1, h2, h3, h4⟩
    · cases hj
  · intro j b hj x hx
    exact hR.lt k _ hk x hx
  · intro j j' b b' hj hj' hne
    simp only [look] at hj hj'
    split at hj
    · split at hj'
      · omega
      · cases hj'
    · cases hj
/-- A call that is handed a memory as one object, and reads it. -/
theorem one_reads {f : FuncId} {rest : List E} {v : V} (hS : SpOk P S) (hm : P.follows .mixedOrders = true) {fn : Func} (hf : P.funcs[f]? = some fn) (hb : fn.body.isSome = true) (hr : rest.all (E.kb 0) = true) (hv : v.kb 0 = true) (hN : rest.length + 1 ≤ fn.ntmps) (os : List Nat)
    (hx : ∀ W G, Ran P fn.ntmps 1 (fexec P S fn (bodyOf fn) (.c (.ptr 0 0 0) :: rest) ⟨pinHp W G [(0, .ob (memOb MT PG most ps wl))], 1⟩ fun v h => (v, h)) os fun r => r.1 = v ∧ look r.2.hp 0 = some (.ob (pin (memOb MT PG most ps wl) W (G 0))))
    (hR : Rep ρ φ h.hp w) {k : Nat} {o : Ob} (hk : look h.hp k = some (.ob o)) (ho : IsMem MT PG o most ps wl) : Calls P f ((.c (.ptr k 0 0) :: rest).map (E.den ρ)).toArray w fun e w' => e = .returned (v.den ρ) ∧ RowKit.Below w.heap.size w w' := by
  rw [← den_mem hr (ρ2 := ρ.at1 k) (ρ := ρ) (k := k) rfl]
  refine (quiet_call hS hm hf hb (hp := [(0, .ob (memOb MT PG most ps wl))]) (n := 1) (args := .c (.ptr 0 0 0) :: rest) rfl (by
      simp only [List.all_cons, Bool.and_eq_true]
      exact ⟨rfl, List.all_eq_true.2 fun e he => E.kb_mono (Nat.zero_le _) (List.all_eq_true.1 hr e he)⟩) (V.kb_mono (Nat.zero_le _) hv) (by simpa using hN) os (fun W G => ⟨Tr.sat_mono (fun r hr => ⟨hr.1, fun j b hj => by
        simp only [pinHp, look] at hj
        split at hj
        · rename_i e; subst e; cases hj; exact hr.2
        · cases hj⟩) (hx W G).sat⟩) (hR.mem1 hk ho)).mono fun e w' hp => ⟨by rw [hp.1, V.den_agr (n := 0) (ρ := ρ) hv fun j hj => by omega], hp.2⟩
/-- A call that is handed a memory as one object, and turns it. -/
theorem one_turns {f : FuncId} {rest : List E} {v : V} {most' : Int} {ps' : List PgA} {wl' : List (BitVec 32)} (hS : SpOk P S) (hm : P.follows .mixedOrders = true) {fn : Func} (hf : P.funcs[f]? = some fn) (hb : fn.body.isSome = true) (hr : rest.all (E.kb 0) = true) (hv : v.kb 0 = true) (hN : rest.length + 1 ≤ fn.ntmps) (os : List Nat)
    (hx : Ran P fn.ntmps 1 (fexec P S fn (bodyOf fn) (.c (.ptr 0 0 0) :: rest) ⟨[(0, .ob (memOb MT PG most ps wl))], 1⟩ fun v h => (v, h)) os fun r => r.1 = v ∧ look r.2.hp 0 = some (.ob (memOb MT PG most' ps' wl')))
    (hR : Rep ρ φ h.hp w) {k : Nat} {o : Ob} (hk : look h.hp k = some (.ob o)) (ho : IsMem MT PG o most ps wl) :
    Calls P f ((.c (.ptr k 0 0) :: rest).map (E.den ρ)).toArray w fun e w' => ∃ ρ' φ', e = .returned (v.den ρ') ∧ Rep ρ' φ' (sett h.hp k (.ob (memOb MT PG most' ps' wl'))) w' ∧ Evo ρ φ h w ρ' φ' ⟨sett h.hp k (.ob (memOb MT PG most' ps' wl')), h.nk⟩ w' := by
  rw [← den_mem hr (ρ2 := ρ.at1 k) (ρ := ρ) (k := k) rfl]
  refine (calls_of_exec (h0 := ⟨[(0, .ob (memOb MT PG most ps wl))], 1⟩) (args := .c (.ptr 0 0 0) :: rest) hS hm hf (body_eq hb) rfl (by
      simp only [List.all_cons, Bool.and_eq_true]
      exact ⟨rfl, List.all_eq_true.2 fun e he => E.kb_mono (Nat.zero_le _) (List.all_eq_true.1 hr e he)⟩) (by simpa using hN) (fun v h => (v, h)) (prune_sat _ _ hx.sat) (hR.mem1 hk ho)).mono fun e w' hp => ?_
  obtain ⟨v', h', ρ', φ', rfl, ⟨rfl, hlk⟩, hR', hE⟩ := hp
  obtain ⟨tv, ρ2, φ2, g1, g2, g3, g4⟩ := hR'.ok 0 _ hlk
  have e0 : ρ'.r 0 = ρ.r k := (hE.agr 0 (by simp)).1
  have := hR.turnF (w' := w') (b1 := .ob (memOb MT PG most' ps' wl')) (F := φ' 0) hk ⟨tv, ρ2, φ2, g1, g2.trans e0, g3, g4⟩ (fun x hx => by
      rcases Nat.lt_or_ge x w.heap.size with h1 | h1
      · obtain ⟨_, _, _, h3⟩ := hE.own 0 _ hlk x hx h1
        exact .inl h3
      · exact .inr h1) (fun x hx => hR'.lt 0 _ hlk x hx) (fun x hx hno => hE.fr x hx fun j b hj hφ => hno hφ) hE.os hE.tape hE.output hE.size
  exact ⟨ρ, _, by rw [V.den_agr (n := 0) (ρ := ρ) hv fun j hj => by omega], this.1, this.2⟩
end
end Go.Sx
namespace Go.Sx
universe u v

def eqCell (P : Program) (t : TypeId) (x y : C) : R Bool :=
  match P.underlying t with
  | some (.int _) => (match x, y with
    | .i a, .i b => .ok (a == b)
    | .w a, .w b => .ok (a == b)
    | .b a, .b b => .ok (a == b)
    | .q a, .q b => .ok (a == b)
    | _, _ => .fail)
  | some .bool => (match x, y with
    | .bool a, .bool b => .ok (a == b)
    | _, _ => .fail)
  | _ => .fail
theorem eqCell_sound {P : Program} {t : TypeId} {x y : C} {Q : Bool → Prop} (h : (eqCell P t x y).sat Q) :
    ∃ b, Q b ∧ P.plainKey t = true ∧ ∀ d (ρ : As) (w : World), (Op.equalIn (d + 1) t (x.den ρ) (y.den ρ)).run P w = .ok b w := by
  unfold eqCell at h
  split at h
  · rename_i k hu
    have hp : P.plainKey t = true := by simp [Program.plainKey, hu]
    split at h
    · exact ⟨_, h, hp, fun d ρ w => run_equalIn_int w d t .i64 k _ _ hu⟩
    · exact ⟨_, h, hp, fun d ρ w => (run_equalIn_int w d t .u32 k _ _ hu).trans (by rw [cast_eq_beq])⟩
    · exact ⟨_, h, hp, fun d ρ w => (run_equalIn_int w d t .u8 k _ _ hu).trans (by rw [cast_eq_beq])⟩
    · exact ⟨_, h, hp, fun d ρ w => (run_equalIn_int w d t .u64 k _ _ hu).trans (by rw [cast_eq_beq])⟩
    · exact h.elim
  · rename_i hu
    have hp : P.plainKey t = true := by simp [Program.plainKey, hu]
    split at h
    · exact ⟨_, h, hp, fun d ρ w => run_equalIn_bool' w d t _ _ hu⟩
    · exact h.elim
  · exact h.elim

/-- Fields, one behind the other. -/
def eqFs (P : Program) : List Field → List Sg → List Sg → R Bool
  | [], _, _ => .ok true
  | f :: fs, p, q => if f.name ≠ "_" then (getC p f.offset 0).bind fun x => (getC q f.offset 0).bind fun y => (eqCell P f.type x y).bind fun b => (match fs with | [] => .ok b | _ :: _ => (eqFs P fs p q).bind fun r => .ok (b && r)) else .fail
theorem eqFs_sound {P : Program} {p q : List Sg} (d : Nat) : ∀ (fs : List Field) {Q : Bool → Prop}, (eqFs P fs p q).sat Q → ∃ b, Q b ∧ (fs = [] → b = true) ∧ ∀ (ρ : As) (w : World), (Op.eqFields (d + 1) (cellsOf ρ p).toArray (cellsOf ρ q).toArray fs).run P w = .ok b w
  | [], Q, h => ⟨true, h, fun _ => rfl, fun ρ w => rfl⟩
  | f :: fs, Q, h => by
    simp only [eqFs] at h
    split at h
    · rename_i hn
      have h1 := R.sat_bind h
      -- the cells stand there, whatever is led to
      have key : ∃ x y b r, Q (match fs with | [] => b | _ => b && r) ∧ P.plainKey f.type = true ∧ (fs = [] → r = true) ∧ ∀ (ρ : As) (w : World), (cellsOf ρ p)[f.offset]? = some (C.den ρ x) ∧ (cellsOf ρ q)[f.offset]? = some (C.den ρ y) ∧ (Op.equalIn (d + 1) f.type (x.den ρ) (y.den ρ)).run P w = .ok b w ∧ (Op.eqFields (d + 1) (cellsOf ρ p).toArray (cellsOf ρ q).toArray fs).run P w = .ok r w := by
        obtain ⟨x, hx, hxe⟩ := getC_sound' _ _ _ _ h1
        obtain ⟨y, hy, hye⟩ := getC_sound' _ _ _ _ (R.sat_bind hx)
        obtain ⟨b, hb, hp, hbe⟩ := eqCell_sound (R.sat_bind hy)
        cases fs with
        | nil => exact ⟨x, y, b, true, hb, hp, fun _ => rfl, fun ρ w => ⟨hxe ρ, hye ρ, hbe d ρ w, rfl⟩⟩
        | cons g gs =>
          obtain ⟨r, hr, hr0, hre⟩ := eqFs_sound d (g :: gs) (R.sat_bind hb)
          exact ⟨x, y, b, r, hr, hp, hr0, fun ρ w => ⟨hxe ρ, hye ρ, hbe d ρ w, hre ρ w⟩⟩
      obtain ⟨x, y, b, r, hQ, hp, hr0, hall⟩ := key
      refine ⟨_, hQ, (by intro e; cases e), fun ρ w => ?_⟩
      obtain ⟨h1, h2, h3, h4⟩ := hall ρ w
      have e1 := run_part_plain w hp (xs := (cellsOf ρ p).toArray) (off := f.offset) (by simpa using h1)
      have e2 := run_part_plain w hp (xs := (cellsOf ρ q).toArray) (off := f.offset) (by simpa using h2)
      simp only [Op.eqFields, hn, ne_eq, not_false_eq_true, if_true, Sem.run_bind, e1, e2, h3, Result.andThen_ok]
      cases b with
      | false => cases fs <;> simp
      | true =>
        cases fs with
        | nil => simpa [hr0 rfl] using h4
        | cons g gs => simpa using h4
    · exact h.elim
def eqIt (P : Program) (e : TypeId) : List Nat → List Sg → List Sg → R Bool
  | [], _, _ => .ok true
  | i :: is, p, q => (getC p (i * P.cellsOf e) 0).bind fun x => (getC q (i * P.cellsOf e) 0).bind fun y => (eqCell P e x y).bind fun b => (match is with | [] => .ok b | _ :: _ => (eqIt P e is p q).bind fun r => .ok (b && r))
theorem eqIt_sound {P : Program} {p q : List Sg} (d : Nat) {e : TypeId} : ∀ (is : List Nat) {Q : Bool → Prop}, (eqIt P e is p q).sat Q → ∃ b, Q b ∧ (is = [] → b = true) ∧ ∀ (ρ : As) (w : World), (Op.eqItems (d + 1) e (P.cellsOf e) (cellsOf ρ p).toArray (cellsOf ρ q).toArray is).run P w = .ok b w
  | [], Q, h => ⟨true, h, fun _ => rfl, fun ρ w => rfl⟩
  | i :: is, Q, h => by
    simp only [eqIt] at h
    obtain ⟨x, hx, hxe⟩ := getC_sound' _ _ _ _ (R.sat_bind h)
    obtain ⟨y, hy, hye⟩ := getC_sound' _ _ _ _ (R.sat_bind hx)
    obtain ⟨b, hb, hp, hbe⟩ := eqCell_sound (R.sat_bind hy)
    obtain ⟨r, hQ, hr0, hre⟩ : ∃ r, Q (match is with | [] => b | _ => b && r) ∧ (is = [] → r = true) ∧ ∀ (ρ : As) (w : World), (Op.eqItems (d + 1) e (P.cellsOf e) (cellsOf ρ p).toArray (cellsOf ρ q).toArray is).run P w = .ok r w := by
      cases is with
      | nil => exact ⟨true, hb, fun _ => rfl, fun ρ w => rfl⟩
      | cons g gs => exact eqIt_sound d (g :: gs) (R.sat_bind hb)
    refine ⟨_, hQ, (by intro e; cases e), fun ρ w => ?_⟩
    have e1 := run_part_plain w hp (xs := (cellsOf ρ p).toArray) (off := i * P.cellsOf e) (by simpa using hxe ρ)
    have e2 := run_part_plain w hp (xs := (cellsOf ρ q).toArray) (off := i * P.cellsOf e) (by simpa using hye ρ)
    have h4 := hre ρ w
    simp only [Op.eqItems, Sem.run_bind, e1, e2, hbe d ρ w, Result.andThen_ok]
    cases b with
    | false => cases is <;> simp
    | true =>
      cases is with
      | nil => simpa [hr0 rfl] using h4
      | cons g gs => simpa using h4
theorem eqWs_sound {P : Program} (d : Nat) {e : TypeId} {k : IntKind} (hu : P.underlying e = some (.int k)) (hc : P.cellsOf e = 1) (f g : Nat → BitVec 32) (n : Nat) (ρ : As) (w : World) : ∀ (is : List Nat), (∀ j ∈ is, j < n) →
    (Op.eqItems (d + 1) e (P.cellsOf e) (cellsOf ρ [.ws f n]).toArray (cellsOf ρ [.ws g n]).toArray is).run P w = .ok (is.all fun j => f j == g j) w
  | [], _ => rfl
  | i :: is, h => by
    have hp : P.plainKey e = true := by simp [Program.plainKey, hu]
    have hi := h i (by simp)
    have e1 := run_part_plain w hp (xs := (cellsOf ρ [.ws f n]).toArray) (off := i * P.cellsOf e) (v := .int .u32 (f i).toNat) (by simp [hc, cellsOf, Sg.cells, hi])
    have e2 := run_part_plain w hp (xs := (cellsOf ρ [.ws g n]).toArray) (off := i * P.cellsOf e) (v := .int .u32 (g i).toNat) (by simp [hc, cellsOf, Sg.cells, hi])
    have e3 := run_equalIn_int w d e .u32 k (f i).toNat (g i).toNat hu
    rw [cast_eq_beq] at e3
    have h4 := eqWs_sound d hu hc f g n ρ w is fun j hj => h j (by simp [hj])
    simp only [Op.eqItems, Sem.run_bind, e1, e2, e3, Result.andThen_ok, List.all_cons]
    cases hb : (f i == g i) with
    | false => simp
    | true => simpa using h4
def eqAgg (P : Program) (t : TypeId) (p q : List Sg) : R Bool :=
  match P.underlying t with
  | some (.struct fs) => eqFs P fs.toList p q
  | some (.array n e) => (match P.info? e with
    | some _ => (match p, q with
      | [.ws f n1], [.ws g n2] => (match P.underlying e with
        | some (.int _) => if n1 = n ∧ n2 = n ∧ P.cellsOf e = 1 then .ok ((List.range n).all fun j => f j == g j) else .fail
        | _ => .fail)
      | p, q => eqIt P e (List.range n) p q)
    | none => .fail)
  | _ => .fail
theorem eqAgg_sound {P : Program} {t : TypeId} {p q : List Sg} {Q : Bool → Prop} (hp : P.stoodInHeld t = false) (h : (eqAgg P t p q).sat Q) : ∃ b, Q b ∧ ∀ (ρ : As) (w : World), (Op.equal t (.agg (cellsOf ρ p).toArray) (.agg (cellsOf ρ q).toArray)).run P w = .ok b w := by
  unfold eqAgg at h
  split at h
  · rename_i fs hu
    obtain ⟨b, hb, _, hbe⟩ := eqFs_sound 9998 _ h
    refine ⟨b, hb, fun ρ w => ?_⟩
    have hfs : P.fieldsOf t = fs := by simp [Program.fieldsOf, hu]
    exact (run_equalIn_struct w 9999 t _ _ (by rw [hfs]; exact hu) hp).trans (by rw [hfs]; exact hbe ρ w)
  · rename_i n e hu
    split at h
    · rename_i i hi
      split at h
      · rename_i f n1 g n2
        split at h
        · rename_i k hk
          split at h
          · rename_i hc
            obtain ⟨e1, e2, hc⟩ := hc
            subst e1 e2
            exact ⟨_, h, fun ρ w => (run_equalIn_array w 9999 _ _ hu hi).trans (eqWs_sound 9998 hk hc f g _ ρ w _ fun j hj => List.mem_range.1 hj)⟩
          · exact h.elim
        · exact h.elim
      · obtain ⟨b, hb, _, hbe⟩ := eqIt_sound 9998 _ h
        exact ⟨b, hb, fun ρ w => (run_equalIn_array w 9999 _ _ hu hi).trans (hbe ρ w)⟩
    · exact h.elim
  · exact h.elim
def eeOf (P : Program) (t : TypeId) (h1 : P.stoodInHeld t = false) (h2 : P.eqGuardType P.depth t = false) : EE P := ⟨t, eqAgg P t, fun p q Q h => by
  obtain ⟨b, hb, hbe⟩ := eqAgg_sound h1 h
  exact ⟨b, hb, fun ρ w => ⟨hbe ρ w, fun op x y => run_eqGuard_agg w op t x y _ _ h2⟩⟩⟩

/-! ### Calls of short functions, in place -/
def inlR {α : Type u} : Tr α → R α
  | .leaf x => .ok x
  | .need p t => .need p (inlR t)
  | .br c t e => (match c with | true => inlR t | false => inlR e)
  | _ => .fail
theorem inlR_sat {α : Type u} {L : Code → St → (Ex → St → Prop) → Prop} {Q : α → Prop} : ∀ {T : Tr α}, (inlR T).sat Q → ∃ x, Q x ∧ T.sat L fun y => y = x := by
  intro T
  induction T with
  | leaf x => exact fun h => ⟨x, h, rfl⟩
  | fail => exact fun h => h.elim
  | need p t ih => exact fun h => (ih h.2).imp fun x hx => ⟨hx.1, h.1, hx.2⟩
  | br c t e iht ihe =>
    intro h
    cases c with
    | true => exact (iht h).imp fun x hx => ⟨hx.1, fun _ => hx.2, fun e => by cases e⟩
    | false => exact (ihe h).imp fun x hx => ⟨hx.1, (fun e => by cases e), fun _ => hx.2⟩
  | loop b s k ih => exact fun h => h.elim
/-- A function whose code is run in place. -/
def inlM {P : Program} {S : Sp} (hS : SpOk P S) (hm : P.follows .mixedOrders = true) {f : FuncId} {fn : Func} (hf : P.funcs[f]? = some fn) (hb : fn.body.isSome = true) (hn : (fn.name == "runtime.NumGoroutine") = false) : ME P :=
  ⟨f, fun args h => if args.all (E.kb h.nk) = true ∧ args.length ≤ fn.ntmps then inlR (fexec P S fn (bodyOf fn) args h fun v h' => (v, h')) else .fail, fun args h Q hh => by
    split at hh
    · rename_i hk
      refine ⟨⟨fn, hf, by cases hx : fn.body <;> simp_all, hn⟩, ?_⟩
      obtain ⟨x, hx, hT⟩ := inlR_sat (L := LoopT P fn.ntmps h.nk) hh
      refine ⟨x.1, x.2, hx, fun ρ φ w hR hkb => ?_⟩
      refine (calls_of_exec hS hm hf (body_eq hb) hkb hk.1 hk.2 (fun v h' => (v, h')) hT hR).mono fun e w' hp => ?_
      obtain ⟨v, h', ρ', φ', he, rfl, hR', hE⟩ := hp
      exact ⟨ρ', φ', he, hR', hE⟩
    · exact hh.elim⟩
end Go.Sx
namespace Go.Sx
universe u v

/-! ### make([]T, n); append -/
def orY {P : Program} (a b : YE P) : YE P :=
  ⟨fun op l h => match (a.ans op l h).isFail with | true => b.ans op l h | false => a.ans op l h, fun op ls l h Q hx hh => by
    split at hh
    · exact b.ok op ls l h Q hx hh
    · exact a.ok op ls l h Q hx hh⟩
def wo (hp : HP) (k : Nat) : HP := hp.filter fun p => p.1 != k
theorem look_wo {hp : HP} {k j : Nat} : look (wo hp k) j = if j = k then none else look hp j := by
  induction hp with
  | nil => simp [wo, look]
  | cons p hp ih =>
    obtain ⟨i, b⟩ := p
    unfold wo at ih ⊢
    simp only [List.filter_cons, look_cons]
    by_cases hik : i = k
    · subst hik
      simp only [bne_self_eq_false, Bool.false_eq_true, if_false, ih]
      by_cases hj : j = i
      · simp [hj]
      · simp only [hj, if_false]; rw [if_neg fun e : i = j => hj e.symm]
    · have : (i != k) = true := by simpa using hik
      simp only [this, if_true, look_cons, ih]
      by_cases hij : i = j
      · subst hij; simp [hik]
      · simp [hij]
section
variable {P : Program} {ρ : As} {φ : Nat → Nat → Prop} {h : H} {w w' : World}
/-- A block that goes on under another key. -/
theorem Rep.moveF (hR : Rep ρ φ h.hp w) (hkb : hpkb h.hp h.nk = true) {k : Nat} {b0 : Blk} (hk : look h.hp k = some b0) {g : Nat} {v : Value} (hv : v.oneCell' = true) {b1 : Blk} {F : Nat → Prop} (hb1 : b1.holds (ρ.newV h.nk g v hv) w' h.nk F)
    (hF : ∀ x, F x → φ k x ∨ w.heap.size ≤ x) (hlt : ∀ x, F x → x < w'.heap.size) (hoth : ∀ x, x < w.heap.size → ¬ φ k x → w'.heap[x]? = w.heap[x]?) (hos : w'.os = w.os) (htp : w'.tape = w.tape) (hout : w'.output = w.output) (hsz : w.heap.size ≤ w'.heap.size) :
    Rep (ρ.newV h.nk g v hv) (φset φ h.nk F) ((h.nk, b1) :: wo h.hp k) w' ∧ Evo ρ φ h w (ρ.newV h.nk g v hv) (φset φ h.nk F) ⟨(h.nk, b1) :: wo h.hp k, h.nk + 1⟩ w' := by
  have hA := As.newV_agr ρ h.nk g v hv
  have e1 : φset φ h.nk F h.nk = F := by funext x; simp [φset]
  have e2 : ∀ j, j ≠ h.nk → φset φ h.nk F j = φ j := fun j hj => by funext x; simp [φset, hj]
  have old : ∀ {j : Nat} {b : Blk}, (if h.nk = j then some b1 else look (wo h.hp k) j) = some b → h.nk ≠ j → j ≠ k ∧ look h.hp j = some b := fun {j b} hj hne => by
    rw [if_neg hne, look_wo] at hj
    split at hj
    · cases hj
    · rename_i e; exact ⟨e, hj⟩
  have mix : ∀ j b, look h.hp j = some b → j ≠ k → ∀ x, φ j x → ¬ F x := fun j b hj hne x hx hFx => by
    rcases hF x hFx with h1 | h1
    · exact hR.dis j k b _ hj hk hne x hx h1
    · have := hR.lt j b hj x hx; omega
  constructor
  · constructor
    · intro j b hj
      simp only [look_cons] at hj
      by_cases e : h.nk = j
      · subst e
        rw [if_pos rfl] at hj
        cases hj
        rw [e1]; exact hb1
      · obtain ⟨hjk, hj⟩ := old hj e
        have hk' := hpkb_look hkb hj
        rw [e2 j (fun e' => e e'.symm)]
        exact Blk.holds_agr (Blk.holds_loc (hR.ok j b hj) fun x hx => hoth x (hR.lt j b hj x hx) (hR.dis j k b _ hj hk hjk _ hx)) hk'.2 hk'.1 hA
    · intro j b hj x hx
      simp only [look_cons] at hj
      by_cases e : h.nk = j
      · subst e
        rw [e1] at hx
        exact hlt x hx
      · obtain ⟨hjk, hj⟩ := old hj e
        rw [e2 j (fun e' => e e'.symm)] at hx
        exact Nat.lt_of_lt_of_le (hR.lt j b hj x hx) hsz
    · intro j j' b b' hj hj' hne x hx hx'
      simp only [look_cons] at hj hj'
      by_cases e : h.nk = j
      · subst e
        obtain ⟨hjk, hj'⟩ := old hj' hne
        rw [e1] at hx
        rw [e2 j' (fun e => hne e.symm)] at hx'
        exact mix j' b' hj' hjk x hx' hx
      · obtain ⟨hjk, hj⟩ := old hj e
        rw [e2 j (fun e' => e e'.symm)] at hx
        by_cases e' : h.nk = j'
        · subst e'
          rw [e1] at hx'
          exact mix j b hj hjk x hx hx'
        · obtain ⟨hjk', hj'⟩ := old hj' e'
          rw [e2 j' (fun e2 => e' e2.symm)] at hx'
          exact hR.dis j j' b b' hj hj' hne x hx hx'
  · refine ⟨Nat.le_succ _, hA, ?_, fun x hx hno => hoth x hx (hno k _ hk), hos, htp, hout, hsz⟩
    intro j b hj x hx hlt'
    simp only [look_cons] at hj
    by_cases e : h.nk = j
    · subst e
      rw [e1] at hx
      rcases hF x hx with h1 | h1
      · exact ⟨_, _, hk, h1⟩
      · omega
    · obtain ⟨hjk, hj⟩ := old hj e
      rw [e2 j (fun e' => e e'.symm)] at hx
      exact ⟨_, _, hj, hx⟩
end

/-- Nothing: what stood under a key before it went on under another one. -/
def voidOb : Ob where
  I := fun d _ _ _ F => d = .ws 0 [] ∧ ∀ x, ¬ F x
  d := .ws 0 []
  n := 0
  bt := fun _ _ _ h => by cases h
  loc := fun _ _ _ _ _ h _ => h
  agr := fun _ _ _ _ _ h _ _ _ => h
def leave (hp : HP) (k : Nat) : HP := sett hp k (.ob voidOb)
section
variable {ρ ρ0 : As} {φ φ0 : Nat → Nat → Prop} {h0 : H} {w w0 : World}
theorem Rep.void {hp : HP} {n k : Nat} {b1 : Blk} (hn : n ≠ k) (hs : (look hp k).isSome) (hR : Rep ρ φ ((n, b1) :: wo hp k) w) : Rep ρ (fun j x => j ≠ k ∧ φ j x) ((n, b1) :: leave hp k) w := by
  have key : ∀ j b, look ((n, b1) :: leave hp k) j = some b → (j = k ∧ b = .ob voidOb) ∨ (j ≠ k ∧ look ((n, b1) :: wo hp k) j = some b) := by
    intro j b hj
    unfold leave at hj
    rw [look_cons] at hj ⊢
    by_cases e : n = j
    · rw [if_pos e] at hj ⊢
      exact .inr ⟨fun e2 => hn (e.trans e2), hj⟩
    · rw [if_neg e] at hj ⊢
      rw [look_sett _ _ _ _ hs] at hj
      by_cases e2 : k = j
      · rw [if_pos e2] at hj; cases hj; exact .inl ⟨e2.symm, rfl⟩
      · rw [if_neg e2] at hj
        refine .inr ⟨fun e3 => e2 e3.symm, ?_⟩
        rw [look_wo, if_neg (fun e3 => e2 e3.symm)]
        exact hj
  constructor
  · intro j b hj
    rcases key j b hj with ⟨rfl, rfl⟩ | ⟨hne, hl⟩
    · exact ⟨rfl, fun x hx => hx.1 rfl⟩
    · rw [show (fun x => j ≠ k ∧ φ j x) = φ j by funext x; simp [hne]]
      exact hR.ok j b hl
  · intro j b hj x hx
    rcases key j b hj with ⟨rfl, rfl⟩ | ⟨hne, hl⟩
    · exact (hx.1 rfl).elim
    · exact hR.lt j b hl x hx.2
  · intro i j b c hi hj hne x hx hx'
    rcases key i b hi with ⟨rfl, rfl⟩ | ⟨h1, hl⟩
    · exact hx.1 rfl
    · rcases key j c hj with ⟨rfl, rfl⟩ | ⟨h2, hl2⟩
      · exact hx'.1 rfl
      · exact hR.dis i j b c hl hl2 hne x hx.2 hx'.2
theorem Evo.void {hp : HP} {n m k : Nat} {b1 : Blk} (hs : (look hp k).isSome) (hE : Evo ρ0 φ0 h0 w0 ρ φ ⟨(n, b1) :: wo hp k, m⟩ w) : Evo ρ0 φ0 h0 w0 ρ (fun j x => j ≠ k ∧ φ j x) ⟨(n, b1) :: leave hp k, m⟩ w := by
  refine ⟨hE.nk, hE.agr, ?_, hE.fr, hE.os, hE.tape, hE.output, hE.size⟩
  intro j b hj x hx hlt
  refine hE.own j b ?_ x hx.2 hlt
  have hj' : look ((n, b1) :: leave hp k) j = some b := hj
  show look ((n, b1) :: wo hp k) j = some b
  unfold leave at hj'
  rw [look_cons] at hj' ⊢
  split at hj'
  · rename_i e; rw [if_pos e]; exact hj'
  · rename_i e
    rw [if_neg e]
    rw [look_sett _ _ _ _ hs] at hj'
    rw [look_wo, if_neg hx.1]
    split at hj'
    · rename_i e2; exact (hx.1 e2.symm).elim
    · exact hj'
end
section
variable {P : Program}
/-- A slice's type. -/
structure SlTy (P : Program) (t e : TypeId) (l0 : List Sg) : Prop where
  u : P.underlying t = some (.slice e)
  z : Z1 P e l0
  pos : 0 < lenOf l0
  by_ : P.bytesOf e ≤ 65536
theorem SlTy.info {t e : TypeId} {l0 : List Sg} (h : SlTy P t e l0) : ∃ i z, P.info? e = some i ∧ i.zero = some z ∧ i.size = lenOf l0 ∧ z.cells.size = lenOf l0 ∧ i.bytes ≤ 65536 := by
  obtain ⟨i, z, h1, h2, h3, h4⟩ := h.z.is
  refine ⟨i, z, h1, h2, h3, ?_, ?_⟩
  · rw [← Array.length_toList, h4 As0, cellsOf_length]
  · have := h.by_
    simpa [Program.bytesOf, h1] using this

def mkA (t e : TypeId) (l0 : List Sg) (op : Op) (l : List E) (h : H) : R (V × H) :=
  match op, l with
  | .makeSlice t' _ _, [.c (.i n), .c (.i c)] => if lenOf l0 = 1 ∧ t' = t ∧ n = c ∧ 0 < n ∧ n ≤ 65536 ∧ (zrow l0 n.toNat).all (Sg.kb h.nk) = true then .ok (.e (.c (.sl h.nk 0 0 n.toNat n.toNat)), ⟨(h.nk, .cells e (zrow l0 n.toNat)) :: h.hp, h.nk + 1⟩) else .fail
  | _, _ => .fail
theorem mkA_ok {t e : TypeId} {l0 : List Sg} (hT : SlTy P t e l0) (op : Op) (ls : List Operand) (l : List E) (h : H) (Q : V × H → Prop) (hx : yArgs op = some ls) (hh : (mkA t e l0 op l h).sat Q) :
    ∃ v h', Q (v, h') ∧ ∀ (ρ : As) (φ : Nat → Nat → Prop) (w : World) (ev : Operand → Value) (o : Oper), o.op = op → ls.map ev = l.map (E.den ρ) → Rep ρ φ h.hp w → hpkb h.hp h.nk = true →
    ∃ ρ' φ' w', (execOp ev o).run P w = .ok (if isUp op then .skip else .value (v.den ρ')) w' ∧ Rep ρ' φ' h'.hp w' ∧ Evo ρ φ h w ρ' φ' h' w' := by
  unfold mkA at hh
  split at hh
  · rename_i t' lo co n c
    have hls : ls = [lo, co] := by simpa [yArgs] using hx.symm
    subst hls
    split at hh
    · rename_i hc
      obtain ⟨hone, rfl, rfl, h0, hn, hz⟩ := hc
      refine ⟨_, _, hh, fun ρ φ w ev o hoo hev hR hkb => ?_⟩
      simp only [List.map_cons, List.map_nil, List.cons.injEq, E.den, C.den, and_true] at hev
      obtain ⟨i, z, hi, hzz, hs, hzs, hby⟩ := hT.info
      rw [hone] at hs hzs
      obtain ⟨i2, z2, g1, g2, g3, g4⟩ := hT.z.is
      rw [hi] at g1; cases g1
      rw [hzz] at g2; cases g2
      obtain ⟨ρ', φ', hr, r1, r2, r3⟩ := new_sound (t := e) hR hkb hz (cs := (cellsOf ρ (zrow l0 n.toNat)).toArray) rfl
      refine ⟨ρ', φ', _, ?_, r1, r2⟩
      have hw : IntKind.i64.wrap n = n := W64_of (by omega) (by omega)
      have hne : cellsOf ρ l0 ≠ [] := fun e0 => by
        have := congrArg List.length e0
        rw [cellsOf_length, hone] at this
        simp at this
      have hbase : ((Array.range (n.toNat * 1)).map fun j => z.cells[j % z.cells.size]!) = (cellsOf ρ (zrow l0 n.toNat)).toArray := by
        apply Array.ext'
        rw [zrow_cells, ← rep_flatten _ _ hne, cellsOf_length, hone]
        have : z.cells = (cellsOf ρ l0).toArray := Array.ext' (g4 ρ)
        rw [this]
      have h48 : ¬ (281474976710656 < (i.bytes : Int) * n) := by
        have h1 : (i.bytes : Int) * n ≤ 65536 * 65536 := Int.mul_le_mul (by omega) hn (by omega) (by omega)
        omega
      have hrun : (Instr.makeSlice t' (.int .i64 n) (.int .i64 n)).run P w = .ok (.slice (some ⟨w.heap.size, 0, none⟩) n.toNat n.toNat) (w.alloc (.cells (cellsOf ρ (zrow l0 n.toNat)).toArray e)) := by
        have hai : ∀ w : World, (asInt (.int .i64 n)).run P w = .ok n w := fun _ => rfl
        unfold Instr.makeSlice
        simp only [Sem.run_bind, run_underlying hT.u, Result.andThen_ok, hai, Sem.run_pure, typeInfo, hi, hw, sizeOf, hs]
        have e1 : decide (n < 0) = false := by simp; omega
        have e2 : decide ((i.bytes : Int) * n > 2 ^ 48) = false := by simpa using (by omega : (i.bytes : Int) * n ≤ 281474976710656)
        have e3 : ¬ (n.toNat * 1 = 0) := by omega
        simp [e1, hzz, zeroValue, typeInfo, hi, run_askRoom, e3, h48, ← hbase, newRow]
        rw [hs, if_neg e3, Nat.mul_one]
      unfold execOp
      rw [hoo]
      simp only [hev.1, hev.2, Sem.run_bind, hrun, Result.andThen_ok, Sem.run_pure, isUp, Bool.false_eq_true, if_false, V.den, E.den, den_sl, hr]
    · exact hh.elim
  · exact hh.elim

/-- What is put behind: its cells. -/
def newsOf (hp : HP) (sz : Nat) (y : E) : R (List Sg) :=
  match y with
  | .c (.sl k off ix len _) => (match look hp k with
    | some (.cells _ cs) => R.of (Sx.cut cs (off + ix) (len * sz))
    | _ => .fail)
  | .c (.obj k) => (match btOf hp k with
    | some (_, sz', l) => if sz' = sz then .ok l else .fail
    | none => .fail)
  | _ => .fail
theorem newsOf_sound {hp : HP} {sz : Nat} {y : E} {Q : List Sg → Prop} (h : (newsOf hp sz y).sat Q) : ∃ l, Q l ∧ ∀ (ρ : As) (φ : Nat → Nat → Prop) (w : World), Rep ρ φ hp w → ∃ a n c, y.den ρ = .slice (some a) n c ∧ n * sz = lenOf l ∧ ∀ j u, (cellsOf ρ l)[j]? = some u → w.cell? (a.add j) = some u := by
  unfold newsOf at h
  split at h
  · rename_i k off ix len cap
    split at h
    · rename_i T cs hk
      obtain ⟨l, hl, hq⟩ := R.sat_of h
      refine ⟨l, hq, fun ρ φ w hR => ?_⟩
      obtain ⟨h1, h2⟩ := cut_sound (ρ := ρ) _ _ _ _ hl
      refine ⟨⟨ρ.r k, off + ix, none⟩, len, cap, rfl, h2.symm, fun j u hj => ?_⟩
      rw [addr_add, hR.cell hk]
      rw [h1, List.getElem?_take] at hj
      split at hj
      · rw [List.getElem?_drop] at hj; exact hj
      · cases hj
    · exact h.elim
  · rename_i k
    split at h
    · rename_i T sz' l hb
      split at h
      · rename_i hsz
        subst hsz
        refine ⟨l, h, fun ρ φ w hR => ?_⟩
        obtain ⟨hz, hc, cap, cur, hv, hrow, h3, h4, h5, h6, h7⟩ := btOf_I hb hR
        refine ⟨⟨ρ.r k, 0, none⟩, elems sz' l, cap, hv, elems_mul hz, fun j u hj => ?_⟩
        rw [← h6, List.getElem?_take] at hj
        split at hj
        · rw [addr_add, Nat.zero_add]
          unfold World.cell?; rw [hrow]; simpa using hj
        · cases hj
      · exact h.elim
    · exact h.elim
  · exact h.elim
def apA (t e : TypeId) (sz : Nat) (op : Op) (l : List E) (h : H) : R (V × H) :=
  match op, l with
  | .call { callee := .builtin .append, argTypes, .. }, [x, y] => if argTypes.toList = [t, t] then (newsOf h.hp sz y).bind fun l2 =>
      if l2.all (Sg.kb 0) = true ∧ l2.all Sg.isOne = true ∧ 0 < lenOf l2 ∧ lenOf l2 ≤ 65536 then (match x with
        | .c (.raw (.slice none 0 0)) => .ok (.e (.c (.obj h.nk)), ⟨(h.nk, .ob (btOb e sz l2)) :: h.hp, h.nk + 1⟩)
        | .c (.obj k) => (match btOf h.hp k with
          | some (T, sz', l1) => if T = e ∧ sz' = sz ∧ lenOf l1 ≤ 65536 ∧ l1.all (Sg.kb 0) = true then .ok (.e (.c (.obj h.nk)), ⟨(h.nk, .ob (btOb e sz (l1 ++ l2))) :: leave h.hp k, h.nk + 1⟩) else .fail
          | none => .fail)
        | _ => .fail) else .fail
    else .fail
  | _, _ => .fail
theorem lenOf_append (a b : List Sg) : lenOf (a ++ b) = lenOf a + lenOf b := by rw [← cellsOf_length As0, cellsOf_append, List.length_append, cellsOf_length, cellsOf_length]
theorem apA_ok {t e : TypeId} {l0 : List Sg} (hT : SlTy P t e l0) (op : Op) (ls : List Operand) (l : List E) (h : H) (Q : V × H → Prop) (hx : yArgs op = some ls) (hh : (apA t e (lenOf l0) op l h).sat Q) :
    ∃ v h', Q (v, h') ∧ ∀ (ρ : As) (φ : Nat → Nat → Prop) (w : World) (ev : Operand → Value) (o : Oper), o.op = op → ls.map ev = l.map (E.den ρ) → Rep ρ φ h.hp w → hpkb h.hp h.nk = true →
    ∃ ρ' φ' w', (execOp ev o).run P w = .ok (if isUp op then .skip else .value (v.den ρ')) w' ∧ Rep ρ' φ' h'.hp w' ∧ Evo ρ φ h w ρ' φ' h' w' := by
  unfold apA at hh
  split at hh
  · rename_i args ats x y
    have hls : ls = args.toList := by simpa [yArgs] using hx.symm
    subst hls
    split at hh
    · rename_i hats
      obtain ⟨l2, hq, hnews⟩ := newsOf_sound (R.sat_bind hh)
      split at hq
      · rename_i hc
        obtain ⟨hkb2, hone2, hpos, hsm⟩ := hc
        obtain ⟨i, z, hi, hzz, hs, hzs, hby⟩ := hT.info
        have hsz := hT.pos
        have e2 : ats = #[t, t] := Array.ext' (by simpa using hats)
        have close : ∀ (ρ ρ' : As) (l : List Sg), l.all (Sg.kb 0) = true → cellsOf ρ l = cellsOf ρ' l := fun ρ ρ' l hl => cellsOf_agr (n := 0) hl fun j hj => by omega
        have exec : ∀ (ρ : As) (w w' : World) (ev : Operand → Value) (o : Oper) (r : Value), o.op = .call { callee := .builtin .append, args := args, argTypes := ats } → args.toList.map ev = [x, y].map (E.den ρ) →
            (Builtin.append_ #[t, t] o.type #[x.den ρ, y.den ρ]).run P w = .ok r w' → (execOp ev o).run P w = .ok (.value r) w' := fun ρ w w' ev o r hoo hev hrun => by
          have ha : args.map ev = #[x.den ρ, y.den ρ] := Array.ext' (by rw [Array.toList_map, hev]; rfl)
          obtain ⟨dst, op, type, pos, after, guard⟩ := o
          simp only at hoo
          subst hoo
          rw [BigFrame.execOp_builtin]
          show ((do pure (.value (← Builtin.append_ ats type (args.map ev))) : Sem Next)).run P w = _
          rw [ha, e2]
          simp only [Sem.run_bind, hrun, Result.andThen_ok, Sem.run_pure]
        -- the list behind it
        have done : ∀ (l1 : List Sg) (n m : Nat) (ρ ρ2 : As) (w' : World) (v' : Value) (b k : Nat), l1.all (Sg.kb 0) = true → n * lenOf l0 = lenOf l1 → m * lenOf l0 = lenOf l2 → w'.ownsRow b e (lenOf l0) v' (n + m) (cellsOf ρ l1 ++ cellsOf ρ l2) → ∃ g, v'.oneCell' = true ∧ b ≤ g ∧ v'.ownBlock = some g ∧ g < w'.heap.size ∧ (ρ2.r k = g → ρ2.v k = v' → (Blk.ob (btOb e (lenOf l0) (l1 ++ l2))).holds ρ2 w' k fun x => x = g) := by
          intro l1 n m ρ ρ2 w' v' b k hkb1 hn hm ho
          have hkb : (l1 ++ l2).all (Sg.kb 0) = true := by rw [List.all_append, hkb1, hkb2]; rfl
          have hlo : lenOf (l1 ++ l2) = (n + m) * lenOf l0 := by rw [lenOf_append, Nat.add_mul, hn, hm]
          have hel : elems (lenOf l0) (l1 ++ l2) = n + m := by
            have := elems_mul (sz := lenOf l0) (l := l1 ++ l2) ⟨n + m, by rw [hlo, Nat.mul_comm]⟩
            rw [hlo] at this
            exact Nat.eq_of_mul_eq_mul_right hsz this
          have hm0 : m ≠ 0 := fun e0 => by subst e0; omega
          rcases ho.2 with ⟨_, h0⟩ | ⟨g, cap, cur, hv', hb, hg2, hnc, hcm, hcs, htake⟩
          · omega
          · exact ⟨g, by rw [hv']; rfl, hb, by rw [hv']; rfl, (Array.getElem?_eq_some_iff.1 hg2).1, fun hr hv2 => ⟨rfl, ⟨n + m, by rw [hlo, Nat.mul_comm]⟩, fun ρ' => close ρ' ρ2 _ hkb, cap, cur, by rw [hv2, hr, hv', hel], by rw [hr]; exact hg2, by rw [hel]; exact hnc, hcm, hcs, by rw [hlo, htake, cellsOf_append, close ρ2 ρ l1 hkb1, close ρ2 ρ l2 hkb2], fun x => by rw [hr]⟩⟩
        have key : ∀ (l1 : List Sg) (n m : Nat) (ρ : As) (φ : Nat → Nat → Prop) (w : World) (v : Value) (b : Nat) (a : Addr) (c : Nat) (ty : TypeId), lenOf l1 ≤ 65536 → n * lenOf l0 = lenOf l1 → m * lenOf l0 = lenOf l2 → b ≤ w.heap.size → w.ownsRow b e (lenOf l0) v n (cellsOf ρ l1) → y.den ρ = .slice (some a) m c → (∀ j u, (cellsOf ρ l2)[j]? = some u → w.cell? (a.add j) = some u) →
            ∃ v' w', (Builtin.append_ #[t, t] ty #[v, y.den ρ]).run P w = .ok v' w' ∧ w'.ownsRow b e (lenOf l0) v' (n + m) (cellsOf ρ l1 ++ cellsOf ρ l2) ∧ w.grownBy w' v.ownBlock ∧ (v'.ownBlock = v.ownBlock ∨ v'.ownBlock = some w.heap.size) := by
          intro l1 n m ρ φ w v b a c ty hl1 hn hm hb ho hy hcell
          have hn2 : n ≤ 65536 := by
            have : n * 1 ≤ n * lenOf l0 := Nat.mul_le_mul_left n hsz
            omega
          have hm2 : m ≤ 65536 := by
            have : m * 1 ≤ m * lenOf l0 := Nat.mul_le_mul_left m hsz
            omega
          have h48 : (n + m) * i.bytes ≤ 140737488355328 := by
            have : (n + m) * i.bytes ≤ 131072 * 65536 := Nat.mul_le_mul (by omega) hby
            omega
          obtain ⟨v', w', h1, h2, h3, _, h5⟩ := run_append_own_at (P := P) w b t ty e i z (lenOf l0) i.bytes hT.u hi hzz hs rfl hzs hsz v n (cellsOf ρ l1) ho a m c (cellsOf ρ l2) (by rw [cellsOf_length, hm]) hcell (cellsOf_one hone2) (by simp only [maxLen]; omega) h48 hb
          exact ⟨v', w', by rw [hy]; exact h1, h2, h3, h5⟩
        split at hq
        · refine ⟨_, _, hq, fun ρ φ w ev o hoo hev hR hkb => ?_⟩
          obtain ⟨a, m, c, hy, hm, hcell⟩ := hnews ρ φ w hR
          obtain ⟨v', w', hrun, ho, hg, hob⟩ := key [] 0 m ρ φ w (.slice none 0 0) w.heap.size a c o.type (by simp [lenOf]) (by simp [lenOf]) hm (Nat.le_refl _) ⟨by simp [cellsOf], .inl ⟨rfl, rfl⟩⟩ hy hcell
          have hB : RowKit.Below w.heap.size w w' := ⟨hg.os, hg.tape, hg.output, hg.size, fun x hx => hg.block x hx (by simp [Value.ownBlock])⟩
          obtain ⟨g, hone, hb, hown, hlt, hh⟩ := done [] 0 m ρ ρ w' v' w.heap.size h.nk rfl (by simp [lenOf]) hm ho
          have hv1 : (ρ.newV h.nk g v' hone).v h.nk = v' := by simp [As.newV]
          have hr1 : (ρ.newV h.nk g v' hone).r h.nk = g := by simp [As.newV]
          obtain ⟨g2, _, _, hown2, _, hh2⟩ := done [] 0 m ρ (ρ.newV h.nk g v' hone) w' v' w.heap.size h.nk rfl (by simp [lenOf]) hm ho
          have eg : g2 = g := by rw [hown] at hown2; cases hown2; rfl
          subst eg
          have := hR.addF hkb (g := g2) (v := v') hone (b1 := .ob (btOb e (lenOf l0) l2)) (F := fun x => x = g2) (w' := w') (hh2 hr1 hv1) (fun x hx => by subst hx; exact ⟨hb, hlt⟩) hB
          exact ⟨_, _, w', (exec ρ w w' ev o v' hoo hev hrun).trans (by simp [isUp, V.den, E.den, C.den, hv1]), this.1, this.2⟩
        · rename_i k
          split at hq
          · rename_i T sz' l1 hbt
            split at hq
            · rename_i hT1
              obtain ⟨rfl, rfl, hl1, hkb1⟩ := hT1
              obtain ⟨ob0, hk0⟩ : ∃ b0, look h.hp k = some b0 := by
                unfold btOf at hbt
                split at hbt
                · rename_i o ho; exact ⟨_, ho⟩
                · cases hbt
              refine ⟨_, _, hq, fun ρ φ w ev o hoo hev hR hkb => ?_⟩
              obtain ⟨a, m, c, hy, hm, hcell⟩ := hnews ρ φ w hR
              obtain ⟨hz, hcl, cap, cur, hv, hrow, hnc, hcm, hcs, htake, hF⟩ := btOf_I hbt hR
              have hn := elems_mul hz
              have hlo : lenOf l1 = (elems (lenOf l0) l1) * lenOf l0 := hn.symm
              obtain ⟨v', w', hrun, ho, hg, hob⟩ := key l1 (elems (lenOf l0) l1) m ρ φ w (ρ.v k) 0 a c o.type hl1 hn hm (Nat.zero_le _) ⟨by rw [cellsOf_length]; exact hlo, .inr ⟨ρ.r k, cap, cur, hv, Nat.zero_le _, hrow, hnc, hcm, hcs, by rw [hn]; exact htake⟩⟩ hy hcell
              obtain ⟨g, hone, hb, hown, hlt, _⟩ := done l1 (elems (lenOf l0) l1) m ρ ρ w' v' 0 h.nk hkb1 hn hm ho
              obtain ⟨g2, _, _, hown2, _, hh2⟩ := done l1 (elems (lenOf l0) l1) m ρ (ρ.newV h.nk g v' hone) w' v' 0 h.nk hkb1 hn hm ho
              have eg : g2 = g := by rw [hown] at hown2; cases hown2; rfl
              subst eg
              have hv1 : (ρ.newV h.nk g2 v' hone).v h.nk = v' := by simp [As.newV]
              have hr1 : (ρ.newV h.nk g2 v' hone).r h.nk = g2 := by simp [As.newV]
              have hvo : (ρ.v k).ownBlock = some (ρ.r k) := by rw [hv]; rfl
              have := hR.moveF hkb hk0 (g := g2) (v := v') hone (b1 := .ob (btOb T (lenOf l0) (l1 ++ l2))) (F := fun x => x = g2) (w' := w') (hh2 hr1 hv1) (fun x hx => by
                subst hx
                rw [hown, hvo] at hob
                rcases hob with e | e
                · cases e; exact .inl ((hF _).2 rfl)
                · cases e; exact .inr (Nat.le_refl _)) (fun x hx => by subst hx; exact hlt) (fun x hx hno => hg.block x hx (by rw [hvo]; intro e; cases e; exact hno ((hF _).2 rfl))) hg.os hg.tape hg.output hg.size
              have hs0 : (look h.hp k).isSome := by rw [hk0]; rfl
              have hnk : h.nk ≠ k := by have := (hpkb_look hkb hk0).1; omega
              exact ⟨_, _, w', (exec ρ w w' ev o v' hoo hev hrun).trans (by simp [isUp, V.den, E.den, C.den, hv1]), this.1.void hnk hs0, this.2.void hs0⟩
            · exact hq.elim
          · exact hq.elim
        · exact hq.elim
      · exact hq.elim
    · exact hh.elim
  · exact hh.elim
def slY {t e : TypeId} {l0 : List Sg} (hT : SlTy P t e l0) : YE P :=
  orY ⟨mkA t e l0, mkA_ok hT⟩ ⟨apA t e (lenOf l0), apA_ok hT⟩
end
end Go.Sx
namespace Go.Sx
universe u v
/-! ### A tree as one value, and a memory behind it -/
def psOf (h : H) : List PgA :=
  match look h.hp 0 with
  | some (.ob o) => (match o.d with
    | .mem _ ps _ _ => ps
    | _ => [])
  | _ => []
def gPs (r : V × H) : V × List PgA := (r.1, psOf r.2)
def collM : Tr (V × H) → Option (V × List PgA)
  | .leaf x => some (gPs x)
  | .need _ t => collM t
  | .br c t e => (match collM t, collM e with
    | some (v1, p1), some (v2, p2) => (match mrgV c v1 v2 with
      | some v => some (v, bif c then p1 else p2)
      | none => none)
    | _, _ => none)
  | _ => none
theorem collM_sat {K : V × H → Prop} {L : Code → St → (Ex → St → Prop) → Prop} : ∀ {T : Tr (V × H)} {y : V × List PgA}, needsP K T → collM T = some y → T.sat L fun r => r.1 = y.1 ∧ psOf r.2 = y.2 ∧ K r := by
  intro T
  induction T with
  | leaf x => intro y hn h; cases h; exact ⟨rfl, rfl, hn⟩
  | fail => intro y hn h; cases h
  | loop b s k ih => intro y hn h; cases h
  | need p t ih => intro y hn h; exact ⟨hn.1, ih hn.2 h⟩
  | br c t e iht ihe =>
    intro y hn h
    simp only [collM] at h
    split at h
    · rename_i v1 p1 v2 p2 h1 h2
      split at h
      · rename_i v hv
        cases h
        have := mrgV_l hv
        refine ⟨fun hc => ?_, fun hc => ?_⟩
        · subst hc; subst this; exact iht (hn.1 rfl) h1
        · subst hc; subst this; exact ihe (hn.2 rfl) h2
      · cases h
    · cases h
def KPs (MT PG : TypeId) (most : Int) (wl : List (BitVec 32)) (r : V × H) : Prop := look r.2.hp 0 = some (.ob (memOb MT PG most (psOf r.2) wl))
theorem collM_mem {MT PG : TypeId} {most : Int} {wl : List (BitVec 32)} {L : Code → St → (Ex → St → Prop) → Prop} {T : Tr (V × H)} {v : V} {ps : List PgA} (hn : needsP (KPs MT PG most wl) T) (h : collM T = some (v, ps)) :
    T.sat L fun r => r.1 = v ∧ look r.2.hp 0 = some (.ob (memOb MT PG most ps wl)) :=
  Tr.sat_mono (fun r hr => ⟨hr.1, by have := hr.2.2; unfold KPs at this; rw [hr.2.1] at this; exact this⟩) (collM_sat hn h)
theorem slHi (x : BitVec 32) : 0 ≤ (0 : Int) ∧ (0 : Int) ≤ ((4#32 - x % 4#32).toNat : Int) ∧ ((4#32 - x % 4#32).toNat : Int) ≤ 4 ∧ (0 : Int) < 4 := by
  have h : (x % 4#32).toNat < 4 := by rw [BitVec.toNat_umod]; exact Nat.mod_lt _ (by decide)
  have h2 : (4#32 - x % 4#32).toNat = 4 - (x % 4#32).toNat := by
    rw [BitVec.toNat_sub]
    simp only [BitVec.toNat_ofNat, Nat.reducePow, Nat.reduceMod]
    omega
  rw [h2]
  omega
theorem slLo (x : BitVec 32) : 0 ≤ ((3#32 - x % 4#32).toNat : Int) ∧ ((3#32 - x % 4#32).toNat : Int) ≤ 4 ∧ (4 : Int) ≤ 4 ∧ ((3#32 - x % 4#32).toNat : Int) < 4 := by
  have h : (x % 4#32).toNat < 4 := by rw [BitVec.toNat_umod]; exact Nat.mod_lt _ (by decide)
  have h2 : (3#32 - x % 4#32).toNat = 3 - (x % 4#32).toNat := by
    rw [BitVec.toNat_sub]
    simp only [BitVec.toNat_ofNat, Nat.reducePow, Nat.reduceMod]
    omega
  rw [h2]
  omega
theorem swlF (x : BitVec 32) : decide ((4 : Int) < (((((some ((4#32 - x % 4#32).toNat : Int)).getD 4).toNat - 0 : Nat)) : Int)) = false := by
  have := slHi x
  simp only [Option.getD_some, Int.toNat_natCast, Nat.sub_zero, decide_eq_false_iff_not]
  omega
theorem swrF (x : BitVec 32) : decide ((4 : Int) < ((4 - ((some ((3#32 - x % 4#32).toNat : Int)).getD 0).toNat : Nat) : Int)) = false := by
  simp only [decide_eq_false_iff_not]
  omega
theorem swl0 (x : BitVec 32) {i n : Int} (hi : 0 ≤ i) (h : decide (i < n) = true) : 0 ≤ i ∧ i < n := ⟨hi, of_decide_eq_true h⟩
theorem swlI (x : BitVec 32) {i : Nat} (h : decide ((i : Int) < (((((some ((4#32 - x % 4#32).toNat : Int)).getD 4).toNat - 0 : Nat)) : Int)) = true) : i < 4 := by
  have := slHi x
  simp only [Option.getD_some, Int.toNat_natCast, Nat.sub_zero, decide_eq_true_eq] at h
  omega
theorem swrI (x : BitVec 32) {i : Nat} (h : decide ((i : Int) < ((4 - ((some ((3#32 - x % 4#32).toNat : Int)).getD 0).toNat : Nat) : Int)) = true) : 0 + (0 + ((some ((3#32 - x % 4#32).toNat : Int)).getD 0).toNat + i) < 4 := by
  simp only [Option.getD_some, Int.toNat_natCast, decide_eq_true_eq] at h ⊢
  omega
end Go.Sx
namespace Go.Sx
universe u v
/-! ### A memory that is made from what stands in a heap -/
section
variable {P : Program} {S : Sp} {MT PG : TypeId} {most : Int} {ps : List PgA} {wl : List (BitVec 32)} {ρ ρ2 : As} {φ φ2 : Nat → Nat → Prop} {h : H} {w : World}
theorem made_call {f : FuncId} {lh : HP} {n : Nat} {args args' : List E} (km : Nat) (hS : SpOk P S) (hm : P.follows .mixedOrders = true) {fn : Func} (hf : P.funcs[f]? = some fn) (hb : fn.body.isSome = true) (hk : hpkb lh n = true) (ha : args.all (E.kb n) = true) (hN : args.length ≤ fn.ntmps) (hkm : n ≤ km) (os : List Nat)
    (hx : ∀ W G, Ran P fn.ntmps n (fexec P S fn (bodyOf fn) args ⟨pinHp W G lh, n⟩ fun v h => (v, h)) os fun r => r.1 = .e (.c (.ptr km 0 0)) ∧ look r.2.hp km = some (.ob (memOb MT PG most ps wl)) ∧ ∀ k b, look (pinHp W G lh) k = some b → look r.2.hp k = some b)
    (hL : Rep ρ2 φ2 lh w) (hargs : args.map (E.den ρ2) = args'.map (E.den ρ)) (hR : Rep ρ φ h.hp w) (hkb : hpkb h.hp h.nk = true) :
    Calls P f (args'.map (E.den ρ)).toArray w fun e w' => ∃ ρ' φ', e = .returned ((V.e (.c (.ptr h.nk 0 0))).den ρ') ∧ Rep ρ' φ' ((h.nk, .ob (memOb MT PG most ps wl)) :: h.hp) w' ∧ Evo ρ φ h w ρ' φ' ⟨(h.nk, .ob (memOb MT PG most ps wl)) :: h.hp, h.nk + 1⟩ w' := by
  rw [← hargs]
  refine (calls_of_exec (h0 := ⟨pinHp w φ2 lh, n⟩) hS hm hf (body_eq hb) (pinHp_kb hk) ha hN (fun v h => (v, h)) (prune_sat _ _ (hx w φ2).sat) hL.pin).mono fun e w' hp' => ?_
  obtain ⟨v', h', ρ', φ', rfl, ⟨rfl, hlk, hall⟩, hR', hE⟩ := hp'
  -- what is of the heap stays where it is
  have keep : ∀ k b x, look lh k = some b → φ2 k x → φ' k x := fun k b x hb hφ => by
    have hb' : look (pinHp w φ2 lh) k = some (pinB w (φ2 k) b) := by rw [look_pin, hb]; rfl
    have h1 := hR'.ok k _ (hall k _ hb')
    have h0 := hL.ok k b hb
    have hkl := hpkb_look hk hb
    cases b with
    | cells t l =>
      have e1 : x = ρ2.r k := (h0.2 x).1 hφ
      have e2 : ρ'.r k = ρ2.r k := (hE.agr k hkl.1).1
      exact (h1.2 x).2 (e1.trans e2.symm)
    | ob o => exact (h1.2.1 x).2 hφ
  have hB : RowKit.Below w.heap.size w w' := ⟨hE.os, hE.tape, hE.output, hE.size, fun x hx => by
    by_cases hin : ∃ k b, look lh k = some b ∧ φ2 k x
    · obtain ⟨k, b, hb, hφ⟩ := hin
      have hb' : look (pinHp w φ2 lh) k = some (pinB w (φ2 k) b) := by rw [look_pin, hb]; rfl
      have h1 := hR'.ok k _ (hall k _ hb')
      have h0 := hL.ok k b hb
      have hkl := hpkb_look hk hb
      cases b with
      | cells t l =>
        have e1 : x = ρ2.r k := (h0.2 x).1 hφ
        have e2 : ρ'.r k = ρ2.r k := (hE.agr k hkl.1).1
        subst e1
        have h2 := h1.1
        rw [e2, cellsOf_agr hkl.2 hE.agr] at h2
        rw [h2, h0.1]
      | ob o => exact h1.2.2 x ((h1.2.1 x).2 hφ)
    · refine hE.fr x hx fun k b hk' hφ => hin ?_
      rw [look_pin] at hk'
      cases hl : look lh k with
      | none => rw [hl] at hk'; cases hk'
      | some b0 => exact ⟨k, b0, hl, hφ⟩⟩
  have hone : (Value.bool false).oneCell' = true := rfl
  obtain ⟨tv, ρ3, φ3, g1, g2, g3, g4⟩ := hR'.ok km _ hlk
  have := hR.addF hkb (g := ρ'.r km) (v := .bool false) hone (b1 := .ob (memOb MT PG most ps wl)) (F := φ' km) (w' := w') ⟨tv, ρ3, φ3, g1, by rw [g2]; simp [As.newV], g3, g4⟩ (fun x hx => by
      refine ⟨Nat.le_of_not_lt fun hlt => ?_, hR'.lt km _ hlk x hx⟩
      obtain ⟨k0, b0, hk0, hφ0⟩ := hE.own km _ hlk x hx hlt
      rw [look_pin] at hk0
      cases hl : look lh k0 with
      | none => rw [hl] at hk0; cases hk0
      | some b1 =>
        have hkl := hpkb_look hk hl
        have hb' : look (pinHp w φ2 lh) k0 = some (pinB w (φ2 k0) b1) := by rw [look_pin, hl]; rfl
        exact hR'.dis km k0 _ _ hlk (hall k0 _ hb') (by have := hkl.1; omega) x hx (keep k0 b1 x hl hφ0)) hB
  exact ⟨_, _, by simp [V.den, E.den, C.den, As.newV], this.1, this.2⟩

/-- The same keys by other numbers. -/
def As.via (ρ : As) (K : Nat → Nat) : As := ⟨fun j => ρ.r (K j), fun j => ρ.v (K j), fun j => ρ.one (K j)⟩
/-- A heap's part, its keys by other numbers. -/
theorem Rep.via {hp lh : HP} (hR : Rep ρ φ hp w) (K : Nat → Nat) (hok : ∀ j b, look lh j = some b → ∃ b0, look hp (K j) = some b0 ∧ b.holds (ρ.via K) w j (φ (K j))) (hinj : ∀ i j b c, look lh i = some b → look lh j = some c → i ≠ j → K i ≠ K j) : Rep (ρ.via K) (fun j => φ (K j)) lh w :=
  ⟨fun j b hj => (hok j b hj).choose_spec.2, fun j b hj x hx => hR.lt _ _ (hok j b hj).choose_spec.1 x hx, fun i j b c hi hj hne x hx => hR.dis _ _ _ _ (hok i b hi).choose_spec.1 (hok j c hj).choose_spec.1 (hinj i j b c hi hj hne) x hx⟩
theorem bt_via {T sz : Nat} {l : List Sg} {K : Nat → Nat} {j : Nat} {F : Nat → Prop} (h : (Blk.ob (btOb T sz l)).holds ρ w (K j) F) : (Blk.ob (btOb T sz l)).holds (ρ.via K) w j F := by
  obtain ⟨hd, hz, hc, cap, cur, h1, h2, h3, h4, h5, h6, h7⟩ := h
  exact ⟨hd, hz, fun ρ' => (hc ρ').trans (hc _).symm, cap, cur, h1, h2, h3, h4, h5, by rw [hc]; exact h6, h7⟩
end
end Go.Sx
namespace Go.Sx
universe u v
/-! ### The world as it was -/
def oldOb (W : World) : Ob where
  I := fun d _ w _ F => d = .old W ∧ (∀ x, x < W.heap.size → w.heap[x]? = W.heap[x]?) ∧ ∀ x, F x ↔ x < W.heap.size
  d := .old W
  n := 0
  bt := fun _ _ _ h => by cases h
  loc := fun _ _ _ _ _ h hw => ⟨h.1, fun x hx => (hw x ((h.2.2 x).2 hx)).trans (h.2.1 x hx), h.2.2⟩
  agr := fun _ _ _ _ _ h _ _ _ => h
theorem cell_lt {W : World} {a : Addr} {v : Value} (h : W.cell? a = some v) : a.block < W.heap.size := by
  unfold World.cell? at h
  rcases Nat.lt_or_ge a.block W.heap.size with h1 | h1
  · exact h1
  · rw [Array.getElem?_eq_none h1] at h; cases h
theorem is_old {W : World} : IsOld (oldOb W) W := by
  intro ρ w k F h a v hv
  have := h.2.1 a.block (cell_lt hv)
  unfold World.cell? at hv ⊢
  rw [this]; exact hv
def oldH (W : World) : HP := [(0, .ob (oldOb W))]
theorem oldH_rep (W : World) : Rep As0 (fun _ x => x < W.heap.size) (oldH W) W := by
  constructor
  · intro k b hk
    simp only [oldH, look] at hk
    split at hk
    · cases hk; exact ⟨rfl, fun _ _ => rfl, fun _ => Iff.rfl⟩
    · cases hk
  · intro k b hk x hx
    simp only [oldH, look] at hk
    split at hk
    · exact hx
    · cases hk
  · intro k j b b' hk hj hne
    simp only [oldH, look] at hk hj
    split at hk
    · split at hj
      · omega
      · cases hj
    · cases hk
section
variable {P : Program} {S : Sp}
/-- A call from a world as it is. -/
theorem old_call {f : FuncId} {args : List E} {v : V} (hS : SpOk P S) (hm : P.follows .mixedOrders = true) {fn : Func} (hf : P.funcs[f]? = some fn) (hb : fn.body.isSome = true) (ha : args.all (E.kb 0) = true) (hv : v.kb 0 = true) (hN : args.length ≤ fn.ntmps) (W : World)
    (hx : (fexec P S fn (bodyOf fn) args ⟨oldH W, 1⟩ fun v h => (v, look h.hp 0)).sat (LoopT P fn.ntmps 1) fun r => r.1 = v ∧ r.2 = some (.ob (oldOb W))) :
    Calls P f (args.map (E.den As0)).toArray W fun e w' => e = .returned (v.den As0) ∧ RowKit.Below W.heap.size W w' := by
  refine (calls_of_exec (h0 := ⟨oldH W, 1⟩) hS hm hf (body_eq hb) rfl (List.all_eq_true.2 fun e he => E.kb_mono (Nat.zero_le _) (List.all_eq_true.1 ha e he)) hN (fun v h => (v, look h.hp 0)) hx (oldH_rep W)).mono fun e w' hp => ?_
  obtain ⟨v', h', ρ', φ', rfl, ⟨rfl, hl⟩, hR, hE⟩ := hp
  have h0 := hR.ok 0 _ hl
  exact ⟨by rw [V.den_agr (n := 0) (ρ := As0) hv fun j hj => by omega], hE.os, hE.tape, hE.output, hE.size, fun x hx => h0.2.1 x hx⟩
end

/-! ### A loop at a tree's root -/
def Tr.isLoop {α : Type u} : Tr α → Bool
  | .loop _ _ _ => true
  | _ => false
def Tr.loopB {α : Type u} : Tr α → Code
  | .loop b _ _ => b
  | _ => .skip
def Tr.loopS {α : Type u} : Tr α → St
  | .loop _ s _ => s
  | _ => ⟨[], [], ⟨[], 0⟩⟩
def Tr.loopK {α : Type u} : Tr α → Ex → St → Tr α
  | .loop _ _ k => k
  | _ => fun _ _ => .fail
theorem sat_loop {α : Type u} {L : Code → St → (Ex → St → Prop) → Prop} {Q : α → Prop} {T : Tr α} (h : T.isLoop = true) {b : Code} {s : St} (hb : T.loopB = b) (hs : T.loopS = s) (Φ : Ex → St → Prop) (hL : L b s Φ) (hk : ∀ x s', Φ x s' → (T.loopK x s').sat L Q) : T.sat L Q := by
  subst hb hs
  cases T with
  | loop b s k => exact ⟨Φ, hL, hk⟩
  | _ => cases h
theorem sat_rw {α : Type u} {L : Code → St → (Ex → St → Prop) → Prop} {Q : α → Prop} {T T' : Tr α} (h : T = T') (h' : T'.sat L Q) : T.sat L Q := h ▸ h'
end Go.Sx
namespace Go.Sx
universe u v
/-! ### copy -/
/-- Numbers one behind the other, as one row. -/
def mrgW : List Sg → List Sg
  | [] => []
  | .ws f a :: l => (match mrgW l with
    | .ws g b :: r => .ws (fun j => bif decide (j < a) then f j else g (j - a)) (a + b) :: r
    | r => .ws f a :: r)
  | x :: l => x :: mrgW l
theorem mrgW_cells (ρ : As) : ∀ l, cellsOf ρ (mrgW l) = cellsOf ρ l := by
  intro l
  induction l with
  | nil => rfl
  | cons x l ih =>
    cases x with
    | ws f a =>
      simp only [mrgW]
      split
      · rename_i g b r hr
        rw [hr] at ih
        simp only [cellsOf, Sg.cells] at ih ⊢
        rw [← ih, ← List.append_assoc]
        congr 1
        apply List.ext_getElem?
        intro j
        rw [List.getElem?_append]
        simp only [List.length_map, List.length_range]
        by_cases h1 : j < a
        · rw [if_pos h1, List.getElem?_map, List.getElem?_range (by omega), List.getElem?_map, List.getElem?_range h1]
          simp [h1]
        · rw [if_neg h1]
          by_cases h2 : j < a + b
          · rw [List.getElem?_map, List.getElem?_range h2, List.getElem?_map, List.getElem?_range (by omega)]
            simp [h1]
          · rw [List.getElem?_eq_none (by simp; omega), List.getElem?_eq_none (by simp; omega)]
      · simp only [cellsOf, ih]
    | c x => simp only [mrgW, cellsOf, ih]
    | bs f n => simp only [mrgW, cellsOf, ih]
    | bl f n => simp only [mrgW, cellsOf, ih]
    | is f n => simp only [mrgW, cellsOf, ih]
def cpA (P : Program) (op : Op) (l : List E) (h : H) : R (V × H) :=
  match op, l with
  | .call { callee := .builtin .copy, argTypes, .. }, [.c (.sl k off ix dl _), .c (.sl k2 off2 ix2 sl _)] => (match argTypes.toList with
    | [t, _] => (match P.underlying t with
      | some (.slice e) => (match sizeT P e, look h.hp k, look h.hp k2 with
        | some 1, some (.cells T l1), some (.cells _ l2) => (match Sx.cut l2 (off2 + ix2) (min sl dl) with
          | some new => (match repl l1 (off + ix) new with
            | some l' => if (mrgW l').all (Sg.kb h.nk) = true ∧ new.all Sg.isOne = true then .ok (.e (.c (.i (min sl dl : Nat))), ⟨sett h.hp k (.cells T (mrgW l')), h.nk⟩) else .fail
            | none => .fail)
          | none => .fail)
        | _, _, _ => .fail)
      | _ => .fail)
    | _ => .fail)
  | _, _ => .fail
theorem cpA_ok {P : Program} (op : Op) (ls : List Operand) (l : List E) (h : H) (Q : V × H → Prop) (hx : yArgs op = some ls) (hh : (cpA P op l h).sat Q) :
    ∃ v h', Q (v, h') ∧ ∀ (ρ : As) (φ : Nat → Nat → Prop) (w : World) (ev : Operand → Value) (o : Oper), o.op = op → ls.map ev = l.map (E.den ρ) → Rep ρ φ h.hp w → hpkb h.hp h.nk = true →
    ∃ ρ' φ' w', (execOp ev o).run P w = .ok (if isUp op then .skip else .value (v.den ρ')) w' ∧ Rep ρ' φ' h'.hp w' ∧ Evo ρ φ h w ρ' φ' h' w' := by
  unfold cpA at hh
  split at hh
  · rename_i args ats k off ix dl dc k2 off2 ix2 sl sc
    have hls : ls = args.toList := by simpa [yArgs] using hx.symm
    subst hls
    split at hh
    · rename_i t t2 hats
      split at hh
      · rename_i e hu
        split at hh
        · rename_i T l1 T2 l2 hsz hk hk2
          split at hh
          · rename_i new hnew
            split at hh
            · rename_i l' hl'
              split at hh
              · rename_i hc
                refine ⟨_, _, hh, fun ρ φ w ev o hoo hev hR hkb => ?_⟩
                have e2 : ats = #[t, t2] := Array.ext' (by simpa using hats)
                obtain ⟨g1, g2⟩ := cut_sound (ρ := ρ) _ _ _ _ hnew
                obtain ⟨r1, r2, r3⟩ := repl_sound (ρ := ρ) hl'
                have hln : (cellsOf ρ new).length = min sl dl := by rw [cellsOf_length, g2]
                have hrun := run_copy_row P w t t2 o.type e (ρ.r k) (off + ix) dl dc ⟨ρ.r k2, off2 + ix2, none⟩ sl sc (cellsOf ρ l1).toArray T (cellsOf ρ new) hu (by simpa [sizeT] using hsz) (hR.cells hk) hln
                  (fun j v hv => by
                    rw [addr_add, hR.cell hk2]
                    rw [g1, List.getElem?_take] at hv
                    split at hv
                    · rw [List.getElem?_drop] at hv; exact hv
                    · cases hv) (by rw [cellsOf_length]; simp only [List.size_toArray, cellsOf_length]; exact r2) (cellsOf_one hc.2)
                have hcs : (cellsOf ρ l1).toArray.toList.take (off + ix) ++ cellsOf ρ new ++ (cellsOf ρ l1).toArray.toList.drop (off + ix + (cellsOf ρ new).length) = cellsOf ρ (mrgW l') := by
                  rw [mrgW_cells, r1, cellsOf_length]; simp
                rw [hcs, hln] at hrun
                obtain ⟨h1, h2⟩ := write_row hR hk (l' := mrgW l') rfl
                refine ⟨ρ, φ, _, ?_, h1, h2⟩
                have ha : args.map ev = #[.slice (some ⟨ρ.r k, off + ix, none⟩) dl dc, .slice (some ⟨ρ.r k2, off2 + ix2, none⟩) sl sc] := Array.ext' (by rw [Array.toList_map, hev]; rfl)
                obtain ⟨dst, op, type, pos, after, guard⟩ := o
                simp only at hoo
                subst hoo
                rw [BigFrame.execOp_builtin]
                show ((do pure (.value (← Builtin.copy_ ats type (args.map ev))) : Sem Next)).run P w = _
                rw [ha, e2]
                simp only [Sem.run_bind, hrun, Result.andThen_ok, Sem.run_pure]
                rfl
              · exact hh.elim
            · exact hh.elim
          · exact hh.elim
        · exact hh.elim
      · exact hh.elim
    · exact hh.elim
  · exact hh.elim
def cpY (P : Program) : YE P := ⟨cpA P, cpA_ok⟩

/-! ### A way that is gone where every test is reckoned; what it asks for -/
def runN {α : Type u} : Tr α → Option (α × List Prop)
  | .leaf x => some (x, [])
  | .need p t => (match runN t with
    | some r => some (r.1, p :: r.2)
    | none => none)
  | .br c t e => (match c with
    | true => runN t
    | false => runN e)
  | _ => none
def allP : List Prop → Prop
  | [] => True
  | p :: l => p ∧ allP l
theorem runN_sat {α : Type u} {L : Code → St → (Ex → St → Prop) → Prop} : ∀ {T : Tr α} {x : α} {ps : List Prop}, runN T = some (x, ps) → allP ps → T.sat L fun y => y = x := by
  intro T
  induction T with
  | leaf y => intro x ps h _; cases h; rfl
  | need p t ih =>
    intro x ps h hp
    simp only [runN] at h
    split at h
    · rename_i r hr
      cases h
      exact ⟨hp.1, ih hr hp.2⟩
    · cases h
  | br c t e iht ihe =>
    intro x ps h hp
    cases c with
    | true => exact ⟨fun _ => iht h hp, fun hc => (by cases hc)⟩
    | false => exact ⟨fun hc => (by cases hc), fun _ => ihe h hp⟩
  | fail => intro x ps h; cases h
  | loop b s k ih => intro x ps h; cases h
end Go.Sx
