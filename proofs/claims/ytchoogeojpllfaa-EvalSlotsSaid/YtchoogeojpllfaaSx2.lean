/- The executor, part 2. -/
import Derived.Test.YtchoogeojpllfaaSx1
set_option linter.unusedVariables false
set_option linter.unusedSimpArgs false
namespace Go.Sx
universe u v

/-! ### Keys that are known -/
def C.kb (n : Nat) : C → Bool
  | .ptr k _ _ => decide (k < n)
  | .sl k _ _ _ _ => decide (k < n)
  | .obj k => decide (k < n)
  | .fn _ l => l.all fun x => match x with | .inl k => decide (k < n) | .inr _ => true
  | _ => true
def Sg.kb (n : Nat) : Sg → Bool
  | .c x => x.kb n
  | _ => true
def E.kb (n : Nat) : E → Bool
  | .c x => x.kb n
  | .agg l => l.all (Sg.kb n)
def V.kb (n : Nat) : V → Bool
  | .e x => x.kb n
  | .tup l => l.all (E.kb n)
def SV.kb (n : Nat) : SV → Bool
  | .v x => x.kb n
  | .gd _ _ x => x.kb n
def Blk.kb (n : Nat) : Blk → Bool
  | .cells _ l => l.all (Sg.kb n)
  | .ob o => decide (o.n ≤ n)
def hpkb (hp : HP) (n : Nat) : Bool := hp.all fun p => decide (p.1 < n) && p.2.kb n

/-- Two assignments that are one below n. -/
def Agr (n : Nat) (ρ ρ' : As) : Prop := ∀ k, k < n → ρ'.r k = ρ.r k ∧ ρ'.v k = ρ.v k

section
variable {n : Nat} {ρ ρ' : As}
theorem C.den_agr {c : C} (h : c.kb n = true) (hA : Agr n ρ ρ') : c.den ρ' = c.den ρ := by
  cases c <;> simp only [C.kb, decide_eq_true_eq] at h <;> simp only [C.den]
  case ptr k off ix => rw [(hA k h).1]
  case sl k off ix len cap => rw [(hA k h).1]
  case obj k => rw [(hA k h).2]
  case fn f l =>
    congr 2
    apply List.map_congr_left
    intro x hx
    have := List.all_eq_true.1 h x hx
    cases x with
    | inl k => simp only [decide_eq_true_eq] at this; simp only [C.cap, (hA k this).1]
    | inr v => rfl
theorem Sg.cells_agr {g : Sg} (h : g.kb n = true) (hA : Agr n ρ ρ') : g.cells ρ' = g.cells ρ := by
  cases g with
  | c x => simp only [Sg.cells, C.den_agr h hA]
  | _ => rfl
theorem cellsOf_agr {l : List Sg} (h : l.all (Sg.kb n) = true) (hA : Agr n ρ ρ') : cellsOf ρ' l = cellsOf ρ l := by
  induction l with
  | nil => rfl
  | cons g l ih =>
    simp only [List.all_cons, Bool.and_eq_true] at h
    simp only [cellsOf, Sg.cells_agr h.1 hA, ih h.2]
theorem E.den_agr {x : E} (h : x.kb n = true) (hA : Agr n ρ ρ') : x.den ρ' = x.den ρ := by
  cases x with
  | c x => exact C.den_agr h hA
  | agg l => simp only [E.den, cellsOf_agr h hA]
theorem V.den_agr {x : V} (h : x.kb n = true) (hA : Agr n ρ ρ') : x.den ρ' = x.den ρ := by
  cases x with
  | e x => exact E.den_agr h hA
  | tup l =>
    simp only [V.den]
    congr 2
    apply List.map_congr_left
    intro e he
    exact E.den_agr (List.all_eq_true.1 h e he) hA
theorem SlotOk.agr {a : Act} {t : Nat} {sv : SV} (h : SlotOk ρ a t sv) (hk : sv.kb n = true) (hA : Agr n ρ ρ') : SlotOk ρ' a t sv := by
  cases sv with
  | v x => simp only [SlotOk, V.den_agr hk hA]; exact h
  | gd s wt x => simp only [SlotOk, E.den_agr hk hA]; exact h
theorem Blk.holds_agr {w : World} {k : Nat} {F : Nat → Prop} {b : Blk} (h : b.holds ρ w k F) (hb : b.kb n = true) (hk : k < n) (hA : Agr n ρ ρ') : b.holds ρ' w k F := by
  cases b with
  | cells t l => simp only [Blk.holds, cellsOf_agr hb hA, (hA k hk).1]; exact h
  | ob o => exact o.agr _ _ _ _ _ h (fun j hj => hA j (Nat.lt_of_lt_of_le hj (by simpa [Blk.kb] using hb))) (hA k hk).1 (hA k hk).2
theorem Agr.refl (n : Nat) (ρ : As) : Agr n ρ ρ := fun _ _ => ⟨rfl, rfl⟩
theorem Agr.mono {m : Nat} (h : Agr n ρ ρ') (hm : m ≤ n) : Agr m ρ ρ' := fun k hk => h k (Nat.lt_of_lt_of_le hk hm)
theorem Agr.trans {ρ'' : As} (h : Agr n ρ ρ') (h' : Agr n ρ' ρ'') : Agr n ρ ρ'' := fun k hk => ⟨(h' k hk).1.trans (h k hk).1, (h' k hk).2.trans (h k hk).2⟩
end

theorem look_cons {α : Type u} (l : List (Nat × α)) (k n : Nat) (x : α) : look ((k, x) :: l) n = if k = n then some x else look l n := rfl
theorem look_sett {α : Type u} (l : List (Nat × α)) (k n : Nat) (y : α) (h : (look l k).isSome) : look (sett l k y) n = if k = n then some y else look l n := by
  induction l with
  | nil => cases h
  | cons p l ih =>
    obtain ⟨j, x⟩ := p
    simp only [sett]
    by_cases hj : j = k
    · subst hj
      simp only [if_true, look_cons]
      by_cases hn : j = n <;> simp [hn]
    · rw [if_neg hj, look_cons, look_cons]
      rw [look_cons, if_neg hj] at h
      rw [ih h]
      by_cases hn : j = n
      · subst hn; rw [if_pos rfl, if_neg (fun e : k = j => hj e.symm), if_pos rfl]
      · simp [hn]
theorem look_mem {α : Type u} {l : List (Nat × α)} {k : Nat} {x : α} (h : look l k = some x) : (k, x) ∈ l := by
  induction l with
  | nil => cases h
  | cons p l ih =>
    obtain ⟨j, y⟩ := p
    rw [look_cons] at h
    split at h
    · rename_i e; cases h; subst e; exact List.mem_cons_self
    · exact List.mem_cons_of_mem _ (ih h)
theorem hpkb_look {hp : HP} {n k : Nat} {b : Blk} (h : hpkb hp n = true) (hk : look hp k = some b) : k < n ∧ b.kb n = true := by
  have := List.all_eq_true.1 h _ (look_mem hk)
  simpa using this

/-! ### What a piece of code does to the world, told of the blocks that are followed -/
structure Evo (ρ : As) (φ : Nat → Nat → Prop) (h : H) (w : World) (ρ' : As) (φ' : Nat → Nat → Prop) (h' : H) (w' : World) : Prop where
  nk : h.nk ≤ h'.nk
  agr : Agr h.nk ρ ρ'
  own : ∀ k b, look h'.hp k = some b → ∀ x, φ' k x → x < w.heap.size → ∃ k0 b0, look h.hp k0 = some b0 ∧ φ k0 x
  fr : ∀ x, x < w.heap.size → (∀ k b, look h.hp k = some b → ¬ φ k x) → w'.heap[x]? = w.heap[x]?
  os : w'.os = w.os
  tape : w'.tape = w.tape
  output : w'.output = w.output
  size : w.heap.size ≤ w'.heap.size

section
variable {ρ ρ' ρ'' : As} {φ φ' φ'' : Nat → Nat → Prop} {h h' h'' : H} {w w' w'' : World}
theorem Evo.refl (ρ : As) (φ : Nat → Nat → Prop) (h : H) (w : World) : Evo ρ φ h w ρ φ h w :=
  ⟨Nat.le_refl _, Agr.refl _ _, fun k b hk _ hx _ => ⟨k, b, hk, hx⟩, fun _ _ _ => rfl, rfl, rfl, rfl, Nat.le_refl _⟩
theorem Evo.trans (a : Evo ρ φ h w ρ' φ' h' w') (b : Evo ρ' φ' h' w' ρ'' φ'' h'' w'') : Evo ρ φ h w ρ'' φ'' h'' w'' where
  nk := Nat.le_trans a.nk b.nk
  agr := a.agr.trans (b.agr.mono a.nk)
  own := fun k bb hk x hx hlt => by
    obtain ⟨k1, b1, h1, h2⟩ := b.own k bb hk x hx (Nat.lt_of_lt_of_le hlt a.size)
    exact a.own k1 b1 h1 x h2 hlt
  fr := fun x hx hno => by
    rw [b.fr x (Nat.lt_of_lt_of_le hx a.size) (fun k bb hk hp => ?_), a.fr x hx hno]
    obtain ⟨k0, b0, h0, h1⟩ := a.own k bb hk x hp hx
    exact hno k0 b0 h0 h1
  os := b.os.trans a.os
  tape := b.tape.trans a.tape
  output := b.output.trans a.output
  size := Nat.le_trans a.size b.size

theorem Blk.holds_loc {b : Blk} {k : Nat} {F : Nat → Prop} (hb : b.holds ρ w k F) (hw : ∀ x, F x → w'.heap[x]? = w.heap[x]?) : b.holds ρ w' k F := by
  cases b with
  | cells t l => exact ⟨by rw [hw _ ((hb.2 _).2 rfl)]; exact hb.1, hb.2⟩
  | ob o => exact o.loc _ _ _ _ _ hb hw
/-- Below: whatever is followed is as it was. -/
theorem Rep.below {hp : HP} (hR : Rep ρ φ hp w) (hb : RowKit.Below w.heap.size w w') : Rep ρ φ hp w' where
  ok := fun k b hk => Blk.holds_loc (hR.ok k b hk) fun x hx => hb.block x (hR.lt k b hk x hx)
  lt := fun k b hk x hx => Nat.lt_of_lt_of_le (hR.lt k b hk x hx) hb.size
  dis := hR.dis
theorem Evo.below (hb : RowKit.Below w.heap.size w w') : Evo ρ φ h w ρ φ h w' :=
  ⟨Nat.le_refl _, Agr.refl _ _, fun k b hk _ hx _ => ⟨k, b, hk, hx⟩, fun x hx _ => hb.block x hx, hb.os, hb.tape, hb.output, hb.size⟩

/-- A new block. -/
def As.new (ρ : As) (k g : Nat) : As := ⟨fun j => if j = k then g else ρ.r j, ρ.v, ρ.one⟩
def φnew (φ : Nat → Nat → Prop) (k g : Nat) : Nat → Nat → Prop := fun j x => if j = k then x = g else φ j x
theorem As.new_agr (ρ : As) (k g : Nat) : Agr k ρ (ρ.new k g) := fun j hj => ⟨by simp only [As.new]; rw [if_neg (by omega)], rfl⟩

theorem Rep.alloc (hR : Rep ρ φ h.hp w) (hkb : hpkb h.hp h.nk = true) {t : TypeId} {l : List Sg} (hl : l.all (Sg.kb h.nk) = true) {cs : Array Value} (hc : cs = (cellsOf ρ l).toArray) :
    Rep (ρ.new h.nk w.heap.size) (φnew φ h.nk w.heap.size) ((h.nk, .cells t l) :: h.hp) (w.alloc (.cells cs t)) ∧
    Evo ρ φ h w (ρ.new h.nk w.heap.size) (φnew φ h.nk w.heap.size) ⟨(h.nk, .cells t l) :: h.hp, h.nk + 1⟩ (w.alloc (.cells cs t)) := by
  subst hc
  have hA := As.new_agr ρ h.nk w.heap.size
  have hb : RowKit.Below w.heap.size w (w.alloc (.cells (cellsOf ρ l).toArray t)) := (RowKit.Below.refl _ _).alloc (Nat.le_refl _) _
  have hR2 := hR.below hb
  constructor
  · constructor
    · intro k b hk
      simp only [look_cons] at hk
      split at hk
      · rename_i e
        subst e
        cases hk
        refine ⟨?_, fun x => by simp [φnew, As.new]⟩
        rw [cellsOf_agr hl hA]
        simp only [As.new, if_true]
        rw [heap_alloc_new]
      · rename_i e
        have hk' := hpkb_look hkb hk
        have := Blk.holds_agr (hR2.ok k b hk) hk'.2 hk'.1 hA
        have e2 : φnew φ h.nk w.heap.size k = φ k := by funext x; simp only [φnew]; rw [if_neg (by omega)]
        rw [e2]; exact this
    · intro k b hk x hx
      simp only [look_cons] at hk
      simp only [φnew] at hx
      split at hk
      · rename_i e
        subst e
        simp only [if_true] at hx
        subst hx
        simp
      · rename_i e
        rw [if_neg (fun e' => e e'.symm)] at hx
        exact hR2.lt k b hk x hx
    · intro k k' b b' hk hk' hne x hx hx'
      simp only [look_cons] at hk hk'
      simp only [φnew] at hx hx'
      split at hk
      · rename_i e
        subst e
        simp only [if_true] at hx
        rw [if_neg hne] at hk'
        rw [if_neg (fun e => hne e.symm)] at hx'
        have := hR.lt k' b' hk' x hx'
        omega
      · rename_i e
        rw [if_neg (fun e' => e e'.symm)] at hx
        split at hk'
        · rename_i e2
          subst e2
          simp only [if_true] at hx'
          have := hR.lt k b hk x hx
          omega
        · rename_i e2
          rw [if_neg (fun e' => e2 e'.symm)] at hx'
          exact hR.dis k k' b b' hk hk' hne x hx hx'
  · refine ⟨Nat.le_succ _, hA, ?_, fun x hx _ => hb.block x hx, rfl, rfl, rfl, by simp⟩
    intro k b hk x hx hlt
    simp only [look_cons] at hk
    simp only [φnew] at hx
    split at hk
    · rename_i e
      subst e
      simp only [if_true] at hx
      omega
    · rename_i e
      rw [if_neg (fun e' => e e'.symm)] at hx
      exact ⟨k, b, hk, hx⟩

/-- The block of a key, written anew. -/
theorem Rep.writeB (hR : Rep ρ φ h.hp w) {k : Nat} {b0 b1 : Blk} (hk : look h.hp k = some b0) (hF : ∀ x, φ k x ↔ x = ρ.r k)
    (hw : b1.holds ρ w' k (φ k)) (hoth : ∀ x, x ≠ ρ.r k → w'.heap[x]? = w.heap[x]?) (hos : w'.os = w.os) (htp : w'.tape = w.tape) (hout : w'.output = w.output) (hsz : w'.heap.size = w.heap.size) :
    Rep ρ φ (sett h.hp k b1) w' ∧ Evo ρ φ h w ρ φ ⟨sett h.hp k b1, h.nk⟩ w' := by
  have hs : (look h.hp k).isSome := by rw [hk]; rfl
  constructor
  · constructor
    · intro j b hj
      rw [look_sett _ _ _ _ hs] at hj
      split at hj
      · rename_i e
        subst e
        cases hj
        exact hw
      · rename_i e
        refine Blk.holds_loc (hR.ok j b hj) fun x hx => hoth x ?_
        rintro rfl
        exact hR.dis j k b _ hj hk (fun e' => e e'.symm) _ hx ((hF _).2 rfl)
    · intro j b hj x hx
      rw [look_sett _ _ _ _ hs] at hj
      rw [hsz]
      split at hj
      · rename_i e; subst e; exact hR.lt k _ hk x hx
      · exact hR.lt j b hj x hx
    · intro j j' b b' hj hj' hne x hx hx'
      rw [look_sett _ _ _ _ hs] at hj hj'
      have h1 : ∃ b, look h.hp j = some b := by
        split at hj
        · rename_i e; subst e; exact ⟨_, hk⟩
        · exact ⟨_, hj⟩
      have h2 : ∃ b, look h.hp j' = some b := by
        split at hj'
        · rename_i e; subst e; exact ⟨_, hk⟩
        · exact ⟨_, hj'⟩
      obtain ⟨b1, h1⟩ := h1
      obtain ⟨b2, h2⟩ := h2
      exact hR.dis j j' b1 b2 h1 h2 hne x hx hx'
  · refine ⟨Nat.le_refl _, Agr.refl _ _, ?_, ?_, hos, htp, hout, by omega⟩
    · intro j b hj x hx _
      simp only [look_sett _ _ _ _ hs] at hj
      split at hj
      · rename_i e; subst e; exact ⟨_, _, hk, hx⟩
      · exact ⟨_, _, hj, hx⟩
    · intro x hx hno
      refine hoth x ?_
      rintro rfl
      exact hno k _ hk ((hF _).2 rfl)
theorem Rep.write (hR : Rep ρ φ h.hp w) {k : Nat} {t : TypeId} {l l' : List Sg} (hk : look h.hp k = some (.cells t l))
    (hw : w'.heap[ρ.r k]? = some (.cells (cellsOf ρ l').toArray t (0, 0))) (hoth : ∀ x, x ≠ ρ.r k → w'.heap[x]? = w.heap[x]?) (hos : w'.os = w.os) (htp : w'.tape = w.tape) (hout : w'.output = w.output) (hsz : w'.heap.size = w.heap.size) :
    Rep ρ φ (sett h.hp k (.cells t l')) w' ∧ Evo ρ φ h w ρ φ ⟨sett h.hp k (.cells t l'), h.nk⟩ w' := hR.writeB hk (hR.ok k _ hk).2 ⟨hw, (hR.ok k _ hk).2⟩ hoth hos htp hout hsz

end
end Go.Sx
namespace Go.Sx
universe u v

/-! ### Operations that write -/
def Sg.isOne : Sg → Bool
  | .c x => x.isOne
  | _ => true
/-- A list that is the call's own. -/
def btOb (T sz : Nat) (l : List Sg) : Ob where
  I := fun d ρ w k F => d = .bt T sz l ∧ btI T sz l ρ w k F
  d := .bt T sz l
  n := 0
  bt := fun T' sz' l' h ρ w k F hI => by cases h; exact hI.2
  loc := fun ρ w w' k F ⟨hd, hz, hc, cap, cur, h1, h2, h3, h4, h5, h6, h7⟩ hw => ⟨rfl, hz, hc, cap, cur, h1, by rw [hw _ ((h7 _).2 rfl)]; exact h2, h3, h4, h5, h6, h7⟩
  agr := fun ρ ρ' w k F ⟨hd, hz, hc, cap, cur, h1, h2, h3, h4, h5, h6, h7⟩ _ hr hv => ⟨rfl, hz, fun ρ'' => (hc ρ'').trans (hc ρ').symm, cap, cur, by rw [hv, hr]; exact h1, by rw [hr]; exact h2, h3, h4, h5, by rw [hc ρ']; exact h6, by rw [hr]; exact h7⟩
def storeB (P : Program) (m : Bool) (h : H) (k T sz : Nat) (l : List Sg) (t : TypeId) (off ix : Nat) (x : E) : R H :=
  match tk P t, x with
  | some none, .c c => if c.isOne && (sizeT P t == some 1) && c.kb 0 then (setM m l off ix c).bind fun l' => if lenOf l' == lenOf l && l'.all (Sg.kb 0) then .ok ⟨sett h.hp k (.ob (btOb T sz l')), h.nk⟩ else .fail else .fail
  | some (some n), .agg new => (match ix with
    | 0 => if new.all Sg.isOne && (lenOf new == n) then (R.of (repl l off new)).bind fun l' => if lenOf l' == lenOf l && l'.all (Sg.kb 0) then .ok ⟨sett h.hp k (.ob (btOb T sz l')), h.nk⟩ else .fail else .fail
    | _ + 1 => .fail)
  | _, _ => .fail
def storeC (P : Program) (m : Bool) (h : H) (k T : Nat) (l : List Sg) (t : TypeId) (off ix : Nat) (x : E) : R H :=
  match tk P t, x with
  | some none, .c c => if c.isOne && (sizeT P t == some 1) then (setM m l off ix c).bind fun l' => if l'.all (Sg.kb h.nk) then .ok ⟨sett h.hp k (.cells T l'), h.nk⟩ else .fail else .fail
  | some (some n), .agg new => (match ix with
    | 0 => if new.all Sg.isOne && (lenOf new == n) then (R.of (repl l off new)).bind fun l' => if l'.all (Sg.kb h.nk) then .ok ⟨sett h.hp k (.cells T l'), h.nk⟩ else .fail else .fail
    | _ + 1 => .fail)
  | _, _ => .fail
def storeQ (P : Program) (m : Bool) (h : H) (t : TypeId) (addr x : E) : R H :=
  match addr with
  | .c (.ptr k off ix) => (match look h.hp k with
    | some (.cells T l) => storeC P m h k T l t off ix x
    | some (.ob o) => (match o.d with
      | .bt T sz l => storeB P m h k T sz l t off ix x
      | _ => .fail)
    | none => .fail)
  | _ => .fail
def boxQ (h : H) (t : TypeId) (x : E) : R (V × H) :=
  match x with
  | .c c => if c.isOne && c.kb h.nk then .ok (.e (.c (.ptr h.nk 0 0)), ⟨(h.nk, .cells t [.c c]) :: h.hp, h.nk + 1⟩) else .fail
  | .agg l => if l.all (Sg.kb h.nk) then .ok (.e (.c (.ptr h.nk 0 0)), ⟨(h.nk, .cells t l) :: h.hp, h.nk + 1⟩) else .fail
def allocQ (S : Sp) (h : H) (t : TypeId) : R (V × H) :=
  match S.z t with
  | some l => if l.all (Sg.kb h.nk) then .ok (.e (.c (.ptr h.nk 0 0)), ⟨(h.nk, .cells t l) :: h.hp, h.nk + 1⟩) else .fail
  | none => .fail
/-- So many zero values of a type, one behind the other. -/
def zrow (l : List Sg) (n : Nat) : List Sg :=
  match l with
  | [.c (.w x)] => [.ws (fun _ => x) n]
  | [.c (.b x)] => [.bs (fun _ => x) n]
  | [.c (.bool x)] => [.bl (fun _ => x) n]
  | [.c (.i x)] => [.is (fun _ => x) n]
  | l => (List.replicate n l).flatten
/-- The same for what is written out: words each by itself. -/
def frow (l : List Sg) (n : Nat) : List Sg :=
  match l with
  | [.c (.w x)] => (List.replicate n [.c (.w x)]).flatten
  | l => zrow l n
def buildSliceQ (P : Program) (S : Sp) (h : H) (t : TypeId) (len : Nat) (parts : List (Nat × E)) : R (V × H) :=
  match P.underlying t with
  | some (.slice e) => (match S.z e, sizeT P e with
    | some l, some sz => if len = 0 ∧ parts.length = 0 ∧ 0 < sz then .ok (.e (.c (.obj h.nk)), ⟨(h.nk, .ob (btOb e sz [])) :: h.hp, h.nk + 1⟩) else if len * sz ≤ 16777216 ∧ 0 < len * sz then
        (fillS (fun i => some (i * sz, sz)) (frow l len) parts).bind fun l' => if l'.all (Sg.kb h.nk) then .ok (.e (.c (.sl h.nk 0 0 len len)), ⟨(h.nk, .cells e l') :: h.hp, h.nk + 1⟩) else .fail
      else .fail
    | _, _ => .fail)
  | _ => .fail

section
variable {P : Program} {S : Sp} {ρ : As} {φ : Nat → Nat → Prop} {h : H} {w : World} {Q : V × H → Prop}

theorem cellsOf_one {l : List Sg} (hl : l.all Sg.isOne = true) : ∀ v ∈ cellsOf ρ l, v.oneCell' = true := by
  induction l with
  | nil => intro v hv; cases hv
  | cons g l ih =>
    simp only [List.all_cons, Bool.and_eq_true] at hl
    intro v hv
    simp only [cellsOf, List.mem_append] at hv
    rcases hv with hv | hv
    · cases g with
      | c x => simp only [Sg.cells, List.mem_singleton] at hv; subst hv; exact C.one_den hl.1
      | ws f n => simp only [Sg.cells, List.mem_map] at hv; obtain ⟨j, _, rfl⟩ := hv; rfl
      | bs f n => simp only [Sg.cells, List.mem_map] at hv; obtain ⟨j, _, rfl⟩ := hv; rfl
      | bl f n => simp only [Sg.cells, List.mem_map] at hv; obtain ⟨j, _, rfl⟩ := hv; rfl
      | is f n => simp only [Sg.cells, List.mem_map] at hv; obtain ⟨j, _, rfl⟩ := hv; rfl
    · exact ih hl.2 v hv

theorem run_storeVar {t T : TypeId} {v : Value} {g off : Nat} {cur : List Value} (hs : (sizeOf t).run P w = .ok v.cells.size w) (hg : w.heap[g]? = some (.cells cur.toArray T (0, 0)))
    (hle : off + v.cells.size ≤ cur.length) (h1 : ∀ u ∈ v.cells.toList, u.oneCell' = true) :
    (storeVar t ⟨g, off, none⟩ v).run P w = .ok () (w.setRow g (cur.take off ++ (v.cells.toList ++ cur.drop (off + v.cells.size))).toArray) := by
  simp only [storeVar, Sem.run_bind, hs, Result.andThen_ok, ne_eq, not_true, if_false]
  rw [run_storeCells_at P g off T v.cells.toList 0 cur.toArray w hg (by simpa using hle) h1]
  simp [List.append_assoc]

theorem write_row (hR : Rep ρ φ h.hp w) {k : Nat} {T : TypeId} {l l' : List Sg} (hk : look h.hp k = some (.cells T l)) {cs : List Value} (hc : cs = cellsOf ρ l') :
    Rep ρ φ (sett h.hp k (.cells T l')) (w.setRow (ρ.r k) cs.toArray) ∧ Evo ρ φ h w ρ φ ⟨sett h.hp k (.cells T l'), h.nk⟩ (w.setRow (ρ.r k) cs.toArray) := by
  subst hc
  exact hR.write hk (setRow_heap w _ _ _ T _ (hR.cells hk)) (fun x hx => setRow_other w _ _ _ hx) rfl rfl rfl (by simp)

theorem sett_kb {hp : HP} {n k : Nat} {b : Blk} (hh : hpkb hp n = true) (hb : b.kb n = true) : hpkb (sett hp k b) n = true := by
  induction hp with
  | nil => rfl
  | cons p hp ih =>
    obtain ⟨j, x⟩ := p
    simp only [hpkb, List.all_cons, Bool.and_eq_true] at hh
    simp only [sett]
    split
    · simp only [hpkb, List.all_cons, Bool.and_eq_true]; exact ⟨⟨hh.1.1, hb⟩, hh.2⟩
    · simp only [hpkb, List.all_cons, Bool.and_eq_true]; exact ⟨hh.1, ih hh.2⟩
theorem Sg.kb_mono {n m : Nat} (hm : n ≤ m) {g : Sg} (hg : g.kb n = true) : g.kb m = true := by
  cases g with
  | c x =>
    cases x <;> simp only [Sg.kb, C.kb, decide_eq_true_eq] at hg ⊢ <;> first | omega | skip
    refine List.all_eq_true.2 fun x hx => ?_
    have := List.all_eq_true.1 hg x hx
    cases x with
    | inl k => simp only [decide_eq_true_eq] at this ⊢; omega
    | inr v => rfl
  | _ => rfl
theorem Blk.kb_mono {n m : Nat} (hm : n ≤ m) {b : Blk} (hg : b.kb n = true) : b.kb m = true := by
  cases b with
  | cells t l => exact List.all_eq_true.2 fun x hx => Sg.kb_mono hm (List.all_eq_true.1 hg x hx)
  | ob o => simp only [Blk.kb, decide_eq_true_eq] at hg ⊢; omega
theorem hpkb_mono {n m : Nat} (hm : n ≤ m) {hp : HP} (hg : hpkb hp n = true) : hpkb hp m = true :=
  List.all_eq_true.2 fun x hx => by
    have := List.all_eq_true.1 hg x hx
    simp only [Bool.and_eq_true, decide_eq_true_eq] at this ⊢
    exact ⟨by omega, Blk.kb_mono hm this.2⟩
theorem hpkb_cons {hp : HP} {n : Nat} {t : TypeId} {l : List Sg} (hh : hpkb hp n = true) (hl : l.all (Sg.kb n) = true) : hpkb ((n, .cells t l) :: hp) (n + 1) = true := by
  simp only [hpkb, List.all_cons, Bool.and_eq_true, decide_eq_true_eq]
  exact ⟨⟨by omega, Blk.kb_mono (Nat.le_succ n) (b := .cells t l) hl⟩, hpkb_mono (Nat.le_succ n) hh⟩

theorem storeC_sound {m : Bool} (hR : Rep ρ φ h.hp w) (hkb : hpkb h.hp h.nk = true) {k T : Nat} {l : List Sg} (hk : look h.hp k = some (.cells T l)) {t : TypeId} {off ix : Nat} {x : E} {Q : H → Prop} (hs : (storeC P m h k T l t off ix x).sat Q) :
    ∃ h' w', Q h' ∧ (Instr.storeAt t (.pointer (some ⟨ρ.r k, off + ix, none⟩)) (x.den ρ)).run P w = .ok () w' ∧ Rep ρ φ h'.hp w' ∧ Evo ρ φ h w ρ φ h' w' ∧ hpkb h'.hp h'.nk = true := by
  unfold storeC at hs
  split at hs
  · rename_i c ht
    split at hs
    · rename_i hone
      simp only [Bool.and_eq_true, beq_iff_eq] at hone
      obtain ⟨l', hl', he, hlt⟩ := setM_sound (ρ := ρ) _ _ _ _ _ (R.sat_bind hs)
      split at hl'
      · rename_i hkb'
        have hcell : (E.den ρ (.c c)).cells = #[C.den ρ c] := cells_one (C.one_den hone.1)
        have hrun := run_storeVar (P := P) (v := E.den ρ (.c c)) (off := off + ix) (by rw [hcell]; exact sizeT_run hone.2 w) (hR.cells hk) (by rw [hcell]; exact hlt) (by rw [hcell]; intro u hu; simp at hu; subst hu; exact C.one_den hone.1)
        rw [hcell] at hrun
        have hcs : (cellsOf ρ l).take (off + ix) ++ (#[C.den ρ c].toList ++ (cellsOf ρ l).drop (off + ix + #[C.den ρ c].size)) = cellsOf ρ l' := by
          rw [he, List.set_eq_take_append_cons_drop, if_pos hlt]; simp
        obtain ⟨h1, h2⟩ := write_row hR hk hcs
        refine ⟨_, _, hl', ?_, h1, h2, sett_kb hkb hkb'⟩
        simp only [Instr.storeAt, E.den, Instr.sureAddr, Sem.run_bind, Sem.run_pure, Result.andThen_ok]
        exact hrun
      · exact hl'.elim
    · exact hs.elim
  · rename_i n new ht
    split at hs
    · split at hs
      · rename_i hone
        simp only [Bool.and_eq_true, beq_iff_eq] at hone
        obtain ⟨l', hl', hq⟩ := R.sat_of (R.sat_bind hs)
        split at hq
        · rename_i hkb'
          obtain ⟨h1, h2, h3⟩ := repl_sound (ρ := ρ) hl'
          obtain ⟨_, hsz⟩ := tk_agg ht w
          have hsize : (E.den ρ (.agg new)).cells.size = n := by simp [E.den, Value.cells, cellsOf_length, hone.2]
          have hlist : (E.den ρ (.agg new)).cells.toList = cellsOf ρ new := rfl
          have hrun := run_storeVar (P := P) (v := E.den ρ (.agg new)) (off := off) (by rw [hsize]; exact hsz) (hR.cells hk) (by rw [hsize, cellsOf_length, ← hone.2]; exact h2) (by rw [hlist]; exact cellsOf_one hone.1)
          have hcs : (cellsOf ρ l).take off ++ ((E.den ρ (.agg new)).cells.toList ++ (cellsOf ρ l).drop (off + (E.den ρ (.agg new)).cells.size)) = cellsOf ρ l' := by
            rw [hlist, hsize, ← hone.2, h1]
          obtain ⟨h4, h5⟩ := write_row hR hk hcs
          refine ⟨_, _, hq, ?_, h4, h5, sett_kb hkb hkb'⟩
          simp only [Instr.storeAt, Instr.sureAddr, Sem.run_bind, Sem.run_pure, Result.andThen_ok, Nat.add_zero]
          exact hrun
        · exact hq.elim
      · exact hs.elim
    · exact hs.elim
  · exact hs.elim
/-- A list's cell turned. -/
theorem write_bt (hR : Rep ρ φ h.hp w) {k T sz : Nat} {o : Ob} {l l' : List Sg} (hk : look h.hp k = some (.ob o)) (hd : o.d = .bt T sz l) {off : Nat} {vs : List Value} (hlen : lenOf l' = lenOf l) (hkb : l'.all (Sg.kb 0) = true) (hle : off + vs.length ≤ lenOf l)
    (he : cellsOf ρ l' = (cellsOf ρ l).take off ++ (vs ++ (cellsOf ρ l).drop (off + vs.length))) :
    ∃ cur : List Value, w.heap[ρ.r k]? = some (.cells cur.toArray T (0, 0)) ∧ lenOf l ≤ cur.length ∧ Rep ρ φ (sett h.hp k (.ob (btOb T sz l'))) (w.setRow (ρ.r k) (cur.take off ++ (vs ++ cur.drop (off + vs.length))).toArray) ∧
      Evo ρ φ h w ρ φ ⟨sett h.hp k (.ob (btOb T sz l')), h.nk⟩ (w.setRow (ρ.r k) (cur.take off ++ (vs ++ cur.drop (off + vs.length))).toArray) := by
  obtain ⟨hz, hc, cap, cur, h1, h2, h3, h4, h5, h6, h7⟩ := o.bt _ _ _ hd ρ w k _ (hR.ok k _ hk)
  have hcl : lenOf l ≤ cur.toList.length := by
    have := congrArg List.length h6
    rw [List.length_take, cellsOf_length] at this
    omega
  refine ⟨cur.toList, h2, hcl, ?_⟩
  have hlv : vs.length = vs.length := rfl
  refine hR.writeB hk h7 ?_ (fun x hx => setRow_other w _ _ _ hx) rfl rfl rfl (by simp)
  refine ⟨rfl, by rw [hlen]; exact hz, fun ρ' => cellsOf_agr (n := 0) hkb fun j hj => by omega, cap, _, by rw [show elems sz l' = elems sz l by unfold elems; split <;> rw [hlen]]; exact h1, setRow_heap w _ _ _ T _ h2, by rw [show elems sz l' = elems sz l by unfold elems; split <;> rw [hlen]]; exact h3, h4, ?_, ?_, h7⟩
  · rw [← h5]
    simp only [List.size_toArray, List.length_append, List.length_take, List.length_drop, Array.length_toList]
    have : lenOf l ≤ cur.size := by simpa using hcl
    omega
  · have e1 : (cellsOf ρ l).take off = cur.toList.take off := by rw [← h6, List.take_take]; congr 1; omega
    have e2 : (cellsOf ρ l).drop (off + vs.length) = (cur.toList.drop (off + vs.length)).take (lenOf l - (off + vs.length)) := by rw [← h6, List.drop_take]
    rw [he, e1, e2, hlen]
    simp only []
    have l1 : (cur.toList.take off).length = off := by rw [List.length_take]; omega
    rw [List.take_append, List.take_append, l1, List.take_of_length_le (l := cur.toList.take off) (by rw [l1]; omega), List.take_of_length_le (l := vs) (by omega)]
    congr 3
    omega
theorem storeB_sound {m : Bool} (hR : Rep ρ φ h.hp w) (hkb : hpkb h.hp h.nk = true) {k T sz : Nat} {o : Ob} {l : List Sg} (hk : look h.hp k = some (.ob o)) (hd : o.d = .bt T sz l) {t : TypeId} {off ix : Nat} {x : E} {Q : H → Prop} (hs : (storeB P m h k T sz l t off ix x).sat Q) :
    ∃ h' w', Q h' ∧ (Instr.storeAt t (.pointer (some ⟨ρ.r k, off + ix, none⟩)) (x.den ρ)).run P w = .ok () w' ∧ Rep ρ φ h'.hp w' ∧ Evo ρ φ h w ρ φ h' w' ∧ hpkb h'.hp h'.nk = true := by
  have hsk : ∀ l', hpkb (sett h.hp k (.ob (btOb T sz l'))) h.nk = true := fun l' => sett_kb hkb (by simp [Blk.kb, btOb])
  unfold storeB at hs
  split at hs
  · rename_i c ht
    split at hs
    · rename_i hone
      simp only [Bool.and_eq_true, beq_iff_eq] at hone
      obtain ⟨l', hl', he, hlt⟩ := setM_sound (ρ := ρ) _ _ _ _ _ (R.sat_bind hs)
      split at hl'
      · rename_i hkb'
        simp only [Bool.and_eq_true, beq_iff_eq] at hkb'
        have hcell : (E.den ρ (.c c)).cells = #[C.den ρ c] := cells_one (C.one_den hone.1.1)
        rw [cellsOf_length] at hlt
        obtain ⟨cur, hc1, hc2, h1, h2⟩ := write_bt (vs := [C.den ρ c]) (off := off + ix) hR hk hd hkb'.1 hkb'.2 (by simp; omega) (by rw [he, List.set_eq_take_append_cons_drop, if_pos (by rw [cellsOf_length]; exact hlt)]; simp)
        have hrun := run_storeVar (P := P) (v := E.den ρ (.c c)) (off := off + ix) (by rw [hcell]; exact sizeT_run hone.1.2 w) hc1 (by rw [hcell]; simp; omega) (by rw [hcell]; intro u hu; simp at hu; subst hu; exact C.one_den hone.1.1)
        rw [hcell] at hrun
        refine ⟨_, _, hl', ?_, h1, h2, hsk _⟩
        simp only [Instr.storeAt, E.den, Instr.sureAddr, Sem.run_bind, Sem.run_pure, Result.andThen_ok]
        exact hrun
      · exact hl'.elim
    · exact hs.elim
  · rename_i n new ht
    split at hs
    · split at hs
      · rename_i hone
        simp only [Bool.and_eq_true, beq_iff_eq] at hone
        obtain ⟨l', hl', hq⟩ := R.sat_of (R.sat_bind hs)
        split at hq
        · rename_i hkb'
          simp only [Bool.and_eq_true, beq_iff_eq] at hkb'
          obtain ⟨g1, g2, g3⟩ := repl_sound (ρ := ρ) hl'
          obtain ⟨_, hsz⟩ := tk_agg ht w
          have hsize : (E.den ρ (.agg new)).cells.size = n := by simp [E.den, Value.cells, cellsOf_length, hone.2]
          have hlist : (E.den ρ (.agg new)).cells.toList = cellsOf ρ new := rfl
          have hnl : (cellsOf ρ new).length = lenOf new := cellsOf_length _ _
          obtain ⟨cur, hc1, hc2, h1, h2⟩ := write_bt (vs := cellsOf ρ new) (off := off) hR hk hd hkb'.1 hkb'.2 (by rw [hnl]; exact g2) (by rw [g1, hnl])
          have hrun := run_storeVar (P := P) (v := E.den ρ (.agg new)) (off := off) (by rw [hsize]; exact hsz) hc1 (by rw [hsize]; omega) (by rw [hlist]; exact cellsOf_one hone.1)
          rw [hlist, hsize, ← hone.2, ← hnl] at hrun
          refine ⟨_, _, hq, ?_, h1, h2, hsk _⟩
          simp only [Instr.storeAt, Instr.sureAddr, Sem.run_bind, Sem.run_pure, Result.andThen_ok, Nat.add_zero]
          exact hrun
        · exact hq.elim
      · exact hs.elim
    · exact hs.elim
  · exact hs.elim
theorem storeQ_sound {m : Bool} (hR : Rep ρ φ h.hp w) (hkb : hpkb h.hp h.nk = true) {t : TypeId} {addr x : E} {Q : H → Prop} (hs : (storeQ P m h t addr x).sat Q) :
    ∃ h' w', Q h' ∧ (Instr.storeAt t (addr.den ρ) (x.den ρ)).run P w = .ok () w' ∧ Rep ρ φ h'.hp w' ∧ Evo ρ φ h w ρ φ h' w' ∧ hpkb h'.hp h'.nk = true := by
  unfold storeQ at hs
  split at hs
  · rename_i k off ix
    split at hs
    · rename_i T l hk
      exact storeC_sound hR hkb hk hs
    · rename_i o hk
      split at hs
      · rename_i T sz l hd
        exact storeB_sound hR hkb hk hd hs
      · exact hs.elim
    · exact hs.elim
  · exact hs.elim

/-- What follows a new block. -/
theorem new_sound (hR : Rep ρ φ h.hp w) (hkb : hpkb h.hp h.nk = true) {t : TypeId} {l : List Sg} (hl : l.all (Sg.kb h.nk) = true) {cs : Array Value} (hc : cs = (cellsOf ρ l).toArray) :
    ∃ ρ' φ', ρ'.r h.nk = w.heap.size ∧ Rep ρ' φ' ((h.nk, .cells t l) :: h.hp) (w.alloc (.cells cs t)) ∧ Evo ρ φ h w ρ' φ' ⟨(h.nk, .cells t l) :: h.hp, h.nk + 1⟩ (w.alloc (.cells cs t)) ∧
      hpkb ((h.nk, .cells t l) :: h.hp) (h.nk + 1) = true := by
  obtain ⟨h1, h2⟩ := hR.alloc hkb hl hc
  exact ⟨_, _, by simp [As.new], h1, h2, hpkb_cons hkb hl⟩

/-- An operation that makes a block: its value, in the world behind it. -/
def Makes (P : Program) (ρ : As) (φ : Nat → Nat → Prop) (h : H) (w : World) (m : Sem Value) (Q : V × H → Prop) : Prop :=
  ∃ v h' w' ρ' φ', Q (v, h') ∧ m.run P w = .ok (v.den ρ') w' ∧ Rep ρ' φ' h'.hp w' ∧ Evo ρ φ h w ρ' φ' h' w' ∧ hpkb h'.hp h'.nk = true

theorem boxQ_sound (hR : Rep ρ φ h.hp w) (hkb : hpkb h.hp h.nk = true) {t : TypeId} {x : E} (hs : (boxQ h t x).sat Q) : Makes P ρ φ h w (Instr.box t (x.den ρ)) Q := by
  unfold boxQ at hs
  split at hs
  · rename_i c
    split at hs
    · rename_i hc
      simp only [Bool.and_eq_true] at hc
      obtain ⟨ρ', φ', hr, h1, h2, h3⟩ := new_sound (t := t) hR hkb (l := [.c c]) (by simpa [Sg.kb] using hc.2) (cs := (E.den ρ (.c c)).cells) (by rw [cells_one (v := E.den ρ (.c c)) (C.one_den hc.1)]; rfl)
      refine ⟨_, _, _, ρ', φ', hs, ?_, h1, h2, h3⟩
      simp only [Instr.box, newVar, newRow, Sem.run_bind, run_newObj, Result.andThen_ok, Sem.run_pure, V.den, E.den, den_ptr, hr]
      rfl
    · exact hs.elim
  · rename_i l
    split at hs
    · rename_i hc
      obtain ⟨ρ', φ', hr, h1, h2, h3⟩ := new_sound (t := t) hR hkb hc (cs := (E.den ρ (.agg l)).cells) rfl
      refine ⟨_, _, _, ρ', φ', hs, ?_, h1, h2, h3⟩
      simp only [Instr.box, newVar, newRow, Sem.run_bind, run_newObj, Result.andThen_ok, Sem.run_pure, V.den, E.den, den_ptr, hr]
      rfl
    · exact hs.elim

theorem zero_run {t : TypeId} {l : List Sg} (hZ : Z1 P t l) : ∃ z, (zeroValue t).run P w = .ok z w ∧ (sizeOf t).run P w = .ok (lenOf l) w ∧ ∀ ρ, z.cells.toList = cellsOf ρ l := by
  obtain ⟨i, z, hi, hz, hs, hc⟩ := hZ.is
  exact ⟨z, by simp [zeroValue, typeInfo, hi, hz], by simp [sizeOf, typeInfo, hi, hs], hc⟩

theorem allocQ_sound (hZ : ∀ t l, S.z t = some l → Z1 P t l) (hR : Rep ρ φ h.hp w) (hkb : hpkb h.hp h.nk = true) {t : TypeId} (hs : (allocQ S h t).sat Q) : Makes P ρ φ h w (Instr.alloc t true (.tuple #[])) Q := by
  unfold allocQ at hs
  split at hs
  · rename_i l hl
    split at hs
    · rename_i hc
      obtain ⟨z, hz, _, hzc⟩ := zero_run (P := P) (w := w) (hZ _ _ hl)
      obtain ⟨ρ', φ', hr, h1, h2, h3⟩ := new_sound (t := t) hR hkb hc (cs := z.cells) (Array.ext' (hzc ρ))
      refine ⟨_, _, _, ρ', φ', hs, ?_, h1, h2, h3⟩
      simp only [Instr.alloc, newVar, newRow, Sem.run_bind, hz, run_newObj, Result.andThen_ok, Sem.run_pure, V.den, E.den, den_ptr, hr]
      rfl
    · exact hs.elim
  · exact hs.elim

theorem rep_flatten (l : List Value) (n : Nat) (hl : l ≠ []) : ((Array.range (n * l.length)).map fun j => l.toArray[j % l.toArray.size]!).toList = (List.replicate n l).flatten := by
  have hp : 0 < l.length := List.length_pos_iff.2 hl
  induction n with
  | zero => simp
  | succ n ih =>
    rw [List.replicate_succ', List.flatten_append]
    rw [← ih]
    apply List.ext_getElem?
    intro j
    simp only [Array.toList_map, Array.toList_range, List.size_toArray, List.getElem?_map, List.flatten_cons, List.flatten_nil, List.append_nil]
    rw [List.getElem?_append]
    by_cases h1 : j < n * l.length
    · simp only [List.length_map, List.length_range, h1, if_true, List.getElem?_map]
      rw [List.getElem?_range h1, List.getElem?_range (by rw [Nat.succ_mul]; omega)]
    · simp only [List.length_map, List.length_range, h1, if_false]
      by_cases h2 : j < (n + 1) * l.length
      · rw [List.getElem?_range h2]
        have h3 : j - n * l.length < l.length := by rw [Nat.succ_mul] at h2; omega
        rw [List.getElem?_eq_getElem h3]
        simp only [Option.map_some]
        congr 1
        have h4 : j % l.length = j - n * l.length := by
          have : j = (j - n * l.length) + l.length * n := by rw [Nat.mul_comm l.length]; omega
          rw [this, Nat.add_mul_mod_self_left, Nat.mod_eq_of_lt h3]
          rw [Nat.mul_comm l.length]; omega
        rw [h4]
        simp [h3]
      · rw [List.getElem?_eq_none (by simp; omega), List.getElem?_eq_none (by rw [Nat.succ_mul] at h2; omega)]
        rfl

theorem flatten_cells (l : List Sg) (n : Nat) : cellsOf ρ ((List.replicate n l).flatten) = (List.replicate n (cellsOf ρ l)).flatten := by
  induction n with
  | zero => rfl
  | succ n ih => simp only [List.replicate_succ, List.flatten_cons, cellsOf_append, ih]
theorem zrow_cells (l : List Sg) (n : Nat) : cellsOf ρ (zrow l n) = (List.replicate n (cellsOf ρ l)).flatten := by
  have one : ∀ v : Value, (List.range n).map (fun _ => v) = (List.replicate n [v]).flatten := fun v => by
    induction n with
    | zero => rfl
    | succ n ih => rw [List.range_succ, List.map_append, ih, List.replicate_succ', List.flatten_append]; rfl
  unfold zrow
  split
  · simp only [cellsOf, Sg.cells, List.append_nil, C.den]; exact one _
  · simp only [cellsOf, Sg.cells, List.append_nil, C.den]; exact one _
  · simp only [cellsOf, Sg.cells, List.append_nil, C.den]; exact one _
  · simp only [cellsOf, Sg.cells, List.append_nil, C.den]; exact one _
  · exact flatten_cells _ _

def As.newV (ρ : As) (k g : Nat) (v : Value) (hv : v.oneCell' = true) : As := ⟨fun j => if j = k then g else ρ.r j, fun j => if j = k then v else ρ.v j, fun j => by split; exact hv; exact ρ.one j⟩
theorem As.newV_agr (ρ : As) (k g : Nat) (v : Value) (hv : v.oneCell' = true) : Agr k ρ (ρ.newV k g v hv) := fun j hj => ⟨if_neg (by omega), if_neg (by omega)⟩
/-- A new object. -/
theorem Rep.allocOb (hR : Rep ρ φ h.hp w) (hkb : hpkb h.hp h.nk = true) {v : Value} (hv : v.oneCell' = true) {o : Obj} {b1 : Blk} (hb1 : b1.holds (ρ.newV h.nk w.heap.size v hv) (w.alloc o) h.nk fun x => x = w.heap.size) :
    Rep (ρ.newV h.nk w.heap.size v hv) (φnew φ h.nk w.heap.size) ((h.nk, b1) :: h.hp) (w.alloc o) ∧
    Evo ρ φ h w (ρ.newV h.nk w.heap.size v hv) (φnew φ h.nk w.heap.size) ⟨(h.nk, b1) :: h.hp, h.nk + 1⟩ (w.alloc o) := by
  have hA := As.newV_agr ρ h.nk w.heap.size v hv
  have hb : RowKit.Below w.heap.size w (w.alloc o) := (RowKit.Below.refl _ _).alloc (Nat.le_refl _) _
  have hR2 := hR.below hb
  constructor
  · constructor
    · intro k b hk
      simp only [look_cons] at hk
      split at hk
      · rename_i e
        subst e
        cases hk
        rw [show φnew φ h.nk w.heap.size h.nk = fun x => x = w.heap.size by funext x; simp [φnew]]
        exact hb1
      · rename_i e
        have hk' := hpkb_look hkb hk
        have := Blk.holds_agr (hR2.ok k b hk) hk'.2 hk'.1 hA
        have e2 : φnew φ h.nk w.heap.size k = φ k := by funext x; simp only [φnew]; rw [if_neg (by omega)]
        rw [e2]; exact this
    · intro k b hk x hx
      simp only [look_cons] at hk
      simp only [φnew] at hx
      split at hk
      · rename_i e
        subst e
        simp only [if_true] at hx
        subst hx
        simp
      · rename_i e
        rw [if_neg (fun e' => e e'.symm)] at hx
        exact hR2.lt k b hk x hx
    · intro k k' b b' hk hk' hne x hx hx'
      simp only [look_cons] at hk hk'
      simp only [φnew] at hx hx'
      split at hk
      · rename_i e
        subst e
        simp only [if_true] at hx
        rw [if_neg hne] at hk'
        rw [if_neg (fun e => hne e.symm)] at hx'
        have := hR.lt k' b' hk' x hx'
        omega
      · rename_i e
        rw [if_neg (fun e' => e e'.symm)] at hx
        split at hk'
        · rename_i e2
          subst e2
          simp only [if_true] at hx'
          have := hR.lt k b hk x hx
          omega
        · rename_i e2
          rw [if_neg (fun e' => e2 e'.symm)] at hx'
          exact hR.dis k k' b b' hk hk' hne x hx hx'
  · refine ⟨Nat.le_succ _, hA, ?_, fun x hx _ => hb.block x hx, rfl, rfl, rfl, by simp⟩
    intro k b hk x hx hlt
    simp only [look_cons] at hk
    simp only [φnew] at hx
    split at hk
    · rename_i e
      subst e
      simp only [if_true] at hx
      omega
    · rename_i e
      rw [if_neg (fun e' => e e'.symm)] at hx
      exact ⟨k, b, hk, hx⟩

theorem frow_cells (l : List Sg) (n : Nat) : cellsOf ρ (frow l n) = (List.replicate n (cellsOf ρ l)).flatten := by
  unfold frow
  split
  · exact flatten_cells _ _
  · exact zrow_cells _ _
theorem buildSliceQ_sound (hZ : ∀ t l, S.z t = some l → Z1 P t l) (hR : Rep ρ φ h.hp w) (hkb : hpkb h.hp h.nk = true) {t : TypeId} {len : Nat} {parts : List (Nat × E)} (hs : (buildSliceQ P S h t len parts).sat Q) :
    Makes P ρ φ h w (Instr.buildSlice t len (parts.map fun p => (p.1, p.2.den ρ)).toArray) Q := by
  unfold buildSliceQ at hs
  split at hs
  · rename_i e hu
    split at hs
    · rename_i l sz hl hsz
      split at hs
      · rename_i hb
        obtain ⟨rfl, hp0, hsz0⟩ := hb
        have hp : parts = [] := List.length_eq_zero_iff.1 hp0
        subst hp
        have hone : (Value.slice (some ⟨w.heap.size, 0, none⟩) 0 0).oneCell' = true := rfl
        have hr : (ρ.newV h.nk w.heap.size _ hone).r h.nk = w.heap.size := by simp [As.newV]
        have hv : (ρ.newV h.nk w.heap.size _ hone).v h.nk = .slice (some ⟨w.heap.size, 0, none⟩) 0 0 := by simp [As.newV]
        have he0 : elems sz [] = 0 := by unfold elems; split <;> simp [lenOf]
        obtain ⟨h1, h2⟩ := hR.allocOb hkb hone (o := .cells #[] e) (b1 := .ob (btOb e sz [])) ⟨rfl, ⟨0, rfl⟩, fun _ => rfl, 0, #[], by rw [hv, hr, he0], by rw [hr]; exact (MapKept.heap_alloc w _).1, by rw [he0]; exact Nat.le_refl _, Nat.zero_le _, by simp, by simp [lenOf, cellsOf], fun x => by rw [hr]⟩
        refine ⟨_, _, _, _, _, hs, ?_, h1, h2, ?_⟩
        · simp only [Instr.buildSlice, Sem.run_bind, run_underlying hu, Result.andThen_ok, sizeT_run hsz]
          simp [Instr.fill, newRow, V.den, E.den, C.den, hv]
          congr 2
          exact Array.ext' (by simp)
        · simp only [hpkb, List.all_cons, Bool.and_eq_true, decide_eq_true_eq]
          exact ⟨⟨by omega, by simp [Blk.kb, btOb]⟩, hpkb_mono (Nat.le_succ _) hkb⟩
      split at hs
      · rename_i hb
        obtain ⟨l', hq, hf⟩ := fillS_sound (ρ := ρ) _ _ _ _ (R.sat_bind hs)
        split at hq
        · rename_i hc
          obtain ⟨z, hz, hzs, hzc⟩ := zero_run (P := P) (w := w) (hZ _ _ hl)
          have hsz2 : sz = lenOf l := by
            have := sizeT_run hsz w
            rw [hzs] at this
            injection this with h1; exact h1.symm
          obtain ⟨ρ', φ', hr, h1, h2, h3⟩ := new_sound (t := e) hR hkb hc (cs := (cellsOf ρ l').toArray) rfl
          refine ⟨_, _, _, ρ', φ', hq, ?_, h1, h2, h3⟩
          have hne : cellsOf ρ l ≠ [] := fun e0 => by
            have := congrArg List.length e0
            rw [cellsOf_length] at this
            simp only [List.length_nil] at this
            rw [hsz2, this] at hb
            omega
          have hbase : ((Array.range (len * sz)).map fun j => z.cells[j % z.cells.size]!) = (cellsOf ρ (frow l len)).toArray := by
            apply Array.ext'
            rw [frow_cells, ← rep_flatten _ _ hne, cellsOf_length, hsz2]
            have : z.cells = (cellsOf ρ l).toArray := Array.ext' (hzc ρ)
            rw [this]
          simp only [Instr.buildSlice, Sem.run_bind, run_underlying hu, Result.andThen_ok, sizeT_run hsz]
          rw [if_neg (by have := hb.1; simp only [Nat.reducePow]; omega), if_neg (by omega)]
          simp only [Sem.run_bind, hz, Sem.run_pure, Result.andThen_ok]
          rw [hbase, hf]
          simp only [newRow, Sem.run_bind, run_newObj, Result.andThen_ok, Sem.run_pure, V.den, E.den, den_sl, hr]
          rfl
        · exact hq.elim
      · exact hs.elim
    · exact hs.elim
  · exact hs.elim
end
end Go.Sx
namespace Go.Sx
universe u v

/-! ### Calls -/
/-- A function that is entered. -/
def Enters (P : Program) (f : FuncId) : Prop := ∃ fn, P.funcs[f]? = some fn ∧ fn.body.isNone = false ∧ (fn.name == "runtime.NumGoroutine") = false
/-- Operations that the executor is told of: those that leave the world as it is; and those that turn it (of these, those without a value). -/
def xArgs : Op → Option (List Operand)
  | .lookup _ x k _ => some [x, k]
  | .call { callee := .value (.func f), args, .. } => some (.func f :: args.toList)
  | _ => none
def yArgs : Op → Option (List Operand)
  | .makeMap _ none => some []
  | .makeSlice _ l c => some [l, c]
  | .mapUpdate _ m k v => some [m, k, v]
  | .call { callee := .builtin .delete, args, .. } => some args.toList
  | .call { callee := .builtin .append, args, .. } => some args.toList
  | .call { callee := .builtin .copy, args, .. } => some args.toList
  | .call { callee := .value (.func f), args, .. } => some (.func f :: args.toList)
  | _ => none
def isUp : Op → Bool
  | .mapUpdate .. => true
  | _ => false
structure SpOk (P : Program) (S : Sp) : Prop where
  z : ∀ t l, S.z t = some l → Z1 P t l
  eq : EqOk P S
  q : ∀ f args hp Q, (S.q f args hp).sat Q → Enters P f ∧ ∃ v, Q v ∧ ∀ ρ φ w, Rep ρ φ hp w →
    Calls P f (args.map (E.den ρ)).toArray w fun e w' => e = .returned (v.den ρ) ∧ RowKit.Below w.heap.size w w'
  m : ∀ f args h Q, (S.m f args h).sat Q → Enters P f ∧ ∃ v h', Q (v, h') ∧ ∀ ρ φ w, Rep ρ φ h.hp w → hpkb h.hp h.nk = true →
    Calls P f (args.map (E.den ρ)).toArray w fun e w' => ∃ ρ' φ', e = .returned (v.den ρ') ∧ Rep ρ' φ' h'.hp w' ∧ Evo ρ φ h w ρ' φ' h' w'
  x : ∀ op ls l hp Q, xArgs op = some ls → (S.x op l hp).sat Q → ∃ v, Q v ∧ ∀ (ρ : As) (φ : Nat → Nat → Prop) (w : World) (ev : Operand → Value) (o : Oper), o.op = op → ls.map ev = l.map (E.den ρ) → Rep ρ φ hp w →
    (execOp ev o).run P w = .ok (.value (v.den ρ)) w
  y : ∀ op ls l h Q, yArgs op = some ls → (S.y op l h).sat Q → ∃ v h', Q (v, h') ∧ ∀ (ρ : As) (φ : Nat → Nat → Prop) (w : World) (ev : Operand → Value) (o : Oper), o.op = op → ls.map ev = l.map (E.den ρ) → Rep ρ φ h.hp w → hpkb h.hp h.nk = true →
    ∃ ρ' φ' w', (execOp ev o).run P w = .ok (if isUp op then .skip else .value (v.den ρ')) w' ∧ Rep ρ' φ' h'.hp w' ∧ Evo ρ φ h w ρ' φ' h' w'

structure St where
  tm : TM
  gs : List Nat
  h : H

def R.map {α : Type u} {β : Type v} (f : α → β) (r : R α) : R β := r.bind fun x => .ok (f x)
def callArgs (g : Option (Nat × Bool)) (tm : TM) (f : Operand) (args : Array Operand) : Option (FuncId × List E) :=
  match opE g tm f, argsE g tm args.toList with
  | some (.c (.fn fid caps)), some l => some (fid, l ++ caps.map capE)
  | _, _ => none
/-- An operation that leaves what is followed as it is. -/
def calleeOf : Op → Option (Operand × Array Operand)
  | .call { callee := .value f, args, .. } => some (f, args)
  | _ => none
theorem calleeOf_spec {op : Op} {f : Operand} {args : Array Operand} (h : calleeOf op = some (f, args)) : ∃ ts, op = .call { callee := .value f, args, argTypes := ts } := by
  unfold calleeOf at h
  split at h
  · cases h; exact ⟨_, rfl⟩
  · cases h
def hookX (S : Sp) (g : Option (Nat × Bool)) (tm : TM) (hp : HP) (op : Op) : R V :=
  match xArgs op with
  | some ls => (match argsE g tm ls with
    | some l => S.x op l hp
    | none => .fail)
  | none => .fail
def quiet1 (P : Program) (S : Sp) (g : Option (Nat × Bool)) (tm : TM) (hp : HP) (op : Op) : R V :=
  match calleeOf op with
  | some (f, args) => (match callArgs g tm f args with
    | some (fid, l) => (match (S.q fid l hp).isFail with
      | true => hookX S g tm hp op
      | false => S.q fid l hp)
    | none => .fail)
  | none => (match xArgs op with
    | some _ => hookX S g tm hp op
    | none => pureQ P S hp g tm op)
def condOf (tm : TM) : Nat → Nat → Bool → Bool
  | 0, _, _ => true
  | n + 1, s, wt => match look tm s with
    | some (.v (.e (.c (.bool b)))) => cond wt b (!b)
    | some (.gd s' wt' (.c (.bool b))) => condOf tm n s' wt' && cond wt b (!b)
    | _ => true
/-- The same, handed on as it is found. -/
def condK {α : Type} (tm : TM) : Nat → Nat → Bool → (Bool → α) → α
  | 0, _, _, k => k true
  | n + 1, s, wt, k => match look tm s with
    | some (.v (.e (.c (.bool b)))) => (match wt with | true => k b | false => k (!b))
    | some (.gd s' wt' (.c (.bool b))) => condK tm n s' wt' fun c => (match wt with | true => k (c && b) | false => k (c && !b))
    | _ => k true
theorem condK_eq {α : Type} (tm : TM) : ∀ (n s : Nat) (wt : Bool) (k : Bool → α), condK tm n s wt k = k (condOf tm n s wt) := by
  intro n
  induction n with
  | zero => intro s wt k; rfl
  | succ n ih =>
    intro s wt k
    simp only [condK, condOf]
    split
    · cases wt <;> rfl
    · rw [ih]; cases wt <;> rfl
    · rfl
def putV (N : Nat) (st : St) (d : Nat) (v : V) (h' : H) : R St :=
  if decide (d < N) && !(st.gs.contains d) && v.kb h'.nk then .ok ⟨(d, .v v) :: st.tm, st.gs, h'⟩ else .fail
def stepQ (P : Program) (S : Sp) (N : Nat) (ops : Array Oper) (o : Oper) (st : St) : R St :=
  match o.guard with
  | none => (match o.dst with
    | some d => (quiet1 P S none st.tm st.h.hp o.op).bind fun v => putV N st d v st.h
    | none => (quiet1 P S none st.tm st.h.hp o.op).bind fun _ => .ok st)
  | some (j, wt) => (match (ops[j]?).bind (·.dst), o.dst with
    | some s, some d => condK st.tm 8 s wt fun cnd => ((quiet1 P S (some (s, wt)) st.tm st.h.hp o.op).under cnd).bind fun v => (match v with
      | .e e => if decide (d < N) && !((s :: st.gs).contains d) && e.kb st.h.nk then .ok ⟨(d, .gd s wt e) :: st.tm, s :: st.gs, st.h⟩ else .fail
      | .tup _ => .fail)
    | _, _ => .fail)
def putM (N : Nat) (st : St) (dst : Option Nat) (x : V × H) : R St :=
  match dst with
  | some d => putV N st d x.1 x.2
  | none => .ok ⟨st.tm, st.gs, x.2⟩
def stepO0 (P : Program) (S : Sp) (N : Nat) (ops : Array Oper) (o : Oper) (st : St) : R St :=
  match o.guard, o.op with
  | none, .store t x y => (match o.dst with
    | none => (R.of (opE none st.tm x)).bind fun e => (R.of (opE none st.tm y)).bind fun v => (storeQ P S.c st.h t e v).bind fun h' => .ok ⟨st.tm, st.gs, h'⟩
    | some _ => .fail)
  | none, .box t x => (R.of (opE none st.tm x)).bind fun e => (boxQ st.h t e).bind fun r => putM N st o.dst r
  | none, .alloc t => (allocQ S st.h t).bind fun r => putM N st o.dst r
  | none, .buildSlice t n ps => (R.of (partsE none st.tm ps.toList)).bind fun l => (buildSliceQ P S st.h t n l).bind fun r => putM N st o.dst r
  | none, .call { callee := .value f, args, .. } => (match callArgs none st.tm f args with
    | some (fid, l) => (match (quiet1 P S none st.tm st.h.hp o.op).isFail with
      | true => (S.m fid l st.h).bind fun r => if hpkb r.2.hp r.2.nk then putM N st o.dst r else .fail
      | false => stepQ P S N ops o st)
    | none => .fail)
  | _, _ => stepQ P S N ops o st
def stepO (P : Program) (S : Sp) (N : Nat) (ops : Array Oper) (o : Oper) (st : St) : R St :=
  match o.guard, yArgs o.op with
  | none, some ls => (match argsE none st.tm ls with
    | some l => (match (S.y o.op l st.h).isFail with
      | true => stepO0 P S N ops o st
      | false => (S.y o.op l st.h).bind fun r => if hpkb r.2.hp r.2.nk then (match isUp o.op, o.dst with
        | true, some _ => .fail
        | _, _ => putM N st o.dst r) else .fail)
    | none => .fail)
  | _, _ => stepO0 P S N ops o st
def free (o : Oper) : Oper := ⟨o.dst, o.op, o.type, o.pos, o.after, none⟩
/-- The same where a guard is reckoned. -/
def stepG (P : Program) (S : Sp) (N : Nat) (ops : Array Oper) (o : Oper) (st : St) : R St :=
  match S.g, o.guard with
  | true, some (j, wt) => (match (ops[j]?).bind (·.dst) with
    | some s => (match look st.tm s with
      | some (.v (.e e)) => (match asB e with
        | some b => (match b == wt with
          | true => stepO P S N ops (free o) st
          | false => (match o.dst with
            | some d => putV N st d (.e (.c (.raw (.tuple #[])))) st.h
            | none => .ok st))
        | none => (match e with
          | .c (.raw (.tuple _)) => (match o.dst with
            | some d => putV N st d (.e (.c (.raw (.tuple #[])))) st.h
            | none => .ok st)
          | _ => .fail))
      | _ => .fail)
    | none => .fail)
  | _, _ => stepO P S N ops o st
def runO (P : Program) (S : Sp) (N : Nat) (ops : Array Oper) : List Oper → St → R St
  | [], st => .ok st
  | o :: l, st => (stepG P S N ops o st).bind fun st' => runO P S N ops l st'
def runQ (P : Program) (S : Sp) (N : Nat) (ops : Array Oper) : List Oper → St → R St
  | [], st => .ok st
  | o :: l, st => (stepQ P S N ops o st).bind fun st' => runQ P S N ops l st'

/-! ### The executor's state and the run's -/
structure Inv (ρ0 : As) (φ0 : Nat → Nat → Prop) (h0 : H) (w0 : World) (N : Nat) (ρ : As) (φ : Nat → Nat → Prop) (st : St) (a : Act) (w : World) : Prop where
  rep : Rep ρ φ st.h.hp w
  evo : Evo ρ0 φ0 h0 w0 ρ φ st.h w
  tmk : TmOk ρ a st.tm
  gsk : ∀ t s wt x, look st.tm t = some (.gd s wt x) → s ∈ st.gs
  kbt : ∀ t sv, look st.tm t = some sv → sv.kb st.h.nk = true
  kbh : hpkb st.h.hp st.h.nk = true
  sz : N ≤ a.tmps.size
  df : a.defers = []

theorem C.kb_mono {n m : Nat} (hm : n ≤ m) {c : C} (h : c.kb n = true) : c.kb m = true := Sg.kb_mono hm (g := .c c) h
theorem E.kb_mono {n m : Nat} (hm : n ≤ m) {x : E} (h : x.kb n = true) : x.kb m = true := by
  cases x with
  | c x => exact C.kb_mono hm h
  | agg l => exact List.all_eq_true.2 fun x hx => Sg.kb_mono hm (List.all_eq_true.1 h x hx)
theorem V.kb_mono {n m : Nat} (hm : n ≤ m) {x : V} (h : x.kb n = true) : x.kb m = true := by
  cases x with
  | e x => exact E.kb_mono hm h
  | tup l => exact List.all_eq_true.2 fun x hx => E.kb_mono hm (List.all_eq_true.1 h x hx)
theorem SV.kb_mono {n m : Nat} (hm : n ≤ m) {x : SV} (h : x.kb n = true) : x.kb m = true := by
  cases x with
  | v x => exact V.kb_mono hm h
  | gd s wt x => exact E.kb_mono hm h

section
variable {P : Program} {S : Sp} {N : Nat} {ρ0 ρ : As} {φ0 φ : Nat → Nat → Prop} {h0 : H} {w0 w : World} {st : St} {a : Act}

theorem put_size (a : Act) (d : Option Tmp) (v : Value) : (a.put d v).tmps.size = a.tmps.size := by
  cases d <;> simp [Act.put]
theorem put_defers (a : Act) (d : Option Tmp) (v : Value) : (a.put d v).defers = a.defers := by
  cases d <;> rfl
theorem put_same {a : Act} {d : Nat} (v : Value) (h : d < a.tmps.size) : (a.put (some d) v).tmps[d]? = some v := by
  simp [Act.put, h]
theorem put_other {a : Act} {d t : Nat} (v : Value) (h : d ≠ t) : (a.put (some d) v).tmps[t]? = a.tmps[t]? := by
  simp [Act.put, h]

theorem TmOk.put {d : Nat} {u : Value} {sv : SV} {gs : List Nat} {tm : TM} (hT : TmOk ρ a tm) (hg : ∀ t s wt x, look tm t = some (.gd s wt x) → s ∈ gs) (hd : d ∉ gs) (hs : SlotOk ρ (a.put (some d) u) d sv) :
    TmOk ρ (a.put (some d) u) ((d, sv) :: tm) := by
  intro t sv' h
  rw [look_cons] at h
  split at h
  · rename_i e; cases h; subst e; exact hs
  · rename_i e
    have := hT t sv' h
    cases sv' with
    | v x => simp only [SlotOk] at this ⊢; rw [put_other u e]; exact this
    | gd s wt x =>
      have hsd : d ≠ s := fun e' => hd (e' ▸ hg t s wt x h)
      simp only [SlotOk] at this ⊢
      rw [put_other u e, put_other u hsd]
      exact this

/-- The state behind an operation that yields a value: what was followed has gone on to (ρ', φ', h', w'). -/
theorem Inv.put (hI : Inv ρ0 φ0 h0 w0 N ρ φ st a w) {ρ' : As} {φ' : Nat → Nat → Prop} {h' : H} {w' : World} (hR : Rep ρ' φ' h'.hp w') (hE : Evo ρ φ st.h w ρ' φ' h' w') (hkb : hpkb h'.hp h'.nk = true)
    {d : Nat} {v : V} {Q : St → Prop} (hp : (putV N st d v h').sat Q) : ∃ st', Q st' ∧ Inv ρ0 φ0 h0 w0 N ρ' φ' st' (a.put (some d) (v.den ρ')) w' := by
  unfold putV at hp
  split at hp
  · rename_i hc
    simp only [Bool.and_eq_true, decide_eq_true_eq, Bool.not_eq_true', List.contains_eq_mem, decide_eq_false_iff_not] at hc
    obtain ⟨⟨h1, h2⟩, h3⟩ := hc
    refine ⟨_, hp, hR, hI.evo.trans hE, ?_, ?_, ?_, hkb, by rw [put_size]; exact hI.sz, by rw [put_defers]; exact hI.df⟩
    · refine TmOk.put (gs := st.gs) (fun t sv ht => (hI.tmk t sv ht).agr (hI.kbt t sv ht) hE.agr) hI.gsk h2 ?_
      exact put_same _ (Nat.lt_of_lt_of_le h1 hI.sz)
    · intro t s wt x ht
      rw [look_cons] at ht
      split at ht
      · cases ht
      · exact hI.gsk t s wt x ht
    · intro t sv ht
      rw [look_cons] at ht
      split at ht
      · cases ht; exact h3
      · exact SV.kb_mono hE.nk (hI.kbt t sv ht)
  · exact hp.elim
theorem Inv.step (hI : Inv ρ0 φ0 h0 w0 N ρ φ st a w) {ρ' : As} {φ' : Nat → Nat → Prop} {h' : H} {w' : World} (hR : Rep ρ' φ' h'.hp w') (hE : Evo ρ φ st.h w ρ' φ' h' w') (hkb : hpkb h'.hp h'.nk = true) :
    Inv ρ0 φ0 h0 w0 N ρ' φ' ⟨st.tm, st.gs, h'⟩ a w' :=
  ⟨hR, hI.evo.trans hE, fun t sv ht => (hI.tmk t sv ht).agr (hI.kbt t sv ht) hE.agr, hI.gsk, fun t sv ht => SV.kb_mono hE.nk (hI.kbt t sv ht), hkb, hI.sz, hI.df⟩

theorem R.sat_val {α : Type u} {r : R α} {Q : α → Prop} (h : r.sat Q) : ∃ x, Q x ∧ r.sat (· = x) := by
  induction r with
  | ok x => exact ⟨x, h, rfl⟩
  | need p r ih => obtain ⟨x, hx, hr⟩ := ih h.2; exact ⟨x, hx, h.1, hr⟩
  | chk b r ih => obtain ⟨x, hx, hr⟩ := ih h.2; exact ⟨x, hx, h.1, hr⟩
  | fail => exact h.elim

theorem callArgs_sound {g : Option (Nat × Bool)} {f : Operand} {args : Array Operand} {fid : FuncId} {l : List E} (h : callArgs g st.tm f args = some (fid, l)) (hT : TmOk ρ a st.tm) (hg : GOk a g) (hen : Enters P fid) {o : Oper} {ts : Array TypeId} (ho : o.op = .call { callee := .value f, args, argTypes := ts }) :
    (execOp a.eval o).run P w = .ok (.enter fid (l.map (E.den ρ)).toArray) w := by
  unfold callArgs at h
  split at h
  · rename_i f2 caps l2 hf hl
    cases h
    obtain ⟨fn, hfn, hb, hn⟩ := hen
    have e1 : args.map a.eval = (l2.map (E.den ρ)).toArray := Array.ext' (by rw [Array.toList_map, argsE_sound hT hg hl])
    have e2 : (caps.map capE).map (E.den ρ) = caps.map (C.cap ρ) := by
      rw [List.map_map]
      apply List.map_congr_left
      intro x _
      cases x with
      | inl k => rfl
      | inr v => simp only [Function.comp, capE, E.den, ofVal_den, C.cap]
    unfold execOp
    rw [ho]
    simp only [resolve, opE_sound hf hT hg, E.den, C.den, Deferred.ofValue, Sem.run_bind, Sem.run_pure, Result.andThen_ok, invoke, callFunc, run_program, hfn, hb, hn, e1, List.map_append, e2]
    simp
  · cases h

/-- The worlds in which all that was there is as it was. -/
def Cls (w : World) : World → Prop := fun w' => RowKit.Below w.heap.size w w'

theorem quiet1_sound (hS : SpOk P S) {g : Option (Nat × Bool)} (hT : TmOk ρ a st.tm) (hg : GOk a g) {o : Oper} {v : V} (h : (quiet1 P S g st.tm st.h.hp o.op).sat (· = v)) {wc w' : World} (hR : Rep ρ φ st.h.hp w') (hw : Cls wc w') : o.quietAt P a (Cls wc) w' (v.den ρ) := by
  have hk : ∀ {v : V}, (hookX S g st.tm st.h.hp o.op).sat (· = v) → o.quietAt P a (Cls wc) w' (v.den ρ) := by
    intro v h
    unfold hookX at h
    split at h
    · rename_i ls hls
      split at h
      · rename_i l hl
        obtain ⟨v', hv, hrun⟩ := hS.x _ _ _ _ _ hls h
        subst hv
        unfold Oper.quietAt
        rw [hrun ρ φ w' a.eval o rfl (argsE_sound hT hg hl) hR]
        exact ⟨rfl, rfl⟩
      · exact h.elim
    · exact h.elim
  unfold quiet1 at h
  split at h
  · rename_i f args hco
    obtain ⟨ts, hop⟩ := calleeOf_spec hco
    split at h
    · rename_i fid l hca
      split at h
      · exact hk h
      · obtain ⟨hen, v', hv, hcall⟩ := hS.q _ _ _ _ h
        subst hv
        have := callArgs_sound (w := w') hca hT hg hen hop
        unfold Oper.quietAt
        rw [this]
        refine ⟨rfl, (hcall ρ φ w' hR).mono fun e w'' ⟨he, hb⟩ => ⟨he, ?_⟩⟩
        exact RowKit.Below.trans hw (hb.mono hw.size)
    · exact h.elim
  · split at h
    · exact hk h
    · obtain ⟨v', hv, hrun⟩ := pureQ_sound hS.z hS.eq hR hT hg h
      subst hv
      unfold Oper.quietAt
      rw [hrun]
      exact ⟨rfl, rfl⟩

theorem condOf_sound {tm : TM} (hT : TmOk ρ a tm) : ∀ (n s : Nat) (wt : Bool), a.tmps[s]? = some (.bool wt) → condOf tm n s wt = true := by
  intro n
  induction n with
  | zero => intro s wt _; rfl
  | succ n ih =>
    intro s wt h
    simp only [condOf]
    split
    · rename_i b hl
      have h2 := hT _ _ hl
      simp only [SlotOk, V.den, E.den, C.den] at h2
      rw [h] at h2
      cases h2
      cases wt <;> rfl
    · rename_i s' wt' b hl
      have h2 := hT _ _ hl
      simp only [SlotOk, E.den, C.den] at h2
      by_cases hs : a.tmps[s']? = some (.bool wt')
      · have h3 := h2.1 hs
        rw [h] at h3
        cases h3
        rw [ih _ _ hs]
        cases wt <;> rfl
      · have h3 := h2.2 hs
        rw [h] at h3
        cases h3
    · rfl

theorem wanted_none {o : Oper} {y : Nat → Option Bool} (h : o.guard = none) : Region.wanted o y = true := by simp [Region.wanted, h]
theorem wanted_some {o : Oper} {ops : Array Oper} {j s : Nat} {wt : Bool} (h : o.guard = some (j, wt)) (hs : (ops[j]?).bind (·.dst) = some s) :
    Region.wanted o (yielded ops a.tmps) = true ↔ a.tmps[s]? = some (.bool wt) := by
  simp only [Region.wanted, h, yielded, hs, Option.bind_some]
  cases hv : a.tmps[s]? with
  | none => simp
  | some v => cases v <;> simp

/-- What a quiet operation does to the frame: it puts this value; all that is known of the frame goes on. -/
theorem stepQ_sound (hS : SpOk P S) {ops : Array Oper} {o : Oper} {Q : St → Prop} (hI : Inv ρ0 φ0 h0 w0 N ρ φ st a w) (h : (stepQ P S N ops o st).sat Q) :
    ∃ st', Q st' ∧ st'.h = st.h ∧ ∃ a', (∀ w', RowKit.Below w.heap.size w w' → Inv ρ0 φ0 h0 w0 N ρ φ st' a' w') ∧
      ((Region.wanted o (yielded ops a.tmps) = true ∧ ∃ v, a' = a.put o.dst v ∧ ∀ w', Cls w w' → o.quietAt P a (Cls w) w' v) ∨ (Region.wanted o (yielded ops a.tmps) = false ∧ a' = a.put o.dst undef)) := by
  have hIw : ∀ w', RowKit.Below w.heap.size w w' → Inv ρ0 φ0 h0 w0 N ρ φ st a w' := fun w' hb => hI.step (hI.rep.below hb) (Evo.below hb) hI.kbh
  unfold stepQ at h
  split at h
  · rename_i hgd
    split at h
    · rename_i d hd
      obtain ⟨v, hv, hq⟩ := R.sat_val (R.sat_bind h)
      obtain ⟨st', hst, _⟩ := Inv.put hI hI.rep (Evo.refl _ _ _ _) hI.kbh hv
      have hform : ∀ Q : St → Prop, (putV N st d v st.h).sat Q → Q ⟨(d, .v v) :: st.tm, st.gs, st.h⟩ := fun Q hp => by
        unfold putV at hp
        split at hp
        · exact hp
        · exact hp.elim
      refine ⟨_, hform _ hv, rfl, a.put (some d) (v.den ρ), fun w' hb => ?_, .inl ⟨wanted_none hgd, v.den ρ, by rw [hd], fun w' hw' => quiet1_sound hS hI.tmk (fun _ _ e => by cases e) hq (hI.rep.below hw') hw'⟩⟩
      obtain ⟨st2, hst2, hi2⟩ := Inv.put (Q := fun s => s = ⟨(d, .v v) :: st.tm, st.gs, st.h⟩) (hIw w' hb) (hIw w' hb).rep (Evo.refl _ _ _ _) hI.kbh (R.sat_mono (fun x hx => hx) (by
        unfold putV at hv ⊢
        split at hv
        · rename_i hc; rw [if_pos hc]; rfl
        · exact hv.elim))
      subst hst2
      exact hi2
    · rename_i hd
      obtain ⟨v, hv, hq⟩ := R.sat_val (R.sat_bind h)
      refine ⟨st, hv, rfl, a, hIw, .inl ⟨wanted_none hgd, v.den ρ, by rw [hd]; rfl, fun w' hw' => quiet1_sound hS hI.tmk (fun _ _ e => by cases e) hq (hI.rep.below hw') hw'⟩⟩
  · rename_i j wt hgd
    split at h
    · rename_i s d hs hd
      rw [condK_eq] at h
      have hb := R.sat_bind h
      by_cases hw : a.tmps[s]? = some (.bool wt)
      · have hb2 := R.sat_under hb (condOf_sound hI.tmk _ _ _ hw)
        obtain ⟨v, hv, hq⟩ := R.sat_val hb2
        cases v with
        | tup l => exact hv.elim
        | e x =>
          simp only at hv
          split at hv
          · rename_i hc
            simp only [Bool.and_eq_true, decide_eq_true_eq, Bool.not_eq_true', List.contains_eq_mem, decide_eq_false_iff_not, List.mem_cons, not_or] at hc
            obtain ⟨⟨h1, h2, h3⟩, h4⟩ := hc
            refine ⟨_, hv, rfl, a.put (some d) (x.den ρ), fun w' hb' => ?_, .inl ⟨(wanted_some hgd hs).2 hw, x.den ρ, by rw [hd], fun w' hw' => quiet1_sound (v := .e x) hS hI.tmk (fun s' wt' e => by cases e; exact hw) hq (hI.rep.below hw') hw'⟩⟩
            have hi := hIw w' hb'
            have hsd : (a.put (some d) (x.den ρ)).tmps[s]? = some (.bool wt) := by rw [put_other _ h2]; exact hw
            refine ⟨hi.rep, hi.evo, TmOk.put (gs := st.gs) hi.tmk hi.gsk h3 ⟨fun _ => put_same _ (Nat.lt_of_lt_of_le h1 hi.sz), fun hno => (hno hsd).elim⟩, ?_, ?_, hi.kbh, by rw [put_size]; exact hi.sz, by rw [put_defers]; exact hi.df⟩
            · intro t s2 wt2 x2 ht
              simp only [look_cons] at ht
              split at ht
              · cases ht; exact List.mem_cons_self
              · exact List.mem_cons_of_mem _ (hi.gsk t s2 wt2 x2 ht)
            · intro t sv ht
              simp only [look_cons] at ht
              split at ht
              · cases ht; exact h4
              · exact hi.kbt t sv ht
          · exact hv.elim
      · -- not wanted
        have hform : ∀ r : R V, (r.under (condOf st.tm 8 s wt)).sat (fun v => R.sat (match v with
            | .e e => if decide (d < N) && !((s :: st.gs).contains d) && e.kb st.h.nk then .ok ⟨(d, .gd s wt e) :: st.tm, s :: st.gs, st.h⟩ else .fail
            | .tup _ => .fail) Q) → ∃ e : E, (decide (d < N) && !((s :: st.gs).contains d) && e.kb st.h.nk) = true ∧ Q ⟨(d, .gd s wt e) :: st.tm, s :: st.gs, st.h⟩ := by
          intro r
          induction r with
          | ok v =>
            intro hr
            cases v with
            | tup l => exact hr.elim
            | e x =>
              simp only [R.under, R.sat] at hr
              split at hr
              · rename_i hc; exact ⟨x, hc, hr⟩
              · exact hr.elim
          | need p r ih => intro hr; exact ih hr.2
          | chk b r ih => intro hr; exact ih hr.2
          | fail => intro hr; exact hr.elim
        obtain ⟨x, hc, hq⟩ := hform _ hb
        simp only [Bool.and_eq_true, decide_eq_true_eq, Bool.not_eq_true', List.contains_eq_mem, decide_eq_false_iff_not, List.mem_cons, not_or] at hc
        obtain ⟨⟨h1, h2, h3⟩, h4⟩ := hc
        have hwf : Region.wanted o (yielded ops a.tmps) = false := by
          cases hx : Region.wanted o (yielded ops a.tmps) with
          | false => rfl
          | true => exact (hw ((wanted_some hgd hs).1 hx)).elim
        refine ⟨_, hq, rfl, a.put (some d) undef, fun w' hb' => ?_, .inr ⟨hwf, by rw [hd]⟩⟩
        have hi := hIw w' hb'
        have hsd : (a.put (some d) undef).tmps[s]? ≠ some (.bool wt) := by rw [put_other _ h2]; exact hw
        refine ⟨hi.rep, hi.evo, TmOk.put (gs := st.gs) hi.tmk hi.gsk h3 ⟨fun hy => (hsd hy).elim, fun _ => put_same _ (Nat.lt_of_lt_of_le h1 hi.sz)⟩, ?_, ?_, hi.kbh, by rw [put_size]; exact hi.sz, by rw [put_defers]; exact hi.df⟩
        · intro t s2 wt2 x2 ht
          simp only [look_cons] at ht
          split at ht
          · cases ht; exact List.mem_cons_self
          · exact List.mem_cons_of_mem _ (hi.gsk t s2 wt2 x2 ht)
        · intro t sv ht
          simp only [look_cons] at ht
          split at ht
          · cases ht; exact h4
          · exact hi.kbt t sv ht
    · exact h.elim
end
end Go.Sx
namespace Go.Sx
universe u v

section
variable {P : Program} {S : Sp} {N : Nat} {ρ0 ρ : As} {φ0 φ : Nat → Nat → Prop} {h0 : H} {w0 w : World} {st : St} {a : Act} {K : Exit → Act → World → Prop}

theorem wp_value {o : Oper} {next : Act → World → Prop} {v : Value} {w' : World} (hr : (execOp a.eval o).run P w = .ok (.value v) w') (hn : next (a.put o.dst v) w') : o.wp P a w next K := by
  unfold Oper.wp; rw [hr]; exact hn
theorem wp_skip' {o : Oper} {next : Act → World → Prop} {w' : World} (hr : (execOp a.eval o).run P w = .ok .skip w') (hn : next (a.put o.dst undef) w') : o.wp P a w next K := by
  unfold Oper.wp; rw [hr]; exact hn

theorem putM_sound (hI : Inv ρ0 φ0 h0 w0 N ρ φ st a w) {m : Sem Value} {r : R (V × H)} {o : Oper} (hm : ∀ Q, r.sat Q → Makes P ρ φ st.h w m Q) (ho : execOp a.eval o = (do pure (.value (← m)))) {next : Act → World → Prop} {Q : St → Prop}
    (h : (r.bind fun x => putM N st o.dst x).sat Q) (hn : ∀ st' ρ' φ' a' w', Q st' → Inv ρ0 φ0 h0 w0 N ρ' φ' st' a' w' → next a' w') : o.wp P a w next K := by
  obtain ⟨v, h', w', ρ', φ', hq, hrun, hR, hE, hkb⟩ := hm _ (R.sat_bind h)
  refine wp_value (v := v.den ρ') (w' := w') (by rw [ho]; simp only [Sem.run_bind, hrun, Result.andThen_ok, Sem.run_pure]) ?_
  unfold putM at hq
  cases hd : o.dst with
  | none =>
    rw [hd] at hq
    exact hn _ _ _ _ _ hq (hI.step hR hE hkb)
  | some d =>
    rw [hd] at hq
    obtain ⟨st', hst, hi⟩ := hI.put hR hE hkb hq
    exact hn _ _ _ _ _ hst hi

theorem quiet_step (hS : SpOk P S) {ops : Array Oper} {o : Oper} {Q : St → Prop} (hI : Inv ρ0 φ0 h0 w0 N ρ φ st a w) (h : (stepQ P S N ops o st).sat Q) {next : Act → World → Prop}
    (hn : ∀ st' ρ' φ' a' w', Q st' → Inv ρ0 φ0 h0 w0 N ρ' φ' st' a' w' → next a' w') :
    if Region.wanted o (yielded ops a.tmps) = true then o.wp P a w next K else next (a.put o.dst undef) w := by
  obtain ⟨st', hq, _, a', hi, hcase⟩ := stepQ_sound hS hI h
  rcases hcase with ⟨hw, v, rfl, hall⟩ | ⟨hw, rfl⟩
  · rw [if_pos hw]
    refine Oper.wp_of_quiet (C := Cls w) (K := fun a' => a' = a.put o.dst v) (RowKit.Below.refl _ _) (fun a2 w' hw' e => ?_) ⟨v, hall, rfl⟩
    subst e
    exact hn _ _ _ _ _ hq (hi w' hw')
  · rw [if_neg (by rw [hw]; exact Bool.false_ne_true)]
    exact hn _ _ _ _ _ hq (hi w (RowKit.Below.refl _ _))

theorem stepO0_sound (hS : SpOk P S) {ops : Array Oper} {o : Oper} {Q : St → Prop} (hI : Inv ρ0 φ0 h0 w0 N ρ φ st a w) (h : (stepO0 P S N ops o st).sat Q) {next : Act → World → Prop}
    (hn : ∀ st' ρ' φ' a' w', Q st' → Inv ρ0 φ0 h0 w0 N ρ' φ' st' a' w' → next a' w') :
    if Region.wanted o (yielded ops a.tmps) = true then o.wp P a w next K else next (a.put o.dst undef) w := by
  have hg0 : GOk a none := fun _ _ e => by cases e
  unfold stepO0 at h
  split at h
  · rename_i t x y hgd hop
    rw [if_pos (wanted_none hgd)]
    split at h
    · rename_i hd
      obtain ⟨e, he, h⟩ := R.sat_of (R.sat_bind h)
      obtain ⟨e2, he2, h⟩ := R.sat_of (R.sat_bind h)
      obtain ⟨h', w', hq, hrun, hR, hE, hkb⟩ := storeQ_sound hI.rep hI.kbh (R.sat_bind h)
      refine wp_skip' (w' := w') ?_ ?_
      · unfold execOp
        rw [hop]
        simp only [Sem.run_bind, opE_sound he hI.tmk hg0, opE_sound he2 hI.tmk hg0, hrun, Result.andThen_ok, Sem.run_pure]
      · rw [hd]
        exact hn _ _ _ _ _ hq (hI.step hR hE hkb)
    · exact h.elim
  · rename_i t x hgd hop
    rw [if_pos (wanted_none hgd)]
    obtain ⟨e, he, h⟩ := R.sat_of (R.sat_bind h)
    refine putM_sound hI (m := Instr.box t (e.den ρ)) (fun Q hq => boxQ_sound hI.rep hI.kbh hq) ?_ h hn
    unfold execOp
    rw [hop]
    simp only [opE_sound he hI.tmk hg0]
  · rename_i t hgd hop
    rw [if_pos (wanted_none hgd)]
    refine putM_sound hI (m := Instr.alloc t true (.tuple #[])) (fun Q hq => allocQ_sound hS.z hI.rep hI.kbh hq) ?_ h hn
    unfold execOp
    rw [hop]
  · rename_i t n ps hgd hop
    rw [if_pos (wanted_none hgd)]
    obtain ⟨l, hl, h⟩ := R.sat_of (R.sat_bind h)
    have hm : ∀ Q, (buildSliceQ P S st.h t n l).sat Q → Makes P ρ φ st.h w (Instr.buildSlice t n (l.map fun p => (p.1, p.2.den ρ)).toArray) Q := fun Q hq => buildSliceQ_sound hS.z hI.rep hI.kbh hq
    have e1 : (ps.map fun (p : Nat × Operand) => (p.1, a.eval p.2)) = (l.map fun p => (p.1, p.2.den ρ)).toArray := by
      apply Array.ext'
      simp only [Array.toList_map]
      exact partsE_sound hI.tmk hg0 hl
    have ho : execOp a.eval o = (do pure (.value (← Instr.buildSlice t n (l.map fun p => (p.1, p.2.den ρ)).toArray))) := by
      rw [← e1]
      unfold execOp
      rw [hop]
    exact putM_sound hI hm ho h hn
  · rename_i f args ts hgd hop
    split at h
    · rename_i fid l hca
      split at h
      · rw [if_pos (wanted_none hgd)]
        obtain ⟨hen, v, h', hq, hcall⟩ := hS.m _ _ _ _ (R.sat_bind h)
        have hrun := callArgs_sound (P := P) (w := w) hca hI.tmk hg0 hen hop
        unfold Oper.wp
        rw [hrun, Oper.upon_enter]
        refine (hcall ρ φ w hI.rep hI.kbh).mono fun e w' hp => ?_
        obtain ⟨ρ', φ', rfl, hR, hE⟩ := hp
        simp only at hq ⊢
        split at hq
        · rename_i hkb
          unfold putM at hq
          cases hd : o.dst with
          | none =>
            rw [hd] at hq
            exact hn _ _ _ _ _ hq (hI.step hR hE hkb)
          | some d =>
            rw [hd] at hq
            obtain ⟨st', hst, hi⟩ := hI.put hR hE hkb hq
            exact hn _ _ _ _ _ hst hi
        · exact hq.elim
      · exact quiet_step hS hI h hn
    · exact h.elim
  · exact quiet_step hS hI h hn

theorem stepO_sound (hS : SpOk P S) {ops : Array Oper} {o : Oper} {Q : St → Prop} (hI : Inv ρ0 φ0 h0 w0 N ρ φ st a w) (h : (stepO P S N ops o st).sat Q) {next : Act → World → Prop}
    (hn : ∀ st' ρ' φ' a' w', Q st' → Inv ρ0 φ0 h0 w0 N ρ' φ' st' a' w' → next a' w') :
    if Region.wanted o (yielded ops a.tmps) = true then o.wp P a w next K else next (a.put o.dst undef) w := by
  unfold stepO at h
  split at h
  · rename_i ls hgd hls
    split at h
    · rename_i l hl
      split at h
      · exact stepO0_sound hS hI h hn
      rw [if_pos (wanted_none hgd)]
      obtain ⟨v, h', hq, hrun⟩ := hS.y _ _ _ _ _ hls (R.sat_bind h)
      obtain ⟨ρ', φ', w', hrun, hR, hE⟩ := hrun ρ φ w a.eval o rfl (argsE_sound hI.tmk (fun _ _ e => by cases e) hl) hI.rep hI.kbh
      simp only at hq
      split at hq
      · rename_i hkb
        split at hq
        · exact hq.elim
        · rename_i hno
          unfold putM at hq
          cases hd : o.dst with
          | none =>
            rw [hd] at hq
            cases hu : isUp o.op with
            | true =>
              rw [hu, if_pos rfl] at hrun
              exact wp_skip' hrun (by rw [hd]; exact hn _ _ _ _ _ hq (hI.step hR hE hkb))
            | false =>
              rw [hu, if_neg Bool.false_ne_true] at hrun
              exact wp_value hrun (by rw [hd]; exact hn _ _ _ _ _ hq (hI.step hR hE hkb))
          | some d =>
            rw [hd] at hq
            cases hu : isUp o.op with
            | true => exact (hno d hu hd).elim
            | false =>
              rw [hu, if_neg Bool.false_ne_true] at hrun
              obtain ⟨st', hst, hi⟩ := hI.put hR hE hkb hq
              exact wp_value hrun (by rw [hd]; exact hn _ _ _ _ _ hst hi)
      · exact hq.elim
    · exact h.elim
  · exact stepO0_sound hS hI h hn

theorem free_wp {o : Oper} {next : Act → World → Prop} (h : (free o).wp P a w next K) : o.wp P a w next K := by
  obtain ⟨dst, op, type, pos, after, guard⟩ := o
  exact h
theorem stepG_sound (hS : SpOk P S) {ops : Array Oper} {o : Oper} {Q : St → Prop} (hI : Inv ρ0 φ0 h0 w0 N ρ φ st a w) (h : (stepG P S N ops o st).sat Q) {next : Act → World → Prop}
    (hn : ∀ st' ρ' φ' a' w', Q st' → Inv ρ0 φ0 h0 w0 N ρ' φ' st' a' w' → next a' w') :
    if Region.wanted o (yielded ops a.tmps) = true then o.wp P a w next K else next (a.put o.dst undef) w := by
  have skip : ∀ {j s : Nat} {wt : Bool}, o.guard = some (j, wt) → (ops[j]?).bind (·.dst) = some s → a.tmps[s]? ≠ some (.bool wt) → (match o.dst with | some d => putV N st d (.e (.c (.raw (.tuple #[])))) st.h | none => R.ok st).sat Q →
      if Region.wanted o (yielded ops a.tmps) = true then o.wp P a w next K else next (a.put o.dst undef) w := by
    intro j s wt hgd hs hne hq
    rw [if_neg (fun hw => hne ((wanted_some hgd hs).1 hw))]
    cases hd : o.dst with
    | none =>
      rw [hd] at hq
      exact hn _ _ _ _ _ hq hI
    | some d =>
      rw [hd] at hq
      obtain ⟨st', hst, hi⟩ := hI.put hI.rep (Evo.refl _ _ _ _) hI.kbh hq
      exact hn _ _ _ _ _ hst hi
  unfold stepG at h
  split at h
  · rename_i j wt hg hgd
    split at h
    · rename_i s hs
      split at h
      · rename_i e hl
        have hv : a.tmps[s]? = some (e.den ρ) := hI.tmk _ _ hl
        split at h
        · rename_i b hb
          have hvb := asB_den hb ρ
          rw [hvb] at hv
          split at h
          · rename_i hbw
            have : b = wt := by simpa using hbw
            subst this
            rw [if_pos ((wanted_some hgd hs).2 hv)]
            have := stepO_sound (K := K) hS hI h hn
            rw [if_pos (wanted_none (o := free o) rfl)] at this
            exact free_wp this
          · rename_i hbw
            have hne : b ≠ wt := by simpa using hbw
            exact skip hgd hs (by rw [hv]; intro e; cases e; exact hne rfl) h
        · split at h
          · rename_i t
            exact skip hgd hs (by rw [hv]; intro e; cases e) h
          · exact h.elim
      · exact h.elim
    · exact h.elim
  · exact stepO_sound hS hI h hn

theorem runO_sound (hS : SpOk P S) {ops : Array Oper} : ∀ (l : List Oper) (st : St) (ρ : As) (φ : Nat → Nat → Prop) (a : Act) (w : World) (Q : St → Prop), Inv ρ0 φ0 h0 w0 N ρ φ st a w → (runO P S N ops l st).sat Q →
    (∀ st' ρ' φ' a' w', Q st' → Inv ρ0 φ0 h0 w0 N ρ' φ' st' a' w' → K .normal a' w') → wpList P ops K l a w := by
  intro l
  induction l with
  | nil => intro st ρ φ a w Q hI h hn; exact hn _ _ _ _ _ h hI
  | cons o l ih =>
    intro st ρ φ a w Q hI h hn
    refine wpList_step fun K2 hK2 => ?_
    exact stepG_sound hS hI (R.sat_bind h) fun st' ρ' φ' a' w' hq hi => hK2 _ _ (ih st' ρ' φ' a' w' Q hi hq hn)

/-! ### Regions that draw their order -/
theorem runQ_sound (hS : SpOk P S) {ops : Array Oper} {Q : St → Prop} {QA : Act → Prop} : ∀ (l : List Oper) (st : St) (a : Act), Inv ρ0 φ0 h0 w0 N ρ φ st a w → (runQ P S N ops l st).sat Q →
    (∀ st' a', Q st' → (∀ w', Cls w w' → Inv ρ0 φ0 h0 w0 N ρ φ st' a' w') → QA a') → wpQuiet P ops (Cls w) QA l a := by
  intro l
  induction l with
  | nil => intro st a hI h hn; exact hn _ _ h fun w' hw' => hI.step (hI.rep.below hw') (Evo.below hw') hI.kbh
  | cons o l ih =>
    intro st a hI h hn
    obtain ⟨st', hq, _, a', hi, hcase⟩ := stepQ_sound hS hI (R.sat_bind h)
    have hrest := ih st' a' (hi w (RowKit.Below.refl _ _)) hq hn
    unfold wpQuiet
    rcases hcase with ⟨hw, v, rfl, hall⟩ | ⟨hw, rfl⟩
    · rw [if_pos hw]; exact ⟨v, hall, hrest⟩
    · rw [if_neg (by rw [hw]; exact Bool.false_ne_true)]; exact hrest
end

/-! ### Reads and quiet calls, in whatever order; then a tail in its one order (Derived/StillTail.lean's road, over a class of worlds) -/
section
variable {P : Program} {ops : Array Oper} {md : Region.Mode} {C : World → Prop}

def wpAnyT (P : Program) (md : Region.Mode) (ops : Array Oper) (C : World → Prop) (n : Nat) (L : Array Bool → Act → Prop) : Nat → Array Bool → Act → Prop
  | 0, listed, a => L listed a
  | f + 1, listed, a =>
    Region.ready md ops listed ≠ [] ∧ ∀ i ∈ Region.ready md ops listed, i < n ∧ qOp P ops C i (wpAnyT P md ops C n L f (listed.setIfInBounds i true)) a

theorem wpAny_of_headT {n g : Nat} {L : Array Bool → Act → Prop} {Q' : Exit → Act → World → Prop} (hL : ∀ listed a w, C w → L listed a → wpAny P md ops Q' g listed a w) :
    ∀ (f : Nat) (listed : Array Bool) (a : Act) (w : World), C w → wpAnyT P md ops C n L f listed a → wpAny P md ops Q' (f + g) listed a w
  | 0, listed, a, w, hw, h => by rw [Nat.zero_add]; exact hL _ _ _ hw h
  | f + 1, listed, a, w, hw, h => by
    rw [show f + 1 + g = (f + g) + 1 by omega]
    exact ⟨fun h0 => absurd h0 h.1, fun i hi => wpOp_of_qOp hw (fun a' w' hw' h' => wpAny_of_headT hL f _ a' w' hw' h') (h.2 i hi).2⟩

theorem wpAnyT_first {n i : Nat} {oi : Oper} {v : Value} {L : Array Bool → Act → Prop} (hi : ops[i]? = some oi) (hsel : ∀ (j : Nat) (o : Oper) cs b, ops[j]? = some o → o.op ≠ .select cs b)
    (hs : Region.sinkB md ops n = true) (hc : Region.chainB md ops n = true) (hn : n < ops.size) (hin : i < n)
    (hdone : ∀ listed a, L listed a → ∀ j ∈ Region.ready md ops listed, n ≤ j) :
    ∀ (f : Nat) (listed : Array Bool) (a : Act), HeadInv md ops n listed →
      (∀ j oj, ops[j]? = some oj → j ≠ i → listed.getD j true = false → (∀ e ∈ oj.after, Region.binds md e = true → e.on ≠ i) → oi.apart ops oj = true) →
      i ∈ Region.ready md ops listed → YieldsIn P ops C oi v a →
      wpAnyT P md ops C n L f (listed.setIfInBounds i true) (a.put oi.dst v) → wpAnyT P md ops C n L (f + 1) listed a := by
  intro f
  induction f with
  | zero =>
    intro listed a inv _ hr hy H
    refine ⟨fun h => (by rw [h] at hr; cases hr), fun j hj => ?_⟩
    have hjn : j < n := by
      rcases Nat.lt_or_ge j n with h | h
      · exact h
      · exact absurd hj (tail_waits hs hc hn inv _ i rfl hin (mem_ready.1 hr).1 j h)
    refine ⟨hjn, ?_⟩
    by_cases hji : j = i
    · subst hji; exact hy.qOp hi H
    · have := hdone _ _ H j (ready_mono hj hji)
      omega
  | succ f ih =>
    intro listed a inv hfree hr hy H
    have hun := (mem_ready.1 hr).1
    refine ⟨fun h => (by rw [h] at hr; cases hr), fun j hj => ?_⟩
    have hjn : j < n := by
      rcases Nat.lt_or_ge j n with h | h
      · exact h
      · exact absurd hj (tail_waits hs hc hn inv _ i rfl hin hun j h)
    refine ⟨hjn, ?_⟩
    by_cases hji : j = i
    · subst hji; exact hy.qOp hi H
    · have h1 := (H.2 j (ready_mono hj hji)).2
      obtain ⟨hjun, oj, hoj, hall⟩ := mem_ready.1 hj
      have hnot : ∀ e ∈ oj.after, Region.binds md e = true → e.on ≠ i := fun e he hb heq => by
        have h1 := hall e he hb
        rw [heq, getD_both hun] at h1
        cases h1
      have h2 := qOp_put hoj (hfree j oj hoj hji hjun hnot) (fun cs b => hsel i oi cs b hi) (fun cs b => hsel j oj cs b hoj) hy h1
      have hfree' : ∀ k ok, ops[k]? = some ok → k ≠ i → (listed.setIfInBounds j true).getD k true = false →
          (∀ e ∈ ok.after, Region.binds md e = true → e.on ≠ i) → oi.apart ops ok = true := fun k ok hk hki hun hno => by
        refine hfree k ok hk hki ?_ hno
        by_cases hjk : j = k
        · subst hjk; exact hjun
        · rw [getD_set_ne true hjk] at hun; exact hun
      refine qOp_mono (fun a' h3 => ih (listed.setIfInBounds j true) a' (inv.set hj hjn) hfree' (ready_mono hr (Ne.symm hji)) h3.1 ?_) h2
      rw [Array.setIfInBounds_comm _ _ hji]
      exact h3.2

theorem wpAnyT_lex {n g : Nat} {Lq : Act → Prop} (hsel : Region.noSelect ops = true) (hs : Region.sinkB md ops n = true) (hc : Region.chainB md ops n = true) (hn : n < ops.size) :
    ∀ (l : List Oper) (k : Nat) (listed : Array Bool) (a : Act), (∀ j, j < l.length → l[j]? = ops[k + j]?) → k + l.length = n → HeadInv md ops n listed →
    Region.lexHead md ops g l.length k listed = true → wpQuiet P ops C Lq l a →
    wpAnyT P md ops C n (fun listed' a' => Region.seqB md ops g n listed' = true ∧ Lq a') l.length listed a
  | [], k, listed, a, _, hk, _, hB, h => by
    have : k = n := by simpa using hk
    subst this
    exact ⟨by simpa [Region.lexHead] using hB, h⟩
  | o :: l, k, listed, a, hl, hk, inv, hB, h => by
    have h0 : ops[k]? = some o := by simpa using (hl 0 (by simp)).symm
    simp only [List.length_cons, Region.lexHead, Bool.and_eq_true] at hB
    obtain ⟨⟨hr, hf⟩, hB'⟩ := hB
    have hkn : k < n := by simp only [List.length_cons] at hk; omega
    have hr' : k ∈ Region.ready md ops listed := by simpa using hr
    have hst : qOp P ops C k (wpQuiet P ops C Lq l) a := by unfold qOp; simp only [h0]; exact h
    obtain ⟨v, hy, hK⟩ := yieldsIn_of_qOp h0 hst
    exact wpAnyT_first h0 (Region.noSelect_spec hsel) hs hc hn hkn (fun listed' a' hL => seqB_ready hL.1) l.length listed a inv (Region.free_spec h0 hf) hr' hy
      (wpAnyT_lex hsel hs hc hn l (k + 1) _ _ (fun j hj => by have := hl (j + 1) (by simp; omega); simpa [Nat.add_assoc, Nat.add_comm 1 j] using this) (by simp only [List.length_cons] at hk; omega) (inv.set hr' hkn) hB' hK)

theorem wp_region_quiet_tail {id : Nat} {Q : Exit → Act → World → Prop} {a : Act} {w : World} {ops : Array Oper} (n : Nat) (hm : P.follows .mixedOrders = true) (hB : Region.lexTailB .any ops n = true)
    (hC : C { w with drawn := w.drawn + 1 })
    (h : wpQuiet P ops C (fun a' => ∀ w', C w' → wpList P ops Q (ops.toList.drop n) a' w') (ops.toList.take n) a) : (Code.region id ops true).wp P Q a w := by
  simp only [Region.lexTailB, Bool.and_eq_true, decide_eq_true_eq] at hB
  obtain ⟨⟨⟨⟨hsel, hn⟩, hs⟩, hc⟩, hlex⟩ := hB
  have hn' : n < ops.toList.length := by simpa using hn
  have htl : (ops.toList.take n).length = n := by simp; omega
  have hdl : (ops.toList.drop n).length = ops.size - n := by simp
  have inv0 : HeadInv .any ops n (Array.replicate ops.size false) :=
    ⟨by simp, fun j oj _ hl => (by rw [getD_replicate_false] at hl; cases hl), fun t _ ht => getD_in (by simpa using ht) (getD_replicate_false _ _)⟩
  have H := wpAnyT_lex (md := .any) (g := ops.size - n) hsel hs hc hn (ops.toList.take n) 0 _ a (fun j hj => by
    have hj' : j < n := by rw [htl] at hj; exact hj
    simp [hj']) (by simpa using htl) inv0 (by rw [htl]; exact hlex) h
  refine wp_region_any hm ?_
  have := wpAny_of_headT (Q' := Q) (g := ops.size - n) (fun listed a' w' hw' hL => by
    have := wpAny_of_seq (md := .any) (Q' := Q) (ops.toList.drop n) n listed a' w' (fun j => by simp [List.getElem?_drop]) (by rw [hdl]; exact hL.1) (hL.2 w' hw')
    rwa [hdl] at this) _ _ _ _ hC H
  rw [htl, show n + (ops.size - n) = ops.size by omega] at this
  exact this
end
end Go.Sx
namespace Go.Sx
universe u v

/-! ### Regions of any order: each operation from what it sees alone -/
def C.ks (p : Nat → Bool) : C → Bool
  | .ptr k _ _ => p k
  | .sl k _ _ _ _ => p k
  | .obj k => p k
  | .fn _ l => l.all fun x => match x with | .inl k => p k | .inr _ => true
  | _ => true
def Sg.ks (p : Nat → Bool) : Sg → Bool
  | .c x => x.ks p
  | _ => true
def E.ks (p : Nat → Bool) : E → Bool
  | .c x => x.ks p
  | .agg l => l.all (Sg.ks p)
def V.ks (p : Nat → Bool) : V → Bool
  | .e x => x.ks p
  | .tup l => l.all (E.ks p)
def SV.ks (p : Nat → Bool) : SV → Bool
  | .v x => x.ks p
  | .gd _ _ x => x.ks p
def Blk.ks (p : Nat → Bool) : Blk → Bool
  | .cells _ l => l.all (Sg.ks p)
  | .ob o => (List.range o.n).all p
def AgrP (p : Nat → Bool) (ρ ρ' : As) : Prop := ∀ k, p k = true → ρ'.r k = ρ.r k ∧ ρ'.v k = ρ.v k

section
variable {p : Nat → Bool} {ρ ρ' : As}
theorem C.den_ks {c : C} (h : c.ks p = true) (hA : AgrP p ρ ρ') : c.den ρ' = c.den ρ := by
  cases c <;> simp only [C.ks] at h <;> simp only [C.den]
  case ptr k off ix => rw [(hA k h).1]
  case sl k off ix len cap => rw [(hA k h).1]
  case obj k => rw [(hA k h).2]
  case fn f l =>
    congr 2
    apply List.map_congr_left
    intro x hx
    have := List.all_eq_true.1 h x hx
    cases x with
    | inl k => simp only at this; simp only [C.cap, (hA k this).1]
    | inr v => rfl
theorem Sg.cells_ks {g : Sg} (h : g.ks p = true) (hA : AgrP p ρ ρ') : g.cells ρ' = g.cells ρ := by
  cases g with
  | c x => simp only [Sg.cells, C.den_ks h hA]
  | _ => rfl
theorem cellsOf_ks {l : List Sg} (h : l.all (Sg.ks p) = true) (hA : AgrP p ρ ρ') : cellsOf ρ' l = cellsOf ρ l := by
  induction l with
  | nil => rfl
  | cons g l ih =>
    simp only [List.all_cons, Bool.and_eq_true] at h
    simp only [cellsOf, Sg.cells_ks h.1 hA, ih h.2]
theorem E.den_ks {x : E} (h : x.ks p = true) (hA : AgrP p ρ ρ') : x.den ρ' = x.den ρ := by
  cases x with
  | c x => exact C.den_ks h hA
  | agg l => simp only [E.den, cellsOf_ks h hA]
theorem V.den_ks {x : V} (h : x.ks p = true) (hA : AgrP p ρ ρ') : x.den ρ' = x.den ρ := by
  cases x with
  | e x => exact E.den_ks h hA
  | tup l =>
    simp only [V.den]
    congr 2
    apply List.map_congr_left
    intro e he
    exact E.den_ks (List.all_eq_true.1 h e he) hA
theorem SlotOk.ks {a : Act} {t : Nat} {sv : SV} (h : SlotOk ρ a t sv) (hk : sv.ks p = true) (hA : AgrP p ρ ρ') : SlotOk ρ' a t sv := by
  cases sv with
  | v x => simp only [SlotOk, V.den_ks hk hA]; exact h
  | gd s wt x => simp only [SlotOk, E.den_ks hk hA]; exact h
theorem Blk.holds_ks {w : World} {k : Nat} {F : Nat → Prop} {b : Blk} (h : b.holds ρ w k F) (hb : b.ks p = true) (hk : ρ'.r k = ρ.r k ∧ ρ'.v k = ρ.v k) (hA : AgrP p ρ ρ') : b.holds ρ' w k F := by
  cases b with
  | cells t l => simp only [Blk.holds, cellsOf_ks hb hA, hk.1]; exact h
  | ob o => exact o.agr _ _ _ _ _ h (fun j hj => hA j (List.all_eq_true.1 hb j (List.mem_range.2 hj))) hk.1 hk.2
end

/-- What is laid over one another: the latest first. -/
structure Stp where
  sl : List Nat
  K : List Nat
  dst : Option Nat
  ent : Option SV
  nk : Nat
  nk' : Nat
  out : HP
  bef : List Nat
def Stp.tmx (s : Stp) : TM := match s.dst, s.ent with
  | some d, some x => [(d, x)]
  | _, _ => []
def ov {α : Type u} (sel : Nat → Bool) (f : Stp → List (Nat × α)) (base : List (Nat × α)) : List Stp → List (Nat × α)
  | [] => base
  | s :: r => cond (sel r.length) (f s ++ ov sel f base r) (ov sel f base r)

/-- The first of two. -/
def alt {α : Type u} : Option α → Option α → Option α
  | some x, _ => some x
  | none, y => y
theorem look_append {α : Type u} (l r : List (Nat × α)) (k : Nat) : look (l ++ r) k = alt (look l k) (look r k) := by
  induction l with
  | nil => rfl
  | cons p l ih =>
    obtain ⟨j, y⟩ := p
    simp only [List.cons_append, look_cons]
    by_cases h : j = k
    · simp [h, alt]
    · simp [h, ih]
theorem look_filter {α : Type u} (l : List (Nat × α)) (q : Nat → Bool) (k : Nat) : look (l.filter fun p => q p.1) k = if q k = true then look l k else none := by
  induction l with
  | nil => simp [look]
  | cons p l ih =>
    obtain ⟨j, y⟩ := p
    by_cases hj : q j = true
    · rw [List.filter_cons_of_pos (by simpa using hj), look_cons, look_cons, ih]
      by_cases h : j = k
      · subst h; simp [hj]
      · simp [h]
    · rw [List.filter_cons_of_neg (by simpa using hj), look_cons, ih]
      by_cases h : j = k
      · subst h; simp [hj]
      · simp [h]

section
variable {α : Type u} {sel sel' : Nat → Bool} {f : Stp → List (Nat × α)} {base : List (Nat × α)}
theorem ov_congr {t : Nat} : ∀ {r : List Stp}, (∀ j s, r.reverse[j]? = some s → (look (f s) t).isSome = true → sel j = sel' j) → look (ov sel f base r) t = look (ov sel' f base r) t
  | [], _ => rfl
  | s :: r, h => by
    have ih := ov_congr (r := r) (t := t) fun j s' hj hs => h j s' (by
      have hlt : j < r.reverse.length := by
        rcases Nat.lt_or_ge j r.reverse.length with h' | h'
        · exact h'
        · rw [List.getElem?_eq_none h'] at hj; cases hj
      rw [List.reverse_cons, List.getElem?_append_left hlt]; exact hj) hs
    have hs := h r.length s (by rw [List.reverse_cons, List.getElem?_append_right (by simp)]; simp)
    simp only [ov]
    cases hl : look (f s) t with
    | some x =>
      rw [hl] at hs
      rw [hs rfl]
      cases sel' r.length
      · exact ih
      · simp only [cond_true, look_append, hl, alt]
    | none =>
      have e : ∀ b : Bool, ∀ g : List (Nat × α), look (cond b (f s ++ g) g) t = look g t := fun b g => by
        cases b
        · rfl
        · simp only [cond_true, look_append, hl, alt]
      rw [e, e, ih]
theorem ov_lt (m r : List Stp) : ov (fun j => decide (j < r.length)) f base (m ++ r) = ov (fun j => decide (j < r.length)) f base r := by
  induction m with
  | nil => rfl
  | cons s m ih => simp only [List.cons_append, ov]; rw [decide_eq_false (by simp only [List.length_append]; omega), cond_false, ih]
theorem ov_one {t i : Nat} (hi : sel i = false) (hi' : sel' i = true) (ho : ∀ j, j ≠ i → sel' j = sel j) : ∀ {r : List Stp} {s : Stp}, r.reverse[i]? = some s → (∀ j s', r.reverse[j]? = some s' → i < j → sel j = true → (look (f s') t).isSome = true → (look (f s) t).isSome = false) →
    look (ov sel' f base r) t = alt (look (f s) t) (look (ov sel f base r) t)
  | [], s, h, _ => by simp at h
  | s0 :: r, s, h, hn => by
    simp only [ov]
    by_cases hl : i = r.length
    · subst hl
      rw [List.reverse_cons, List.getElem?_append_right (by simp)] at h
      simp at h
      subst h
      rw [hi, hi', cond_true, cond_false, look_append]
      have : look (ov sel' f base r) t = look (ov sel f base r) t := ov_congr fun j s' hj _ => ho j (by
        have hlt : j < r.reverse.length := by
          rcases Nat.lt_or_ge j r.reverse.length with h' | h'
          · exact h'
          · rw [List.getElem?_eq_none h'] at hj; cases hj
        simp at hlt; omega)
      rw [this]
    · have hlt : i < r.length := by
        rcases Nat.lt_or_ge i (s0 :: r).reverse.length with h' | h'
        · simp at h'; omega
        · rw [List.getElem?_eq_none h'] at h; cases h
      have h' : r.reverse[i]? = some s := by
        rw [List.reverse_cons, List.getElem?_append_left (by simpa using hlt)] at h; exact h
      have ih := ov_one hi hi' ho h' fun j s' hj => hn j s' (by
        have hlt : j < r.reverse.length := by
          rcases Nat.lt_or_ge j r.reverse.length with h' | h'
          · exact h'
          · rw [List.getElem?_eq_none h'] at hj; cases hj
        rw [List.reverse_cons, List.getElem?_append_left hlt]; exact hj)
      rw [ho _ (fun e => hl e.symm)]
      cases hs : sel r.length with
      | false => simpa using ih
      | true =>
        simp only [cond_true, look_append, ih]
        cases h0 : look (f s0) t with
        | none => rfl
        | some x =>
          have := hn r.length s0 (by rw [List.reverse_cons, List.getElem?_append_right (by simp)]; simp) hlt hs (by rw [h0]; rfl)
          cases h1 : look (f s) t with
          | none => rfl
          | some y => rw [h1] at this; cases this
end

/-- One operation on what it sees of the heap: the whole behind it. -/
theorem heap_step {ρ ρ' : As} {φ φ' : Nat → Nat → Prop} {w w' : World} {f f' rh h' : HP} {n n' m : Nat} {q : Nat → Bool} (hR : Rep ρ φ f w) (hrh : ∀ k b, look rh k = some b → look f k = some b)
    (hR' : Rep ρ' φ' h' w') (hE : Evo ρ φ ⟨rh, n⟩ w ρ' φ' ⟨h', n'⟩ w') (hkb : hpkb h' n' = true) (hd1 : ∀ k, (look rh k).isSome = true → (look h' k).isSome = true)
    (hf : ∀ k b, look f k = some b → q k = true ∧ b.ks q = true) (hq : ∀ k, q k = true → k < n ∨ n' ≤ k) (hmn : ∀ k, k < m → k < n) (hf' : ∀ k, look f' k = alt (look h' k) (look f k)) :
    ∃ ρ'' φ'', Rep ρ'' φ'' f' w' ∧ Evo ρ φ ⟨f, m⟩ w ρ'' φ'' ⟨f', m⟩ w' ∧ AgrP q ρ ρ'' ∧ Agr n' ρ' ρ'' := by
  refine ⟨⟨fun k => if n ≤ k ∧ k < n' then ρ'.r k else ρ.r k, fun k => if n ≤ k ∧ k < n' then ρ'.v k else ρ.v k, fun k => by split; exact ρ'.one k; exact ρ.one k⟩, fun k => if (look h' k).isSome = true then φ' k else φ k, ?_, ?_, ?_, ?_⟩
  case refine_3 =>
    intro k hk
    have := hq k hk
    constructor <;> exact if_neg (by omega)
  case refine_4 =>
    intro k hk
    dsimp only
    by_cases hn : n ≤ k
    · rw [if_pos ⟨hn, hk⟩, if_pos ⟨hn, hk⟩]; exact ⟨rfl, rfl⟩
    · rw [if_neg (by omega), if_neg (by omega)]
      have := hE.agr k (by simp; omega)
      exact ⟨this.1.symm, this.2.symm⟩
  case refine_1 =>
    have hA : AgrP q ρ ⟨fun k => if n ≤ k ∧ k < n' then ρ'.r k else ρ.r k, fun k => if n ≤ k ∧ k < n' then ρ'.v k else ρ.v k, fun k => by split; exact ρ'.one k; exact ρ.one k⟩ := by
      intro k hk
      have := hq k hk
      constructor <;> exact if_neg (by omega)
    have hA' : Agr n' ρ' ⟨fun k => if n ≤ k ∧ k < n' then ρ'.r k else ρ.r k, fun k => if n ≤ k ∧ k < n' then ρ'.v k else ρ.v k, fun k => by split; exact ρ'.one k; exact ρ.one k⟩ := by
      intro k hk
      dsimp only
      by_cases hn : n ≤ k
      · rw [if_pos ⟨hn, hk⟩, if_pos ⟨hn, hk⟩]; exact ⟨rfl, rfl⟩
      · rw [if_neg (by omega), if_neg (by omega)]
        have := hE.agr k (by simp; omega)
        exact ⟨this.1.symm, this.2.symm⟩
    have hno : ∀ k, look h' k = none → ∀ j b, look rh j = some b → j ≠ k := by
      rintro k hk j b hj rfl
      have := hd1 j (by rw [hj]; rfl)
      rw [hk] at this; cases this
    have hloc : ∀ k b, look h' k = none → look f k = some b → ∀ x, φ k x → w'.heap[x]? = w.heap[x]? := fun k b hk hb x hx =>
      hE.fr x (hR.lt k b hb x hx) fun j bj hj hxj => hR.dis k j b bj hb (hrh j bj hj) (hno k hk j bj hj).symm x hx hxj
    constructor
    · intro k b hb
      rw [hf'] at hb
      cases hk : look h' k with
      | some b' =>
        simp only [hk, alt] at hb
        cases hb
        simp only [Option.isSome_some, if_true]
        have := hpkb_look hkb hk
        exact Blk.holds_agr (hR'.ok k _ hk) this.2 this.1 hA'
      | none =>
        simp only [hk, alt] at hb
        simp only [Option.isSome_none, Bool.false_eq_true, if_false]
        exact Blk.holds_ks (Blk.holds_loc (hR.ok k b hb) (hloc k b hk hb)) (hf k b hb).2 (hA k (hf k b hb).1) hA
    · intro k b hb x hx
      rw [hf'] at hb

      cases hk : look h' k with
      | some b' =>
        simp only [hk, Option.isSome_some, if_true] at hx
        exact hR'.lt k b' hk x hx
      | none =>
        simp only [hk, alt] at hb
        simp only [hk, Option.isSome_none, Bool.false_eq_true, if_false] at hx
        exact Nat.lt_of_lt_of_le (hR.lt k b hb x hx) hE.size
    · intro k j b b' hb hb' hne x hx hx'
      rw [hf'] at hb hb'

      have mixed : ∀ k j b c, look h' k = some c → look h' j = none → look f j = some b → ∀ x, φ' k x → ¬ φ j x := by
        intro k j b c hk hj hb x hx hx'
        have hlt := hR.lt j b hb x hx'
        obtain ⟨k0, b0, h0, h1⟩ := hE.own k c hk x hx hlt
        exact hR.dis k0 j b0 b (hrh k0 b0 h0) hb (hno j hj k0 b0 h0) x h1 hx'
      cases hk : look h' k with
      | some c =>
        simp only [hk, Option.isSome_some, if_true] at hx
        cases hj : look h' j with
        | some c' =>
          simp only [hj, Option.isSome_some, if_true] at hx'
          exact hR'.dis k j c c' hk hj hne x hx hx'
        | none =>
          simp only [hj, alt] at hb'
          simp only [hj, Option.isSome_none, Bool.false_eq_true, if_false] at hx'
          exact mixed k j _ c hk hj hb' x hx hx'
      | none =>
        simp only [hk, alt] at hb
        simp only [hk, Option.isSome_none, Bool.false_eq_true, if_false] at hx
        cases hj : look h' j with
        | some c' =>
          simp only [hj, Option.isSome_some, if_true] at hx'
          exact mixed j k _ c' hj hk hb x hx' hx
        | none =>
          simp only [hj, alt] at hb'
          simp only [hj, Option.isSome_none, Bool.false_eq_true, if_false] at hx'
          exact hR.dis k j b b' hb hb' hne x hx hx'
  case refine_2 =>
    refine ⟨Nat.le_refl _, ?_, ?_, ?_, hE.os, hE.tape, hE.output, hE.size⟩
    · intro k hk
      have := hmn k hk
      constructor <;> exact if_neg (by omega)
    · intro k b hb x hx hlt
      rw [hf'] at hb

      cases hk : look h' k with
      | some c =>
        simp only [hk, Option.isSome_some, if_true] at hx
        obtain ⟨k0, b0, h0, h1⟩ := hE.own k c hk x hx hlt
        exact ⟨k0, b0, hrh k0 b0 h0, h1⟩
      | none =>
        simp only [hk, alt] at hb
        simp only [hk, Option.isSome_none, Bool.false_eq_true, if_false] at hx
        exact ⟨k, b, hb, hx⟩
    · intro x hx hno
      exact hE.fr x hx fun k b hk => hno k b (hrh k b hk)
end Go.Sx
