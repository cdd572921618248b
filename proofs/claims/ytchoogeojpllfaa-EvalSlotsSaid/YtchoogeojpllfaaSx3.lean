/- The executor, part 3. -/
import Derived.Test.YtchoogeojpllfaaSx2
import Derived.LoopN
import Derived.Scope
set_option linter.unusedVariables false
set_option linter.unusedSimpArgs false
namespace Go.Sx
universe u v

def isMem (o : Oper) : Bool :=
  match o.op with
  | .store _ _ _ | .box _ _ | .alloc _ | .buildSlice _ _ _ => true
  | _ => false
def keysC : C → List Nat
  | .ptr k _ _ => [k]
  | .sl k _ _ _ _ => [k]
  | .obj k => [k]
  | .fn _ l => l.filterMap fun x => match x with | .inl k => some k | .inr _ => none
  | _ => []
def keysG : Sg → List Nat
  | .c x => keysC x
  | _ => []
def keysE : E → List Nat
  | .c x => keysC x
  | .agg l => l.flatMap keysG
def keysSV : SV → List Nat
  | .v (.e x) => keysE x
  | .v (.tup l) => l.flatMap keysE
  | .gd _ _ x => keysE x
def keysB : Blk → List Nat
  | .cells _ l => l.flatMap keysG
  | .ob _ => []
def reach : Nat → HP → List Nat → List Nat
  | 0, _, ks => ks
  | n + 1, hp, ks =>
    match (ks.flatMap fun k => match look hp k with | some b => keysB b | none => []).filter fun k => !ks.contains k with
    | [] => ks
    | new => reach n hp (new ++ ks)
def slotsOf (ops : Array Oper) (o : Oper) : List Nat :=
  (o.op.operands.toList.filterMap fun x => match x with | .tmp t => some t | _ => none) ++ (match o.guard with
    | some (j, _) => (match (ops[j]?).bind (·.dst) with | some s => [s] | none => [])
    | none => [])
def isQuietO (S : Sp) (tm : TM) (hp : HP) (o : Oper) : Bool :=
  match o.guard, calleeOf o.op with
  | none, some (f, args) => (match callArgs none tm f args with
    | some (fid, l) => (match S.q fid l hp, S.x o.op l hp with | .fail, .fail => false | _, _ => true)
    | none => true)
  | _, _ => !(isMem o) && (yArgs o.op).isNone
def befOf (acc : List Stp) (o : Oper) : List Nat :=
  (o.after.toList.filter (Region.binds .any)).flatMap fun e => e.on :: (match acc.reverse[e.on]? with | some s => s.bef | none => [])
def inR (s : Stp) (k : Nat) : Bool := decide (s.nk ≤ k) && decide (k < s.nk')
def pOf (n0 : Nat) (acc : List Stp) (s : Stp) (k : Nat) : Bool :=
  decide (k < n0) || inR s k || s.bef.any fun j => match acc.reverse[j]? with | some r => inR r k | none => false
def topNk (n0 : Nat) : List Stp → Nat
  | [] => n0
  | s :: _ => s.nk'
def gsOf (gs : List Nat) : List Stp → List Nat
  | [] => gs
  | s :: r => (match s.ent with | some (.gd t _ _) => t :: gsOf gs r | _ => gsOf gs r)
def djn (a b : List Nat) : Bool := a.all fun x => !b.contains x
def nc (r s : Stp) : Bool :=
  djn r.dst.toList s.sl && djn s.dst.toList r.sl && djn (r.out.map (·.1)) s.K && djn (s.out.map (·.1)) r.K && djn (r.out.map (·.1)) (s.out.map (·.1))
def pairs (s : Stp) : List Stp → Bool
  | [] => true
  | r :: l => djn r.dst.toList s.dst.toList && (s.bef.contains l.length || nc r s) && pairs s l
def chk (n0 : Nat) (gs : List Nat) (acc : List Stp) (s : Stp) : Bool :=
  pairs s acc && s.bef.all (fun j => decide (j < acc.length)) && (s.dst.isSome == s.ent.isSome) && djn s.dst.toList gs &&
  (match s.ent with | some x => x.ks (pOf n0 acc s) | none => true) && s.out.all (fun p => pOf n0 acc s p.1 && p.2.ks (pOf n0 acc s)) &&
  (match s.ent with | some (.gd t _ _) => s.bef.any fun j => (match acc.reverse[j]? with | some r => r.dst == some t | none => false) | _ => true) && decide (s.nk ≤ s.nk')
def rtmOf (tm0 : TM) (acc : List Stp) (sl : List Nat) : TM := (ov (fun _ => true) Stp.tmx tm0 acc).filter fun p => sl.contains p.1
def rhOf (hp0 : HP) (acc : List Stp) (K : List Nat) : HP := (ov (fun _ => true) Stp.out hp0 acc).filter fun p => K.contains p.1
def domOk (rh h' : HP) (_ : Nat) : Bool := rh.all (fun p => (look h' p.1).isSome)
def anyStp (P : Program) (S : Sp) (N : Nat) (ops : Array Oper) (st : St) (o : Oper) (acc : List Stp) : R Stp :=
  let sl := slotsOf ops o
  let rtm := rtmOf st.tm acc sl
  let hp := ov (fun _ => true) Stp.out st.h.hp acc
  let nk := topNk st.h.nk acc
  let K := reach 40 hp (rtm.flatMap fun p => keysSV p.2)
  let rh := rhOf st.h.hp acc K
  let ent (s' : St) : Option SV := o.dst.bind fun d => look s'.tm d
  if isQuietO S rtm rh o then (stepQ P S N ops o ⟨rtm, gsOf st.gs acc, ⟨rh, nk⟩⟩).bind fun s' => .ok ⟨sl, K, o.dst, ent s', nk, nk, [], befOf acc o⟩
  else (stepO P S N ops o ⟨rtm, gsOf st.gs acc, ⟨rh, nk⟩⟩).bind fun s' => if domOk rh s'.h.hp nk then .ok ⟨sl, K, o.dst, ent s', nk, s'.h.nk, s'.h.hp, befOf acc o⟩ else .fail
def anyRun (P : Program) (S : Sp) (N : Nat) (ops : Array Oper) (st : St) : List Oper → List Stp → R (List Stp)
  | [], acc => .ok acc
  | o :: l, acc => (anyStp P S N ops st o acc).bind fun s => if chk st.h.nk st.gs acc s then anyRun P S N ops st l (s :: acc) else .fail
def anyFin (st : St) (acc : List Stp) : St :=
  ⟨ov (fun _ => true) Stp.tmx st.tm acc, gsOf st.gs acc, ⟨ov (fun _ => true) Stp.out st.h.hp acc, topNk st.h.nk acc⟩⟩
def regionAny (P : Program) (S : Sp) (N : Nat) (ops : Array Oper) (st : St) : R St :=
  (anyRun P S N ops st ops.toList []).bind fun acc => .ok (anyFin st acc)

/-! ### What is known of the records -/
section
variable {P : Program} {S : Sp} {N : Nat} {ops : Array Oper} {st : St}
/-- One record is right. -/
structure StOk (P : Program) (S : Sp) (N : Nat) (ops : Array Oper) (st : St) (acc : List Stp) (s : Stp) (o : Oper) : Prop where
  at_ : ops[acc.length]? = some o
  dst : s.dst = o.dst
  bef : s.bef = befOf acc o
  nk : s.nk = topNk st.h.nk acc
  chk : chk st.h.nk st.gs acc s = true
  run : (s.nk' = s.nk ∧ s.out = [] ∧ (stepQ P S N ops o ⟨rtmOf st.tm acc s.sl, gsOf st.gs acc, ⟨rhOf st.h.hp acc s.K, s.nk⟩⟩).sat fun s' => s.ent = o.dst.bind fun d => look s'.tm d) ∨
    (stepO P S N ops o ⟨rtmOf st.tm acc s.sl, gsOf st.gs acc, ⟨rhOf st.h.hp acc s.K, s.nk⟩⟩).sat fun s' => domOk (rhOf st.h.hp acc s.K) s'.h.hp s.nk = true ∧ s.nk' = s'.h.nk ∧ s.out = s'.h.hp ∧ s.ent = o.dst.bind fun d => look s'.tm d
def AllOk (P : Program) (S : Sp) (N : Nat) (ops : Array Oper) (st : St) : List Stp → Prop
  | [] => True
  | s :: r => (∃ o, StOk P S N ops st r s o) ∧ AllOk P S N ops st r

theorem anyStp_ok {o : Oper} {acc : List Stp} {Q : Stp → Prop} (ho : ops[acc.length]? = some o) (h : (anyStp P S N ops st o acc).sat Q) : ∃ s, Q s ∧ (chk st.h.nk st.gs acc s = true → StOk P S N ops st acc s o) := by
  unfold anyStp at h
  simp only at h
  split at h
  · obtain ⟨s', hq, hs⟩ := R.sat_val (R.sat_bind h)
    exact ⟨_, hq, fun hc => ⟨ho, rfl, rfl, rfl, hc, .inl ⟨rfl, rfl, R.sat_mono (fun x (hx : x = s') => by subst hx; rfl) hs⟩⟩⟩
  · obtain ⟨s', hq, hs⟩ := R.sat_val (R.sat_bind h)
    split at hq
    · rename_i hd
      exact ⟨_, hq, fun hc => ⟨ho, rfl, rfl, rfl, hc, .inr (R.sat_mono (fun x (hx : x = s') => by subst hx; exact ⟨hd, rfl, rfl, rfl⟩) hs)⟩⟩
    · exact hq.elim
theorem anyRun_ok : ∀ (l : List Oper) (acc : List Stp) (Q : List Stp → Prop), AllOk P S N ops st acc → (∀ j, l[j]? = ops[acc.length + j]?) → (anyRun P S N ops st l acc).sat Q → ∃ full, Q full ∧ AllOk P S N ops st full ∧ full.length = acc.length + l.length
  | [], acc, Q, ha, _, h => ⟨acc, h, ha, rfl⟩
  | o :: l, acc, Q, ha, hl, h => by
    have h0 : ops[acc.length]? = some o := by simpa using (hl 0).symm
    obtain ⟨s, hq, hs⟩ := anyStp_ok h0 (R.sat_bind h)
    split at hq
    · rename_i hc
      obtain ⟨full, h1, h2, h3⟩ := anyRun_ok l (s :: acc) Q ⟨⟨o, hs hc⟩, ha⟩ (fun j => by have := hl (j + 1); simpa [Nat.add_assoc, Nat.add_comm 1 j] using this) hq
      exact ⟨full, h1, h2, by simp only [List.length_cons] at h3 ⊢; omega⟩
    · exact hq.elim

/-- The record of a number, and those ahead of it. -/
theorem AllOk.get {full : List Stp} (h : AllOk P S N ops st full) {i : Nat} {s : Stp} (hi : full.reverse[i]? = some s) : ∃ m acc o, full = m ++ s :: acc ∧ acc.length = i ∧ StOk P S N ops st acc s o ∧ AllOk P S N ops st acc := by
  induction full with
  | nil => simp at hi
  | cons s0 r ih =>
    by_cases hl : i = r.length
    · subst hl
      rw [List.reverse_cons, List.getElem?_append_right (by simp)] at hi
      simp at hi
      subst hi
      obtain ⟨o, ho⟩ := h.1
      exact ⟨[], r, o, rfl, rfl, ho, h.2⟩
    · have hlt : i < r.length := by
        rcases Nat.lt_or_ge i (s0 :: r).reverse.length with h' | h'
        · simp at h'; omega
        · rw [List.getElem?_eq_none h'] at hi; cases hi
      rw [List.reverse_cons, List.getElem?_append_left (by simpa using hlt)] at hi
      obtain ⟨m, acc, o, rfl, h2, h3⟩ := ih h.2 hi
      exact ⟨s0 :: m, acc, o, rfl, h2, h3⟩
theorem rev_get {m acc : List Stp} {s : Stp} {j : Nat} (hj : j < acc.length) : (m ++ s :: acc).reverse[j]? = acc.reverse[j]? := by
  rw [List.reverse_append, List.reverse_cons, List.append_assoc, List.getElem?_append_left (by simpa using hj)]
theorem rev_len {r : List Stp} {j : Nat} {s : Stp} (h : r.reverse[j]? = some s) : j < r.length := by
  rcases Nat.lt_or_ge j r.reverse.length with h' | h'
  · simpa using h'
  · rw [List.getElem?_eq_none h'] at h; cases h
theorem rev_some {r : List Stp} {j : Nat} (h : j < r.length) : ∃ s, r.reverse[j]? = some s := by
  have : j < r.reverse.length := by simpa using h
  exact ⟨_, List.getElem?_eq_getElem this⟩
theorem rev_self {m acc : List Stp} {s : Stp} : (m ++ s :: acc).reverse[acc.length]? = some s := by
  rw [List.reverse_append, List.reverse_cons, List.append_assoc, List.getElem?_append_right (by simp)]
  simp
theorem pairs_get {s : Stp} : ∀ {acc : List Stp} {j : Nat} {r : Stp}, pairs s acc = true → acc.reverse[j]? = some r → djn r.dst.toList s.dst.toList = true ∧ (j ∈ s.bef ∨ nc r s = true)
  | r0 :: l, j, r, h, hj => by
    simp only [pairs, Bool.and_eq_true, Bool.or_eq_true, List.contains_eq_mem, decide_eq_true_eq] at h
    by_cases hl : j = l.length
    · subst hl
      rw [List.reverse_cons, List.getElem?_append_right (by simp)] at hj
      simp at hj
      subst hj
      exact h.1
    · have hlt : j < l.length := by
        have := rev_len hj
        simp at this; omega
      rw [List.reverse_cons, List.getElem?_append_left (by simpa using hlt)] at hj
      exact pairs_get h.2 hj
theorem djn_spec {a b : List Nat} (h : djn a b = true) {x : Nat} (hx : x ∈ a) : x ∉ b := by
  have := List.all_eq_true.1 h x hx
  simpa using this

/-- Two records: either one waits for the other, or they have nothing to do with one another. -/
theorem AllOk.two {full : List Stp} (h : AllOk P S N ops st full) {i j : Nat} {r s : Stp} (hi : full.reverse[i]? = some r) (hj : full.reverse[j]? = some s) (hij : i < j) : djn r.dst.toList s.dst.toList = true ∧ (i ∈ s.bef ∨ nc r s = true) := by
  obtain ⟨m, acc, o, rfl, rfl, hs, _⟩ := h.get hj
  have hc := hs.chk
  simp only [chk, Bool.and_eq_true] at hc
  rw [rev_get hij] at hi
  exact pairs_get hc.1.1.1.1.1.1.1 hi
/-- Whatever a record waits for is listed. -/
theorem AllOk.closed {full : List Stp} (h : AllOk P S N ops st full) {listed : Array Bool} (hc : ∀ j oj, ops[j]? = some oj → listed.getD j false = true → ∀ e ∈ oj.after, Region.binds .any e = true → listed.getD e.on false = true) :
    ∀ (n j : Nat) (s : Stp), j < n → full.reverse[j]? = some s → (∀ oj, ops[j]? = some oj → ∀ e ∈ oj.after, Region.binds .any e = true → listed.getD e.on false = true) → ∀ k ∈ s.bef, listed.getD k false = true := by
  intro n
  induction n with
  | zero => intro j s hj; omega
  | succ n ih =>
    intro j s hj hs hd k hk
    obtain ⟨m, acc, o, rfl, rfl, hst, _⟩ := h.get hs
    have hlt : ∀ k ∈ s.bef, k < acc.length := by
      have hc := hst.chk
      simp only [chk, Bool.and_eq_true] at hc
      intro k hk
      have := List.all_eq_true.1 hc.1.1.1.1.1.1.2 k hk
      simpa using this
    have hk' := hk
    rw [hst.bef] at hk'
    unfold befOf at hk'
    obtain ⟨e, he, hk2⟩ := List.mem_flatMap.1 hk'
    obtain ⟨he1, he2⟩ := List.mem_filter.1 he
    have hl := hd o hst.at_ e (by simpa using he1) he2
    rcases List.mem_cons.1 hk2 with rfl | hk3
    · exact hl
    · have hon : e.on ∈ s.bef := by
        rw [hst.bef]; unfold befOf
        exact List.mem_flatMap.2 ⟨e, he, List.mem_cons_self⟩
      have hlt' := hlt _ hon
      split at hk3
      · rename_i r hr
        refine ih e.on r (by omega) (by rw [rev_get hlt']; exact hr) (fun oj ho e' he' hb' => hc _ _ ho hl e' he' hb') k hk3
      · cases hk3
end
end Go.Sx
namespace Go.Sx
universe u v

section
variable {p q : Nat → Bool} {n : Nat}
theorem C.ks_mono (h : ∀ k, p k = true → q k = true) {c : C} (hc : c.ks p = true) : c.ks q = true := by
  cases c <;> simp only [C.ks] at hc ⊢
  case fn f l =>
    refine List.all_eq_true.2 fun x hx => ?_
    have := List.all_eq_true.1 hc x hx
    cases x with
    | inl k => exact h k this
    | inr v => rfl
  all_goals exact h _ hc
theorem Sg.ks_mono (h : ∀ k, p k = true → q k = true) {c : Sg} (hc : c.ks p = true) : c.ks q = true := by
  cases c with
  | c x => exact C.ks_mono h hc
  | _ => rfl
theorem E.ks_mono (h : ∀ k, p k = true → q k = true) {c : E} (hc : c.ks p = true) : c.ks q = true := by
  cases c with
  | c x => exact C.ks_mono h hc
  | agg l => exact List.all_eq_true.2 fun x hx => Sg.ks_mono h (List.all_eq_true.1 hc x hx)
theorem V.ks_mono (h : ∀ k, p k = true → q k = true) {c : V} (hc : c.ks p = true) : c.ks q = true := by
  cases c with
  | e x => exact E.ks_mono h hc
  | tup l => exact List.all_eq_true.2 fun x hx => E.ks_mono h (List.all_eq_true.1 hc x hx)
theorem SV.ks_mono (h : ∀ k, p k = true → q k = true) {c : SV} (hc : c.ks p = true) : c.ks q = true := by
  cases c with
  | v x => exact V.ks_mono h hc
  | gd s wt x => exact E.ks_mono h hc
theorem Blk.ks_mono (h : ∀ k, p k = true → q k = true) {c : Blk} (hc : c.ks p = true) : c.ks q = true := by
  cases c with
  | cells t l => exact List.all_eq_true.2 fun x hx => Sg.ks_mono h (List.all_eq_true.1 hc x hx)
  | ob o => exact List.all_eq_true.2 fun x hx => h x (List.all_eq_true.1 hc x hx)
theorem C.kb_ks {c : C} : c.kb n = c.ks fun k => decide (k < n) := by cases c <;> rfl
theorem Sg.kb_ks {c : Sg} : c.kb n = c.ks fun k => decide (k < n) := by
  cases c with
  | c x => exact C.kb_ks
  | _ => rfl
theorem all_congr' {α : Type u} {f g : α → Bool} (h : ∀ x, f x = g x) (l : List α) : l.all f = l.all g := by rw [show f = g from funext h]
theorem E.kb_ks {c : E} : c.kb n = c.ks fun k => decide (k < n) := by
  cases c with
  | c x => exact C.kb_ks
  | agg l => exact all_congr' (fun x => Sg.kb_ks) l
theorem SV.kb_ks {c : SV} : c.kb n = c.ks fun k => decide (k < n) := by
  cases c with
  | v x =>
    cases x with
    | e x => exact E.kb_ks
    | tup l => exact all_congr' (fun x => E.kb_ks) l
  | gd s wt x => exact E.kb_ks
theorem Blk.ks_kb {c : Blk} (h : c.ks (fun k => decide (k < n)) = true) : c.kb n = true := by
  cases c with
  | cells t l => simp only [Blk.kb, Blk.ks] at *; rw [all_congr' (fun x => Sg.kb_ks)]; exact h
  | ob o =>
    simp only [Blk.kb, decide_eq_true_eq]
    rcases Nat.lt_or_ge n o.n with h' | h'
    · have := List.all_eq_true.1 h (o.n - 1) (List.mem_range.2 (by omega))
      simp only [decide_eq_true_eq] at this; omega
    · exact h'
theorem Blk.kb_ks {c : Blk} (h : c.kb n = true) : c.ks (fun k => decide (k < n)) = true := by
  cases c with
  | cells t l => simp only [Blk.kb, Blk.ks] at *; rw [← all_congr' (fun x => Sg.kb_ks)]; exact h
  | ob o =>
    simp only [Blk.kb, decide_eq_true_eq] at h
    exact List.all_eq_true.2 fun x hx => by have := List.mem_range.1 hx; simp only [decide_eq_true_eq]; omega
end

section
variable {α : Type u} {sel : Nat → Bool} {f : Stp → List (Nat × α)} {base : List (Nat × α)}
theorem mem_ov {x : Nat × α} : ∀ {r : List Stp}, x ∈ ov sel f base r → x ∈ base ∨ ∃ j s, r.reverse[j]? = some s ∧ sel j = true ∧ x ∈ f s
  | [], h => .inl h
  | s :: r, h => by
    have up : (∃ j s', r.reverse[j]? = some s' ∧ sel j = true ∧ x ∈ f s') → ∃ j s', (s :: r).reverse[j]? = some s' ∧ sel j = true ∧ x ∈ f s' := by
      rintro ⟨j, s', h1, h2⟩
      exact ⟨j, s', by rw [List.reverse_cons, List.getElem?_append_left (by simpa using rev_len h1)]; exact h1, h2⟩
    simp only [ov] at h
    cases hs : sel r.length with
    | false => rw [hs] at h; exact (mem_ov h).imp id up
    | true =>
      rw [hs] at h
      rcases List.mem_append.1 h with h | h
      · exact .inr ⟨r.length, s, by rw [List.reverse_cons, List.getElem?_append_right (by simp)]; simp, hs, h⟩
      · exact (mem_ov h).imp id up
theorem look_ov {t : Nat} {x : α} : ∀ {r : List Stp}, look (ov sel f base r) t = some x → look base t = some x ∨ ∃ j s, r.reverse[j]? = some s ∧ sel j = true ∧ look (f s) t = some x
  | [], h => .inl h
  | s :: r, h => by
    have up : (∃ j s', r.reverse[j]? = some s' ∧ sel j = true ∧ look (f s') t = some x) → ∃ j s', (s :: r).reverse[j]? = some s' ∧ sel j = true ∧ look (f s') t = some x := by
      rintro ⟨j, s', h1, h2⟩
      exact ⟨j, s', by rw [List.reverse_cons, List.getElem?_append_left (by simpa using rev_len h1)]; exact h1, h2⟩
    simp only [ov] at h
    cases hs : sel r.length with
    | false => rw [hs] at h; exact (look_ov h).imp id up
    | true =>
      rw [hs] at h
      simp only [cond_true, look_append] at h
      cases hl : look (f s) t with
      | some y =>
        simp only [hl, alt] at h; cases h
        exact .inr ⟨r.length, s, by rw [List.reverse_cons, List.getElem?_append_right (by simp)]; simp, hs, hl⟩
      | none => simp only [hl, alt] at h; exact (look_ov h).imp id up
end

section
variable {P : Program} {S : Sp} {N : Nat} {ops : Array Oper} {st : St}
theorem chk_split {n0 : Nat} {gs : List Nat} {acc : List Stp} {s : Stp} (h : chk n0 gs acc s = true) : (∀ j ∈ s.bef, j < acc.length) ∧ s.dst.isSome = s.ent.isSome ∧ djn s.dst.toList gs = true ∧
    (∀ x, s.ent = some x → x.ks (pOf n0 acc s) = true) ∧ (∀ k b, (k, b) ∈ s.out → pOf n0 acc s k = true ∧ b.ks (pOf n0 acc s) = true) ∧
    (∀ t wt x, s.ent = some (.gd t wt x) → ∃ j ∈ s.bef, ∃ r, acc.reverse[j]? = some r ∧ r.dst = some t) ∧ s.nk ≤ s.nk' := by
  simp only [chk, Bool.and_eq_true, decide_eq_true_eq, beq_iff_eq] at h
  obtain ⟨⟨⟨⟨⟨⟨⟨_, h1⟩, h2⟩, h3⟩, h4⟩, h5⟩, h6⟩, h7⟩ := h
  refine ⟨fun j hj => by simpa using List.all_eq_true.1 h1 j hj, h2, h3, fun x hx => by rw [hx] at h4; exact h4, fun k b hb => by simpa using List.all_eq_true.1 h5 _ hb, fun t wt x hx => ?_, h7⟩
  rw [hx] at h6
  obtain ⟨j, hj, hr⟩ := List.any_eq_true.1 h6
  cases hg : acc.reverse[j]? with
  | none => rw [hg] at hr; cases hr
  | some r => rw [hg] at hr; exact ⟨j, hj, r, hg, by simpa using hr⟩

theorem AllOk.top {acc : List Stp} (h : AllOk P S N ops st acc) : st.h.nk ≤ topNk st.h.nk acc := by
  induction acc with
  | nil => exact Nat.le_refl _
  | cons s r ih =>
    obtain ⟨o, ho⟩ := h.1
    have := (chk_split ho.chk).2.2.2.2.2.2
    have := ih h.2
    rw [ho.nk] at *
    simp only [topNk]; omega
theorem AllOk.below {acc : List Stp} (h : AllOk P S N ops st acc) {j : Nat} {r : Stp} (hj : acc.reverse[j]? = some r) : st.h.nk ≤ r.nk ∧ r.nk ≤ r.nk' ∧ r.nk' ≤ topNk st.h.nk acc := by
  induction acc with
  | nil => simp at hj
  | cons s l ih =>
    obtain ⟨o, ho⟩ := h.1
    have h7 := (chk_split ho.chk).2.2.2.2.2.2
    by_cases hl : j = l.length
    · subst hl
      rw [List.reverse_cons, List.getElem?_append_right (by simp)] at hj
      simp at hj
      subst hj
      have := h.2.top
      exact ⟨by rw [ho.nk]; exact this, h7, Nat.le_refl _⟩
    · have hlt : j < l.length := by have := rev_len hj; simp at this; omega
      rw [List.reverse_cons, List.getElem?_append_left (by simpa using hlt)] at hj
      have := ih h.2 hj
      have e := ho.nk
      simp only [topNk] at *
      omega
/-- The keys of a record lie below its end. -/
theorem AllOk.pOf_lt {acc : List Stp} (h : AllOk P S N ops st acc) {s : Stp} {o : Oper} (hs : StOk P S N ops st acc s o) {k : Nat} (hk : pOf st.h.nk acc s k = true) : k < s.nk' := by
  have h7 := (chk_split hs.chk).2.2.2.2.2.2
  have ht := h.top
  have e := hs.nk
  simp only [pOf, inR, Bool.or_eq_true, Bool.and_eq_true, decide_eq_true_eq] at hk
  rcases hk with (hk | hk) | hk
  · omega
  · omega
  · obtain ⟨j, _, hr⟩ := List.any_eq_true.1 hk
    cases hg : acc.reverse[j]? with
    | none => rw [hg] at hr; cases hr
    | some r =>
      rw [hg] at hr
      simp only [Bool.and_eq_true, decide_eq_true_eq] at hr
      have := h.below hg
      omega

/-- All that was laid is known below the top. -/
theorem AllOk.tm_kb {acc : List Stp} (h : AllOk P S N ops st acc) (hb : ∀ t sv, look st.tm t = some sv → sv.kb st.h.nk = true) {sel : Nat → Bool} {t : Nat} {sv : SV} (ht : look (ov sel Stp.tmx st.tm acc) t = some sv) : sv.kb (topNk st.h.nk acc) = true := by
  rcases look_ov ht with h1 | ⟨j, s, hj, _, hs⟩
  · exact SV.kb_mono h.top (hb t sv h1)
  · obtain ⟨m, acc', o, rfl, rfl, hst, hall⟩ := h.get hj
    have hx : s.ent = some sv := by
      unfold Stp.tmx at hs
      split at hs
      · rename_i d x hd hx
        simp only [look_cons] at hs
        split at hs
        · cases hs; exact hx
        · cases hs
      · cases hs
    have h1 := (chk_split hst.chk).2.2.2.1 sv hx
    refine SV.kb_mono (h.below hj).2.2 ?_
    rw [SV.kb_ks]
    exact SV.ks_mono (fun k hk => by simpa using hall.pOf_lt hst hk) h1
theorem AllOk.hp_kb {acc : List Stp} (h : AllOk P S N ops st acc) (hb : hpkb st.h.hp st.h.nk = true) {sel : Nat → Bool} {k : Nat} {b : Blk} (ht : (k, b) ∈ ov sel Stp.out st.h.hp acc) : k < topNk st.h.nk acc ∧ b.kb (topNk st.h.nk acc) = true := by
  rcases mem_ov ht with h1 | ⟨j, s, hj, _, hs⟩
  · have := List.all_eq_true.1 hb _ h1
    simp only [Bool.and_eq_true, decide_eq_true_eq] at this
    have ht := h.top
    exact ⟨by omega, Blk.kb_mono ht this.2⟩
  · obtain ⟨m, acc', o, rfl, rfl, hst, hall⟩ := h.get hj
    have h1 := (chk_split hst.chk).2.2.2.2.1 k b hs
    have hle := (h.below hj).2.2
    have h2 := hall.pOf_lt hst h1.1
    exact ⟨by omega, Blk.kb_mono hle (Blk.ks_kb (Blk.ks_mono (fun k hk => by simpa using hall.pOf_lt hst hk) h1.2))⟩
theorem AllOk.gs_ok {acc : List Stp} (hb : ∀ t s wt x, look st.tm t = some (.gd s wt x) → s ∈ st.gs) {sel : Nat → Bool} {t s : Nat} {wt : Bool} {x : E} (ht : look (ov sel Stp.tmx st.tm acc) t = some (.gd s wt x)) : s ∈ gsOf st.gs acc := by
  induction acc with
  | nil => exact hb _ _ _ _ ht
  | cons r l ih =>
    simp only [ov] at ht
    have go : s ∈ gsOf st.gs l → s ∈ gsOf st.gs (r :: l) := fun h => by
      simp only [gsOf]
      split
      · exact List.mem_cons_of_mem _ h
      · exact h
    cases hs : sel l.length with
    | false => rw [hs] at ht; exact go (ih ht)
    | true =>
      rw [hs] at ht
      simp only [cond_true, look_append] at ht
      cases hl : look r.tmx t with
      | none => simp only [hl, alt] at ht; exact go (ih ht)
      | some y =>
        simp only [hl, alt] at ht
        cases ht
        unfold Stp.tmx at hl
        split at hl
        · rename_i d z hd hz
          simp only [look_cons] at hl
          split at hl
          · cases hl
            simp only [gsOf, hz]
            exact List.mem_cons_self
          · cases hl
        · cases hl
theorem Stp.tmx_look {s : Stp} {t : Nat} {x : SV} (h : look s.tmx t = some x) : s.dst = some t ∧ s.ent = some x := by
  unfold Stp.tmx at h
  split at h
  · rename_i d z hd hz
    simp only [look_cons] at h
    split at h
    · rename_i e; subst e; cases h; exact ⟨hd, hz⟩
    · cases h
  · cases h
theorem look_keys {α : Type u} {l : List (Nat × α)} {k : Nat} (h : (look l k).isSome = true) : k ∈ l.map (·.1) := by
  cases hl : look l k with
  | none => simp only [hl, alt] at h; cases h
  | some x => exact List.mem_map.2 ⟨_, look_mem hl, rfl⟩
end
end Go.Sx
namespace Go.Sx
universe u v

theorem Rep.sub {ρ : As} {φ : Nat → Nat → Prop} {f g : HP} {w : World} (h : Rep ρ φ f w) (hs : ∀ k b, look g k = some b → look f k = some b) : Rep ρ φ g w :=
  ⟨fun k b hk => h.ok k b (hs k b hk), fun k b hk => h.lt k b (hs k b hk), fun k j b b' hk hj => h.dis k j b b' (hs k b hk) (hs j b' hj)⟩

section
variable {P : Program} {S : Sp} {N : Nat} {ops : Array Oper} {st : St} {full : List Stp} {ρb : As} {φb : Nat → Nat → Prop} {h0 : H} {w0 : World}
abbrev Ls (listed : Array Bool) : Nat → Bool := fun j => listed.getD j false
structure J (ops : Array Oper) (st : St) (N : Nat) (full : List Stp) (ρb : As) (φb : Nat → Nat → Prop) (h0 : H) (w0 : World) (listed : Array Bool) (a : Act) (w : World) : Prop where
  size : listed.size = ops.size
  closed : ∀ j oj, ops[j]? = some oj → listed.getD j false = true → ∀ e ∈ oj.after, Region.binds .any e = true → listed.getD e.on false = true
  ex : ∃ ρ φ, TmOk ρ a (ov (Ls listed) Stp.tmx st.tm full) ∧ Rep ρ φ (ov (Ls listed) Stp.out st.h.hp full) w ∧ Evo ρb φb h0 w0 ρ φ ⟨ov (Ls listed) Stp.out st.h.hp full, st.h.nk⟩ w
  sz : N ≤ a.tmps.size
  df : a.defers = []

/-- The keys that are taken so far. -/
def qL (n0 : Nat) (full : List Stp) (listed : Array Bool) (k : Nat) : Bool :=
  decide (k < n0) || (List.range full.length).any fun j => listed.getD j false && (match full.reverse[j]? with | some r => inR r k | none => false)

theorem qL_base {n0 : Nat} {listed : Array Bool} {k : Nat} (h : k < n0) : qL n0 full listed k = true := by simp [qL, h]
theorem qL_in {n0 : Nat} {listed : Array Bool} {k j : Nat} {r : Stp} (hj : full.reverse[j]? = some r) (hl : listed.getD j false = true) (hr : inR r k = true) : qL n0 full listed k = true := by
  unfold qL
  rw [Bool.or_eq_true]
  refine .inr (List.any_eq_true.2 ⟨j, List.mem_range.2 (rev_len hj), ?_⟩)
  rw [hl, hj]
  simpa using hr
theorem pOf_qL {m acc : List Stp} {s : Stp} {listed : Array Bool} {n0 : Nat} (hl : listed.getD acc.length false = true) (hb : ∀ k ∈ s.bef, listed.getD k false = true) (hlt : ∀ k ∈ s.bef, k < acc.length) {k : Nat} (h : pOf n0 acc s k = true) :
    qL n0 (m ++ s :: acc) listed k = true := by
  simp only [pOf, Bool.or_eq_true, decide_eq_true_eq] at h
  rcases h with (h | h) | h
  · exact qL_base h
  · exact qL_in rev_self hl h
  · obtain ⟨j, hj, hr⟩ := List.any_eq_true.1 h
    cases hg : acc.reverse[j]? with
    | none => rw [hg] at hr; cases hr
    | some r =>
      rw [hg] at hr
      exact qL_in (by rw [rev_get (hlt j hj)]; exact hg) (hb j hj) hr

theorem seen_of {α : Type u} {m acc : List Stp} {s : Stp} {L : Nat → Bool} {i : Nat} (hfull : full = m ++ s :: acc) (hlen : acc.length = i) (f : Stp → List (Nat × α)) (base : List (Nat × α)) (t : Nat)
    (h : ∀ j r, full.reverse[j]? = some r → (look (f r) t).isSome = true → L j = decide (j < i)) : look (ov L f base full) t = look (ov (fun _ => true) f base acc) t := by
  have e1 : look (ov L f base full) t = look (ov (fun j => decide (j < acc.length)) f base full) t := ov_congr fun j r hj hr => by rw [hlen]; exact h j r hj hr
  have e2 : ov (fun j => decide (j < acc.length)) f base full = ov (fun j => decide (j < acc.length)) f base acc := by
    rw [hfull, show m ++ s :: acc = (m ++ [s]) ++ acc by simp]; exact ov_lt _ _
  rw [e1, e2]
  exact ov_congr fun j r hj _ => decide_eq_true (rev_len hj)

theorem wp_put_only {o : Oper} {a : Act} {w : World} {next : Act → World → Prop} {K : Exit → Act → World → Prop} (h : o.wp P a w (fun a' w' => (∃ v, a'.tmps = (a.put o.dst v).tmps) → next a' w') K) : o.wp P a w next K := by
  unfold Oper.wp at *
  generalize (execOp a.eval o).run P w = r at *
  have hp : ∀ (d : List Deferred) (v : Value), (({ a with defers := d } : Act).put o.dst v).tmps = (a.put o.dst v).tmps := fun d v => by cases o.dst <;> rfl
  cases r with
  | ok n w' =>
    cases n <;> simp only [Oper.upon] at h ⊢
    case value v => exact h ⟨v, rfl⟩
    case skip => exact h ⟨_, rfl⟩
    case defer d => exact h ⟨_, hp _ _⟩
    case enter f args =>
      refine h.mono fun e w'' he => ?_
      cases e with
      | returned v => exact he ⟨v, rfl⟩
      | _ => exact he
    case row r args => exact h.mono fun v w'' he => he ⟨v, rfl⟩
  | halt x w' => cases x <;> exact h

/-- One operation more. -/
theorem J.next (hA : AllOk P S N ops st full) (hfl : full.length = ops.size) (hbk : hpkb st.h.hp st.h.nk = true) (hbt : ∀ t sv, look st.tm t = some sv → sv.kb st.h.nk = true) (hbg : ∀ t s wt x, look st.tm t = some (.gd s wt x) → s ∈ st.gs)
    (hS : SpOk P S) {listed : Array Bool} {a : Act} {w : World} (hJ : J ops st N full ρb φb h0 w0 listed a w) {i : Nat} (hi : i ∈ Region.ready .any ops listed) {Q : Exit → Act → World → Prop} :
    wpOp P ops Q i (J ops st N full ρb φb h0 w0 (listed.setIfInBounds i true)) a w := by
  obtain ⟨hun, o, ho, hdeps⟩ := mem_ready.1 hi
  have hin : i < ops.size := (Array.getElem?_eq_some_iff.1 ho).1
  obtain ⟨s, hs⟩ := rev_some (r := full) (j := i) (by rw [hfl]; exact hin)
  obtain ⟨m, acc, o', hfull, hlen, hst, hacc⟩ := hA.get hs
  have : o' = o := Option.some.inj (hst.at_.symm.trans (by rw [hlen]; exact ho))
  subst this
  have hunf : listed.getD i false = false := getD_both hun
  have hbef : ∀ k ∈ s.bef, listed.getD k false = true := hA.closed hJ.closed (i + 1) i s (by omega) hs fun oj hoj e he hb => by
    have : oj = o' := Option.some.inj (hoj.symm.trans ho)
    subst this
    exact hdeps e he hb
  have hbefj : ∀ j r, full.reverse[j]? = some r → listed.getD j false = true → ∀ k ∈ r.bef, listed.getD k false = true := fun j r hj hl =>
    hA.closed hJ.closed (j + 1) j r (by omega) hj fun oj hoj e he hb => hJ.closed j oj hoj hl e he hb
  obtain ⟨c1, c2, c3, c4, c5, c6, c7⟩ := chk_split hst.chk
  -- which of the others are listed
  have hord : ∀ j r, full.reverse[j]? = some r → j ≠ i → listed.getD j false = decide (j < i) ∨ (j < i ∧ nc r s = true) ∨ (i < j ∧ nc s r = true) := by
    intro j r hj hne
    rcases Nat.lt_or_ge j i with hlt | hge
    · rcases (hA.two hj hs hlt).2 with h | h
      · exact .inl (by rw [hbef j h, decide_eq_true hlt])
      · exact .inr (.inl ⟨hlt, h⟩)
    · have hlt : i < j := by omega
      rcases (hA.two hs hj hlt).2 with h | h
      · refine .inl ?_
        rw [decide_eq_false (by omega)]
        cases hl : listed.getD j false with
        | false => rfl
        | true => have := hbefj j r hj hl i h; rw [hunf] at this; cases this
      · exact .inr (.inr ⟨hlt, h⟩)
  obtain ⟨ρ, φ, hT, hR, hE⟩ := hJ.ex
  have hseenT : ∀ t ∈ s.sl, look (ov (Ls listed) Stp.tmx st.tm full) t = look (ov (fun _ => true) Stp.tmx st.tm acc) t := by
    intro t ht
    have key : ∀ r : Stp, djn r.dst.toList s.sl = true → (look r.tmx t).isSome = true → False := fun r hr hx => by
      cases hl : look r.tmx t with
      | none => rw [hl] at hx; cases hx
      | some x => exact djn_spec hr (x := t) (by rw [(Stp.tmx_look hl).1]; simp) ht
    refine seen_of hfull hlen Stp.tmx st.tm t fun j r hj hr => ?_
    by_cases hji : j = i
    · subst hji
      simp only [Ls, hunf]; simp
    · rcases hord j r hj hji with h | ⟨_, h⟩ | ⟨_, h⟩
      · exact h
      · simp only [nc, Bool.and_eq_true] at h; exact (key r h.1.1.1.1 hr).elim
      · simp only [nc, Bool.and_eq_true] at h; exact (key r h.1.1.1.2 hr).elim
  have hseenH : ∀ k ∈ s.K, look (ov (Ls listed) Stp.out st.h.hp full) k = look (ov (fun _ => true) Stp.out st.h.hp acc) k := by
    intro k hk
    have key : ∀ r : Stp, djn (r.out.map (·.1)) s.K = true → (look r.out k).isSome = true → False := fun r hr hx => djn_spec hr (look_keys hx) hk
    refine seen_of hfull hlen Stp.out st.h.hp k fun j r hj hr => ?_
    by_cases hji : j = i
    · subst hji
      simp only [Ls, hunf]; simp
    · rcases hord j r hj hji with h | ⟨_, h⟩ | ⟨_, h⟩
      · exact h
      · simp only [nc, Bool.and_eq_true] at h; exact (key r h.1.1.2 hr).elim
      · simp only [nc, Bool.and_eq_true] at h; exact (key r h.1.2 hr).elim
  have hrtm : ∀ t sv, look (rtmOf st.tm acc s.sl) t = some sv → look (ov (Ls listed) Stp.tmx st.tm full) t = some sv ∧ look (ov (fun _ => true) Stp.tmx st.tm acc) t = some sv := by
    intro t sv h
    unfold rtmOf at h
    rw [look_filter] at h
    split at h
    · rename_i hc
      rw [hseenT t (by simpa using hc)]
      exact ⟨h, h⟩
    · cases h
  have hrh : ∀ k b, look (rhOf st.h.hp acc s.K) k = some b → look (ov (Ls listed) Stp.out st.h.hp full) k = some b := by
    intro k b h
    unfold rhOf at h
    rw [look_filter] at h
    split at h
    · rename_i hc
      rw [hseenH k (by simpa using hc)]
      exact h
    · cases h
  have hnk := hst.nk
  have hI : Inv ρ φ ⟨rhOf st.h.hp acc s.K, s.nk⟩ w N ρ φ ⟨rtmOf st.tm acc s.sl, gsOf st.gs acc, ⟨rhOf st.h.hp acc s.K, s.nk⟩⟩ a w := by
    refine ⟨hR.sub hrh, Evo.refl _ _ _ _, fun t sv h => hT t sv (hrtm t sv h).1, fun t s' wt x h => AllOk.gs_ok hbg (hrtm t _ h).2, fun t sv h => ?_, ?_, hJ.sz, hJ.df⟩
    · simp only; rw [hnk]; exact hacc.tm_kb hbt (hrtm t sv h).2
    · refine List.all_eq_true.2 fun x hx => ?_
      obtain ⟨k, b⟩ := x
      have := hacc.hp_kb hbk (List.mem_filter.1 hx).1
      simp only [Bool.and_eq_true, decide_eq_true_eq]
      rw [hnk]; exact this
  -- what is told of the blocks
  have hq : ∀ k, qL st.h.nk full listed k = true → k < s.nk ∨ s.nk' ≤ k := by
    intro k hk
    simp only [qL, Bool.or_eq_true, decide_eq_true_eq] at hk
    rcases hk with hk | hk
    · left; have := (hA.below hs).1; omega
    · obtain ⟨j, _, hj⟩ := List.any_eq_true.1 hk
      simp only [Bool.and_eq_true] at hj
      cases hg : full.reverse[j]? with
      | none => rw [hg] at hj; cases hj.2
      | some r =>
        rw [hg] at hj
        have hr := hj.2
        simp only [inR, Bool.and_eq_true, decide_eq_true_eq] at hr
        have hne : j ≠ i := by rintro rfl; rw [hunf] at hj; cases hj.1
        rcases Nat.lt_or_ge j i with hlt | hge
        · left
          have hg' : acc.reverse[j]? = some r := by rw [hfull, rev_get (by omega)] at hg; exact hg
          have := hacc.below hg'
          omega
        · right
          obtain ⟨m2, acc2, o2, hf2, hl2, hst2, hacc2⟩ := hA.get hg
          have hs2 : acc2.reverse[i]? = some s := by rw [hf2, rev_get (by omega)] at hs; exact hs
          have := hacc2.below hs2
          have := hst2.nk
          omega
  have hsrc : ∀ j r, full.reverse[j]? = some r → listed.getD j false = true → ∀ k, (∃ acc2 m2 o2, full = m2 ++ r :: acc2 ∧ acc2.length = j ∧ StOk P S N ops st acc2 r o2 ∧ pOf st.h.nk acc2 r k = true) → qL st.h.nk full listed k = true := by
    rintro j r hj hl k ⟨acc2, m2, o2, hf2, hl2, hst2, hp⟩
    have hb := hbefj j r hj hl
    have hlt := (chk_split hst2.chk).1
    subst hl2
    rw [hf2]
    exact pOf_qL hl hb hlt hp
  have hf : ∀ k b, look (ov (Ls listed) Stp.out st.h.hp full) k = some b → qL st.h.nk full listed k = true ∧ b.ks (qL st.h.nk full listed) = true := by
    intro k b h
    rcases look_ov h with h1 | ⟨j, r, hj, hl, h1⟩
    · have := hpkb_look hbk h1
      exact ⟨qL_base this.1, Blk.ks_mono (fun k hk => qL_base (by simpa using hk)) (Blk.kb_ks this.2)⟩
    · obtain ⟨m2, acc2, o2, hf2, hl2, hst2, _⟩ := hA.get hj
      have hc := (chk_split hst2.chk).2.2.2.2.1 k b (look_mem h1)
      exact ⟨hsrc j r hj hl k ⟨acc2, m2, o2, hf2, hl2, hst2, hc.1⟩, Blk.ks_mono (fun k hk => hsrc j r hj hl k ⟨acc2, m2, o2, hf2, hl2, hst2, hk⟩) hc.2⟩
  have hft : ∀ t sv, look (ov (Ls listed) Stp.tmx st.tm full) t = some sv → sv.ks (qL st.h.nk full listed) = true := by
    intro t sv h
    rcases look_ov h with h1 | ⟨j, r, hj, hl, h1⟩
    · have := hbt t sv h1
      rw [SV.kb_ks] at this
      exact SV.ks_mono (fun k hk => qL_base (by simpa using hk)) this
    · obtain ⟨m2, acc2, o2, hf2, hl2, hst2, _⟩ := hA.get hj
      have hc := (chk_split hst2.chk).2.2.2.1 sv (Stp.tmx_look h1).2
      exact SV.ks_mono (fun k hk => hsrc j r hj hl k ⟨acc2, m2, o2, hf2, hl2, hst2, hk⟩) hc
  have hgd : ∀ t s' wt x, look (ov (Ls listed) Stp.tmx st.tm full) t = some (.gd s' wt x) → s.dst ≠ some s' := by
    intro t s' wt x h hd
    rcases look_ov h with h1 | ⟨j, r, hj, hl, h1⟩
    · exact djn_spec c3 (x := s') (by rw [hd]; simp) (hbg _ _ _ _ h1)
    · obtain ⟨m2, acc2, o2, hf2, hl2, hst2, _⟩ := hA.get hj
      obtain ⟨g, hgb, rg, hrg, hdg⟩ := (chk_split hst2.chk).2.2.2.2.2.1 s' wt x (Stp.tmx_look h1).2
      have hlg := hbefj j r hj hl g hgb
      have hne : g ≠ i := by rintro rfl; rw [hunf] at hlg; cases hlg
      have hrg' : full.reverse[g]? = some rg := by rw [hf2, rev_get ((chk_split hst2.chk).1 g hgb)]; exact hrg
      rcases Nat.lt_or_ge g i with hlt | hge
      · exact djn_spec (hA.two hrg' hs hlt).1 (x := s') (by rw [hdg]; simp) (by rw [hd]; simp)
      · exact djn_spec (hA.two hs hrg' (by omega)).1 (x := s') (by rw [hd]; simp) (by rw [hdg]; simp)
  -- the finish
  have hL0 : Ls listed i = false := hunf
  have hisz : i < listed.size := by rw [hJ.size]; exact hin
  have hL1 : Ls (listed.setIfInBounds i true) i = true := by simp [Ls, hisz]
  have hL2 : ∀ j, j ≠ i → Ls (listed.setIfInBounds i true) j = Ls listed j := fun j hj => getD_set_ne false hj.symm
  have hlookO : ∀ k, look (ov (Ls (listed.setIfInBounds i true)) Stp.out st.h.hp full) k = alt (look s.out k) (look (ov (Ls listed) Stp.out st.h.hp full) k) := fun k =>
    ov_one (f := Stp.out) (base := st.h.hp) (t := k) hL0 hL1 hL2 hs fun j r hj hij hl hr => by
      rcases hord j r hj (by omega) with h | ⟨h, _⟩ | ⟨_, h⟩
      · simp only [Ls] at hl; rw [h] at hl; simp at hl; omega
      · omega
      · simp only [nc, Bool.and_eq_true] at h
        cases hx : (look s.out k).isSome with
        | false => rfl
        | true => exact (djn_spec h.2 (look_keys hx) (look_keys hr)).elim
  have hlookT : ∀ t, look (ov (Ls (listed.setIfInBounds i true)) Stp.tmx st.tm full) t = alt (look s.tmx t) (look (ov (Ls listed) Stp.tmx st.tm full) t) := fun t =>
    ov_one (f := Stp.tmx) (base := st.tm) (t := t) hL0 hL1 hL2 hs fun j r hj hij hl hr => by
      cases hx : look s.tmx t with
      | none => rfl
      | some x =>
        cases hy : look r.tmx t with
        | none => rw [hy] at hr; cases hr
        | some y => exact (djn_spec (hA.two hs hj hij).1 (x := t) (by rw [(Stp.tmx_look hx).1]; simp) (by rw [(Stp.tmx_look hy).1]; simp)).elim
  have fin : ∀ ρ' φ' h' a' w', Rep ρ' φ' h' w' → Evo ρ φ ⟨rhOf st.h.hp acc s.K, s.nk⟩ w ρ' φ' ⟨h', s.nk'⟩ w' → hpkb h' s.nk' = true → (∀ k, (look (rhOf st.h.hp acc s.K) k).isSome = true → (look h' k).isSome = true) →
      (∀ k, alt (look s.out k) (look (ov (Ls listed) Stp.out st.h.hp full) k) = alt (look h' k) (look (ov (Ls listed) Stp.out st.h.hp full) k)) →
      (∀ x t, s.ent = some x → s.dst = some t → SlotOk ρ' a' t x ∧ x.kb s.nk' = true) → (∃ v, a'.tmps = (a.put o'.dst v).tmps) → N ≤ a'.tmps.size → a'.defers = [] →
      J ops st N full ρb φb h0 w0 (listed.setIfInBounds i true) a' w' := by
    intro ρ' φ' h' a' w' hR' hE' hkb hd1 hcont hent hput hsz hdf
    obtain ⟨ρ2, φ2, g1, g2, g3, g4⟩ := heap_step (f' := ov (Ls (listed.setIfInBounds i true)) Stp.out st.h.hp full) (m := st.h.nk) hR hrh hR' hE' hkb hd1 
      hf hq (fun k hk => by have := (hA.below hs).1; omega) (fun k => by rw [hlookO]; exact hcont k)
    refine ⟨by simp [hJ.size], ?_, ⟨ρ2, φ2, ?_, g1, hE.trans g2⟩, hsz, hdf⟩
    · intro j oj hoj hl e he hb
      by_cases hij : i = j
      · subst hij
        have : oj = o' := Option.some.inj (hoj.symm.trans ho)
        subst this
        exact getD_set_true (hdeps e he hb)
      · rw [getD_set_ne false hij] at hl
        exact getD_set_true (hJ.closed j oj hoj hl e he hb)
    · intro t sv ht
      rw [hlookT] at ht
      cases hx : look s.tmx t with
      | some x =>
        simp only [hx, alt] at ht
        cases ht
        obtain ⟨hd, he⟩ := Stp.tmx_look hx
        obtain ⟨h1, h2⟩ := hent _ t he hd
        exact SlotOk.agr h1 h2 g4
      | none =>
        simp only [hx, alt] at ht
        have hok := (hT t sv ht).ks (hft t sv ht) g3
        obtain ⟨v, hv⟩ := hput
        have hne : ∀ d, o'.dst = some d → d ≠ t := by
          rintro d hd rfl
          have hds : s.dst = some d := hst.dst.trans hd
          have : s.ent.isSome = true := by rw [← c2, hds]; rfl
          obtain ⟨x, hxe⟩ := Option.isSome_iff_exists.1 this
          unfold Stp.tmx at hx
          rw [hds, hxe] at hx
          simp [look_cons] at hx
        have hsame : ∀ d, (∀ e, o'.dst = some e → e ≠ d) → a'.tmps[d]? = a.tmps[d]? := by
          intro d hd
          rw [hv]
          cases hod : o'.dst with
          | none => rfl
          | some e => exact put_other v (hd e hod)
        cases sv with
        | v x => simp only [SlotOk] at hok ⊢; rw [hsame t hne]; exact hok
        | gd s' wt x =>
          have := hgd t s' wt x ht
          rw [hst.dst] at this
          simp only [SlotOk] at hok ⊢
          rw [hsame t hne, hsame s' (fun e he => by rintro rfl; exact this he)]
          exact hok
  have hentry : ∀ (st' : St) ρ' φ' a' w' h0' w0' ρ0' φ0', Inv ρ0' φ0' h0' w0' N ρ' φ' st' a' w' → st'.h.nk = s.nk' → s.ent = (o'.dst.bind fun d => look st'.tm d) → ∀ x t, s.ent = some x → s.dst = some t → SlotOk ρ' a' t x ∧ x.kb s.nk' = true := by
    intro st' ρ' φ' a' w' h0' w0' ρ0' φ0' hi hn he x t hx hd
    rw [he, ← hst.dst, hd] at hx
    have hx' : look st'.tm t = some x := hx
    exact ⟨hi.tmk _ _ hx', by rw [← hn]; exact hi.kbt _ _ hx'⟩
  unfold wpOp
  rw [ho]
  simp only
  rcases hst.run with ⟨hn', hout, hrun⟩ | hrun
  · -- it only reads
    obtain ⟨st', hq, hsame, a', hinv, hcase⟩ := stepQ_sound hS hI hrun
    have go : (∃ v, a'.tmps = (a.put o'.dst v).tmps) → ∀ w', RowKit.Below w.heap.size w w' → J ops st N full ρb φb h0 w0 (listed.setIfInBounds i true) a' w' := by
      intro hput w' hw'
      have hi := hinv w' hw'
      have hrep : Rep ρ φ (rhOf st.h.hp acc s.K) w' := (hI.rep).below hw'
      refine fin ρ φ (rhOf st.h.hp acc s.K) a' w' hrep (by rw [hn']; exact Evo.below hw') (by rw [hn']; exact hI.kbh) (fun k hk => hk) (fun k => ?_) (hentry _ _ _ _ _ _ _ _ _ hi (by rw [hsame, hn']) hq) hput hi.sz hi.df
      rw [hout]
      simp only [look, alt]
      cases hk : look (rhOf st.h.hp acc s.K) k with
      | none => rfl
      | some b => simp only; exact hrh k b hk
    rcases hcase with ⟨hw, v, rfl, hall⟩ | ⟨hw, rfl⟩
    · rw [if_pos hw]
      refine .inl ?_
      refine Oper.wp_of_quiet (C := Cls w) (K := fun a' => a' = a.put o'.dst v) (RowKit.Below.refl _ _) (fun a2 w' hw' e => ?_) ⟨v, hall, rfl⟩
      subst e
      exact go ⟨v, rfl⟩ w' hw'
    · rw [if_neg (by rw [hw]; exact Bool.false_ne_true)]
      exact go ⟨undef, rfl⟩ w (RowKit.Below.refl _ _)
  · -- it turns what it sees
    have hstep := stepO_sound (K := Q) hS hI hrun (next := fun a' w' => (∃ v, a'.tmps = (a.put o'.dst v).tmps) → J ops st N full ρb φb h0 w0 (listed.setIfInBounds i true) a' w') (fun st' ρ' φ' a' w' hq hi hput => by
      obtain ⟨hd, hn', hout, hent⟩ := hq
      refine fin ρ' φ' st'.h.hp a' w' hi.rep (by rw [hn']; exact hi.evo) (by rw [hn']; exact hi.kbh) (fun k hk => ?_) (fun k => by rw [hout]) (hentry _ _ _ _ _ _ _ _ _ hi hn'.symm hent) hput hi.sz hi.df
      obtain ⟨b, hb⟩ := Option.isSome_iff_exists.1 hk
      exact List.all_eq_true.1 hd _ (look_mem hb))
    split at hstep
    · rename_i hw
      rw [if_pos hw]
      exact .inl (wp_put_only hstep)
    · rename_i hw
      rw [if_neg hw]
      exact hstep ⟨undef, rfl⟩
end
end Go.Sx
namespace Go.Sx
universe u v
section
variable {P : Program} {S : Sp} {N : Nat} {ops : Array Oper} {st : St} {full : List Stp} {ρ0 ρ : As} {φ0 φ : Nat → Nat → Prop} {h0 : H} {w0 w : World} {a : Act} {Q' : Exit → Act → World → Prop}

theorem ov_all {α : Type u} {sel : Nat → Bool} {f : Stp → List (Nat × α)} {base : List (Nat × α)} : ∀ {r : List Stp}, (∀ j, j < r.length → sel j = true) → ov sel f base r = ov (fun _ => true) f base r
  | [], _ => rfl
  | s :: r, h => by simp only [ov]; rw [h r.length (by simp), ov_all (r := r) fun j hj => h j (by simp; omega)]

theorem J.last (hA : AllOk P S N ops st full) (hfl : full.length = ops.size) (hbk : hpkb st.h.hp st.h.nk = true) (hbt : ∀ t sv, look st.tm t = some sv → sv.kb st.h.nk = true) (hbg : ∀ t s wt x, look st.tm t = some (.gd s wt x) → s ∈ st.gs)
    {listed : Array Bool} (hJ : J ops st N full ρ0 φ0 h0 w0 listed a w) (hr : Region.ready .any ops listed = []) : ∃ ρ φ, Inv ρ0 φ0 h0 w0 N ρ φ (anyFin st full) a w := by
  have hall : ∀ n j, j < n → j < ops.size → listed.getD j false = true := by
    intro n
    induction n with
    | zero => intro j hj; omega
    | succ n ih =>
      intro j hj hjs
      cases hl : listed.getD j false with
      | true => rfl
      | false =>
        exfalso
        have hget : ops[j]? = some ops[j] := Array.getElem?_eq_getElem hjs
        obtain ⟨s, hs⟩ := rev_some (r := full) (j := j) (by rw [hfl]; exact hjs)
        obtain ⟨m, acc, o, hf, hlen, hst, _⟩ := hA.get hs
        have ho : o = ops[j] := Option.some.inj (hst.at_.symm.trans (by rw [hlen]; exact hget))
        have hlt := (chk_split hst.chk).1
        have : j ∈ Region.ready .any ops listed := by
          refine mem_ready.2 ⟨getD_in (by rw [hJ.size]; exact hjs) hl, o, by rw [ho]; exact hget, fun e he hb => ?_⟩
          have hon : e.on ∈ s.bef := by
            rw [hst.bef]; unfold befOf
            exact List.mem_flatMap.2 ⟨e, List.mem_filter.2 ⟨by simpa using he, hb⟩, List.mem_cons_self⟩
          have := hlt _ hon
          exact ih e.on (by omega) (by omega)
        rw [hr] at this
        cases this
  obtain ⟨ρ, φ, hT, hR, hE⟩ := hJ.ex
  have hsel : ∀ j, j < full.length → Ls listed j = true := fun j hj => hall (j + 1) j (by omega) (by omega)
  rw [ov_all hsel] at hT
  rw [ov_all hsel] at hR hE
  have htop := hA.top
  refine ⟨ρ, φ, hR, ⟨Nat.le_trans hE.nk htop, hE.agr, hE.own, hE.fr, hE.os, hE.tape, hE.output, hE.size⟩, hT, fun t s wt x h => AllOk.gs_ok hbg h, fun t sv h => hA.tm_kb hbt h, ?_, hJ.sz, hJ.df⟩
  refine List.all_eq_true.2 fun x hx => ?_
  obtain ⟨k, b⟩ := x
  have := hA.hp_kb hbk hx
  simp only [Bool.and_eq_true, decide_eq_true_eq]
  exact this

theorem J.any (hA : AllOk P S N ops st full) (hfl : full.length = ops.size) (hbk : hpkb st.h.hp st.h.nk = true) (hbt : ∀ t sv, look st.tm t = some sv → sv.kb st.h.nk = true) (hbg : ∀ t s wt x, look st.tm t = some (.gd s wt x) → s ∈ st.gs)
    (hS : SpOk P S) (hQ : ∀ ρ φ a w, Inv ρ0 φ0 h0 w0 N ρ φ (anyFin st full) a w → Q' .normal a w) :
    ∀ (fuel : Nat) (listed : Array Bool) (a : Act) (w : World), J ops st N full ρ0 φ0 h0 w0 listed a w → ((List.range ops.size).filter fun j => !listed.getD j false).length ≤ fuel → wpAny P .any ops Q' fuel listed a w
  | 0, listed, a, w, hJ, hn => by
    have hr : Region.ready .any ops listed = [] := by
      cases hr : Region.ready .any ops listed with
      | nil => rfl
      | cons i l =>
        have hi : i ∈ Region.ready .any ops listed := by rw [hr]; exact List.mem_cons_self
        obtain ⟨hun, o, ho, _⟩ := mem_ready.1 hi
        have hmem : i ∈ (List.range ops.size).filter fun j => !listed.getD j false := List.mem_filter.2 ⟨List.mem_range.2 (Array.getElem?_eq_some_iff.1 ho).1, by rw [getD_both hun]; rfl⟩
        have := List.length_pos_of_mem hmem
        omega
    obtain ⟨ρ, φ, hi⟩ := J.last hA hfl hbk hbt hbg hJ hr
    exact ⟨hr, hQ _ _ _ _ hi⟩
  | fuel + 1, listed, a, w, hJ, hn => by
    refine ⟨fun hr => ?_, fun i hi => ?_⟩
    · obtain ⟨ρ, φ, hi⟩ := J.last hA hfl hbk hbt hbg hJ hr
      exact hQ _ _ _ _ hi
    · obtain ⟨hun, o, ho, _⟩ := mem_ready.1 hi
      have hin : i < ops.size := (Array.getElem?_eq_some_iff.1 ho).1
      refine wpOp_mono (fun a' w' hJ' => J.any hA hfl hbk hbt hbg hS hQ fuel _ a' w' hJ' ?_) (J.next hA hfl hbk hbt hbg hS hJ hi)
      have e : ((List.range ops.size).filter fun j => !(listed.setIfInBounds i true).getD j false) = ((List.range ops.size).filter fun j => !listed.getD j false).filter fun j => decide (j ≠ i) := by
        rw [List.filter_filter]
        apply List.filter_congr
        intro j _
        by_cases hj : j = i
        · subst hj
          have : j < listed.size := by rw [hJ.size]; exact hin
          simp [this]
        · rw [getD_set_ne false (fun e => hj e.symm)]; simp [hj]
      rw [e]
      have := (List.length_filter_lt_length_iff_exists (p := fun j => decide (j ≠ i)) (l := (List.range ops.size).filter fun j => !listed.getD j false)).2 ⟨i, List.mem_filter.2 ⟨List.mem_range.2 hin, by rw [getD_both hun]; rfl⟩, by simp⟩
      omega

/-- **A REGION OF ANY ORDER.** -/
theorem regionAny_sound (hS : SpOk P S) (hm : P.follows .mixedOrders = true) {id : Nat} {Q : St → Prop} (hI : Inv ρ0 φ0 h0 w0 N ρ φ st a w) (h : (regionAny P S N ops st).sat Q)
    (hn : ∀ st' ρ' φ' a' w', Q st' → Inv ρ0 φ0 h0 w0 N ρ' φ' st' a' w' → Q' .normal a' w') : (Code.region id ops true).wp P Q' a w := by
  obtain ⟨full, hq, hA, hfl⟩ := anyRun_ok ops.toList [] _ (True.intro : AllOk P S N ops st []) (fun j => by simp) (R.sat_bind h)
  have hfl' : full.length = ops.size := by simpa using hfl
  have hb : RowKit.Below w.heap.size w { w with drawn := w.drawn + 1 } := ⟨rfl, rfl, rfl, Nat.le_refl _, fun _ _ => rfl⟩
  have hI' : Inv ρ0 φ0 h0 w0 N ρ φ st a { w with drawn := w.drawn + 1 } := hI.step (hI.rep.below hb) (Evo.below hb) hI.kbh
  refine wp_region_any hm (J.any (ρ0 := ρ0) (φ0 := φ0) (h0 := h0) (w0 := w0) hA hfl' hI.kbh hI.kbt hI.gsk hS (fun ρ φ a w hi => hn _ _ _ _ _ hq hi) ops.size _ a _ ?_ ?_)
  · have e1 : ∀ r, ov (Ls (Array.replicate ops.size false)) Stp.tmx st.tm r = st.tm := by
      intro r
      induction r with
      | nil => rfl
      | cons s r ih => simp only [ov, Ls, getD_replicate_false, cond_false]; exact ih
    have e2 : ∀ r, ov (Ls (Array.replicate ops.size false)) Stp.out st.h.hp r = st.h.hp := by
      intro r
      induction r with
      | nil => rfl
      | cons s r ih => simp only [ov, Ls, getD_replicate_false, cond_false]; exact ih
    refine ⟨by simp, fun j oj _ hl => (by rw [getD_replicate_false] at hl; cases hl), ⟨ρ, φ, by rw [e1]; exact hI'.tmk, by rw [e2]; exact hI'.rep, ?_⟩, hI'.sz, hI'.df⟩
    rw [e2]
    exact hI'.evo
  · exact Nat.le_trans (List.length_filter_le _ _) (by simp)
end
end Go.Sx
namespace Go.Sx
universe u v

/-! ### Code -/
inductive Ex where
  | normal
  | exit (id : Nat)
  | ret
def Ex.of : Ex → Exit
  | .normal => .normal
  | .exit i => .exit i
  | .ret => .ret
/-- What a piece of code comes to: a way a leaf. -/
inductive Tr (α : Type u) where
  | leaf (x : α)
  | br (c : Bool) (t e : Tr α)
  | need (p : Prop) (t : Tr α)
  | fail
  | loop (body : Code) (s : St) (k : Ex → St → Tr α)
def Tr.sat {α : Type u} (L : Code → St → (Ex → St → Prop) → Prop) : Tr α → (α → Prop) → Prop
  | .leaf x, Q => Q x
  | .br c t e, Q => (c = true → t.sat L Q) ∧ (c = false → e.sat L Q)
  | .need p t, Q => p ∧ t.sat L Q
  | .fail, _ => False
  | .loop b s k, Q => ∃ Φ : Ex → St → Prop, L b s Φ ∧ ∀ x s', Φ x s' → (k x s').sat L Q
def R.tr {α : Type u} {β : Type v} : R α → (α → Tr β) → Tr β
  | .ok s, k => k s
  | .need p r, k => .need p (r.tr k)
  | .chk b r, k => .br b (r.tr k) .fail
  | .fail, _ => .fail
def R.good {α : Type u} : R α → Bool
  | .ok _ => true
  | .need _ r => r.good
  | .chk _ r => r.good
  | .fail => false
/-- Each key once. -/
def dd : HP → List Nat → HP
  | [], _ => []
  | (k, b) :: l, seen => if seen.contains k then dd l seen else (k, b) :: dd l (k :: seen)
theorem look_dd : ∀ (hp : HP) (seen : List Nat) (k : Nat), look (dd hp seen) k = if k ∈ seen then none else look hp k
  | [], seen, k => by simp [dd, look]
  | (j, b) :: l, seen, k => by
    simp only [dd]
    split
    · rename_i hc
      have hj : j ∈ seen := by simpa using hc
      rw [look_dd l seen k]
      by_cases hk : k ∈ seen
      · simp [hk]
      · have : ¬ j = k := fun e => hk (e ▸ hj)
        simp [hk, look_cons, this]
    · rename_i hc
      have hj : j ∉ seen := by simpa using hc
      rw [look_cons, look_cons, look_dd l (j :: seen) k]
      by_cases e : j = k
      · subst e; simp [hj]
      · have e' : ¬ k = j := fun h => e h.symm
        simp [e, e', List.mem_cons]
def ddS (s : St) : St := ⟨s.tm, s.gs, ⟨dd s.h.hp [], s.h.nk⟩⟩
def regionX (P : Program) (S : Sp) (N : Nat) (ops : Array Oper) (draw : Bool) (st : St) : R St :=
  match draw with
  | false => runO P S N ops ops.toList st
  | true => if Region.lexB .any ops && (runQ P S N ops ops.toList st).good then runQ P S N ops ops.toList st else (regionAny P S N ops st).bind fun s => .ok (ddS s)
/-- Without what holds under a guard alone. -/
def clean0 (s : St) : St :=
  match s.gs with
  | [] => s
  | _ => let G := s.tm.filterMap fun p => match p.2 with | .gd _ _ _ => some p.1 | _ => none
    ⟨s.tm.filter fun p => !(G.contains p.1), [], s.h⟩
def clean (s : St) : St := frcN (clean0 s).h.nk fun n => ⟨(clean0 s).tm, (clean0 s).gs, ⟨(clean0 s).h.hp, n⟩⟩
theorem clean_eq (s : St) : clean s = clean0 s := by unfold clean; rw [frcN_eq]
/-- So many rounds at most. -/
def iter {α : Type u} (f : St → (Ex → St → Tr α) → Tr α) (k : Ex → St → Tr α) : Nat → St → Tr α
  | 0, _ => .fail
  | n + 1, s => f s fun x s' => match x with
    | .normal => iter f k n s'
    | x => k x s'
def exec {α : Type u} (P : Program) (S : Sp) (N : Nat) : Code → St → (Ex → St → Tr α) → Tr α
  | .skip, s, k => k .normal s
  | .label _, s, k => k .normal s
  | .region _ ops draw, s, k => (regionX P S N ops draw s).tr fun s' => k .normal (clean s')
  | .seq a b, s, k => exec P S N a s fun x s' => match x with
    | .normal => exec P S N b s' k
    | x => k x s'
  | .cond c a b, s, k => match opE none s.tm c with
    | some (.c (.bool t)) => .br t (exec P S N a s k) (exec P S N b s k)
    | some (.c (.raw (.bool true))) => exec P S N a s k
    | some (.c (.raw (.bool false))) => exec P S N b s k
    | _ => .fail
  | .block id b, s, k => exec P S N b s fun x s' => match x with
    | .exit i => if i = id then k .normal s' else k (.exit i) s'
    | x => k x s'
  | .loop b, s, k => match S.u with
    | 0 => .loop b s k
    | u + 1 => iter (exec P S N b) k (u + 1) s
  | .scope c, s, k => exec P S N c s k
  | .exit id, s, k => k (.exit id) s
  | .ret, s, k => k .ret s
  | _, _, _ => .fail

/-- What a loop does from a state on. -/
def LoopT (P : Program) (N n0 : Nat) (body : Code) (s : St) (Φ : Ex → St → Prop) : Prop :=
  ∀ ρ0 φ0 h0 w0 ρ φ a w, h0.nk ≤ n0 → Inv ρ0 φ0 h0 w0 N ρ φ s a w →
    (Code.loop body).wp P (fun e a' w' => ∃ x s' ρ' φ', e = Ex.of x ∧ Φ x s' ∧ Inv ρ0 φ0 h0 w0 N ρ' φ' s' a' w') a w

section
variable {P : Program} {S : Sp} {N n0 : Nat} {ρ0 : As} {φ0 : Nat → Nat → Prop} {h0 : H} {w0 : World}

theorem R.tr_sat {α : Type u} {β : Type v} {L : Code → St → (Ex → St → Prop) → Prop} {Q : β → Prop} {r : R α} {k : α → Tr β} (h : (r.tr k).sat L Q) : r.sat fun s => (k s).sat L Q := by
  induction r with
  | ok s => exact h
  | need p r ih => exact ⟨h.1, ih h.2⟩
  | chk b r ih =>
    cases b with
    | true => exact ⟨rfl, ih (h.1 rfl)⟩
    | false => exact (h.2 rfl).elim
  | fail => exact h

theorem Inv.ddS {ρ : As} {φ : Nat → Nat → Prop} {s : St} {a : Act} {w : World} (h : Inv ρ0 φ0 h0 w0 N ρ φ s a w) : Inv ρ0 φ0 h0 w0 N ρ φ (ddS s) a w := by
  have hl : ∀ k, look (dd s.h.hp []) k = look s.h.hp k := fun k => by rw [look_dd]; simp
  refine ⟨⟨fun k b hk => h.rep.ok k b ((hl k) ▸ hk), fun k b hk => h.rep.lt k b ((hl k) ▸ hk), fun k k' b b' hk hk' => h.rep.dis k k' b b' ((hl k) ▸ hk) ((hl k') ▸ hk')⟩, ⟨h.evo.nk, h.evo.agr, fun k b hk => h.evo.own k b ((hl k) ▸ hk), h.evo.fr, h.evo.os, h.evo.tape, h.evo.output, h.evo.size⟩, h.tmk, h.gsk, h.kbt, ?_, h.sz, h.df⟩
  have : ∀ (hp : HP) (seen : List Nat) (n : Nat), hpkb hp n = true → hpkb (dd hp seen) n = true := by
    intro hp
    induction hp with
    | nil => intro seen n _; rfl
    | cons p hp ih =>
      obtain ⟨k, b⟩ := p
      intro seen n hh
      simp only [hpkb, List.all_cons, Bool.and_eq_true] at hh
      simp only [dd]
      split
      · exact ih seen n (by simpa [hpkb] using hh.2)
      · simp only [hpkb, List.all_cons, Bool.and_eq_true]
        exact ⟨hh.1, by simpa [hpkb] using ih (k :: seen) n (by simpa [hpkb] using hh.2)⟩
  exact this _ _ _ h.kbh
theorem regionX_sound (hS : SpOk P S) (hm : P.follows .mixedOrders = true) {ρ : As} {φ : Nat → Nat → Prop} {st : St} {a : Act} {w : World} {K : Exit → Act → World → Prop} {Q : St → Prop} {id : Nat} {ops : Array Oper} {draw : Bool}
    (hI : Inv ρ0 φ0 h0 w0 N ρ φ st a w) (h : (regionX P S N ops draw st).sat Q) (hn : ∀ st' ρ' φ' a' w', Q st' → Inv ρ0 φ0 h0 w0 N ρ' φ' st' a' w' → K .normal a' w') : (Code.region id ops draw).wp P K a w := by
  have hdrew : Cls w { w with drawn := w.drawn + 1 } := (RowKit.Below.refl _ _).drew
  unfold regionX at h
  split at h
  · exact wp_region_list (runO_sound hS _ _ _ _ _ _ _ hI h hn)
  · split at h
    · rename_i hB
      simp only [Bool.and_eq_true] at hB
      refine wp_region_quiet (C := Cls w) hm hB.1 hdrew ?_
      exact runQ_sound hS _ _ _ hI h fun st' a' hq hi => fun w' hw' => hn _ _ _ _ _ hq (hi w' hw')
    · exact regionAny_sound hS hm hI (R.sat_bind h) fun st' ρ' φ' a' w' hq hi => hn _ _ _ _ _ hq hi.ddS

theorem Inv.clean {ρ : As} {φ : Nat → Nat → Prop} {s : St} {a : Act} {w : World} (h : Inv ρ0 φ0 h0 w0 N ρ φ s a w) : Inv ρ0 φ0 h0 w0 N ρ φ (clean s) a w := by
  rw [clean_eq]
  unfold Go.Sx.clean0
  split
  · exact h
  · have hl : ∀ t sv, look (s.tm.filter fun p => !((s.tm.filterMap fun p => match p.2 with | .gd _ _ _ => some p.1 | _ => none).contains p.1)) t = some sv → look s.tm t = some sv ∧ ∀ s' wt x, sv ≠ .gd s' wt x := by
      intro t sv ht
      rw [look_filter (q := fun t => !((s.tm.filterMap fun p => match p.2 with | .gd _ _ _ => some p.1 | _ => none).contains t))] at ht
      split at ht
      · rename_i hc
        refine ⟨ht, ?_⟩
        rintro s' wt x rfl
        have : t ∈ s.tm.filterMap fun p => match p.2 with | .gd _ _ _ => some p.1 | _ => none := List.mem_filterMap.2 ⟨_, look_mem ht, rfl⟩
        simp only [Bool.not_eq_true', List.contains_eq_mem, decide_eq_false_iff_not] at hc
        exact hc this
      · cases ht
    exact ⟨h.rep, h.evo, fun t sv ht => h.tmk t sv (hl t sv ht).1, fun t s' wt x ht => ((hl t _ ht).2 s' wt x rfl).elim, fun t sv ht => h.kbt t sv (hl t sv ht).1, h.kbh, h.sz, h.df⟩
theorem exec_sound {α : Type u} (hS : SpOk P S) (hm : P.follows .mixedOrders = true) (hn0 : h0.nk ≤ n0) {Q : α → Prop} : ∀ (c : Code) (s : St) (k : Ex → St → Tr α) (K : Exit → Act → World → Prop) (ρ : As) (φ : Nat → Nat → Prop) (a : Act) (w : World),
    (∀ x s' ρ' φ' a' w', (k x s').sat (LoopT P N n0) Q → Inv ρ0 φ0 h0 w0 N ρ' φ' s' a' w' → K (Ex.of x) a' w') → Inv ρ0 φ0 h0 w0 N ρ φ s a w →
    (exec P S N c s k).sat (LoopT P N n0) Q → c.wp P K a w := by
  intro c
  induction c with
  | skip => intro s k K ρ φ a w hk hI h; exact wp_skip (hk _ _ _ _ _ _ h hI)
  | label l => intro s k K ρ φ a w hk hI h; exact wp_label (hk _ _ _ _ _ _ h hI)
  | region id ops draw =>
    intro s k K ρ φ a w hk hI h
    exact regionX_sound hS hm hI (R.tr_sat h) fun st' ρ' φ' a' w' hq hi => hk .normal _ _ _ _ _ hq hi.clean
  | seq x y ihx ihy =>
    intro s k K ρ φ a w hk hI h
    refine wp_seq (ihx s _ _ ρ φ a w (fun e s' ρ' φ' a' w' hs hi => ?_) hI h)
    cases e with
    | normal => exact ihy s' k K ρ' φ' a' w' hk hi hs
    | exit i => exact hk (.exit i) _ _ _ _ _ hs hi
    | ret => exact hk .ret _ _ _ _ _ hs hi
  | cond c x y ihx ihy =>
    intro s k K ρ φ a w hk hI h
    simp only [exec] at h
    split at h
    · rename_i t hc
      have hc' := opE_sound hc hI.tmk (fun _ _ e => by cases e)
      exact wp_cond_split (t := t) hc' (fun ht => ihx s k K ρ φ a w hk hI (h.1 ht)) (fun hf => ihy s k K ρ φ a w hk hI (h.2 hf))
    · rename_i hc
      have hc' := opE_sound hc hI.tmk (fun _ _ e => by cases e)
      exact wp_cond_split (t := true) hc' (fun _ => ihx s k K ρ φ a w hk hI h) (fun hf => by cases hf)
    · rename_i hc
      have hc' := opE_sound hc hI.tmk (fun _ _ e => by cases e)
      exact wp_cond_split (t := false) hc' (fun ht => by cases ht) (fun _ => ihy s k K ρ φ a w hk hI h)
    · exact h.elim
  | block id b ih =>
    intro s k K ρ φ a w hk hI h
    refine wp_block (ih s _ _ ρ φ a w (fun e s' ρ' φ' a' w' hs hi => ?_) hI h)
    cases e with
    | normal => exact hk .normal _ _ _ _ _ hs hi
    | exit i =>
      simp only [Ex.of, Exit.inBlock]
      simp only at hs
      split at hs
      · rename_i e; rw [if_pos e]; exact hk .normal _ _ _ _ _ hs hi
      · rename_i e; rw [if_neg e]; exact hk (.exit i) _ _ _ _ _ hs hi
    | ret => exact hk .ret _ _ _ _ _ hs hi
  | loop b ih =>
    intro s k K ρ φ a w hk hI h
    simp only [exec] at h
    split at h
    · obtain ⟨Φ, hL, hΦ⟩ := h
      refine wp_mono (hL _ _ _ _ _ _ _ _ hn0 hI) fun e a' w' hp => ?_
      obtain ⟨x, s', ρ', φ', rfl, hx, hi⟩ := hp
      exact hk x _ _ _ _ _ (hΦ x s' hx) hi
    · rename_i u _
      refine wp_loop_rounds (u + 1) ?_
      have key : ∀ n s ρ φ a w, Inv ρ0 φ0 h0 w0 N ρ φ s a w → (iter (exec P S N b) k n s).sat (LoopT P N n0) Q → Code.rounds P b K n a w := by
        intro n
        induction n with
        | zero => intro s ρ φ a w _ hh; exact hh.elim
        | succ n ihn =>
          intro s ρ φ a w hI hh
          rw [rounds_succ]
          refine ih s _ _ ρ φ a w (fun x s' ρ' φ' a' w' hs hi => ?_) hI hh
          cases x with
          | normal => exact ihn s' ρ' φ' a' w' hi hs
          | exit i => exact hk (.exit i) _ _ _ _ _ hs hi
          | ret => exact hk .ret _ _ _ _ _ hs hi
      exact key _ _ _ _ _ _ hI h
  | exit id => intro s k K ρ φ a w hk hI h; exact wp_exit (hk (.exit id) _ _ _ _ _ h hI)
  | ret => intro s k K ρ φ a w hk hI h; exact wp_ret (hk .ret _ _ _ _ _ h hI)
  | rangeFunc => intro s k K ρ φ a w hk hI h; exact h.elim
  | scope c ih => intro s k K ρ φ a w hk hI h; exact wp_scope_straight (ih s k _ ρ φ a w (fun x s' ρ' φ' a' w' hs hi => by cases x <;> exact hk _ _ _ _ _ _ hs hi) hI h)
  | goto => intro s k K ρ φ a w hk hI h; exact h.elim
  | refuse => intro s k K ρ φ a w hk hI h; exact h.elim

/-! ### Loops -/
/-- Whatever is as s says is as s' says. -/
def St.le (N n0 : Nat) (s s' : St) : Prop :=
  ∀ ρ0 φ0 h0 w0 ρ φ a w, h0.nk ≤ n0 → Inv ρ0 φ0 h0 w0 N ρ φ s a w → ∃ ρ' φ', Inv ρ0 φ0 h0 w0 N ρ' φ' s' a w
theorem St.le_of {s s' : St} (h1 : ∀ t sv, look s'.tm t = some sv → look s.tm t = some sv) (h2 : ∀ k b, look s'.h.hp k = some b → look s.h.hp k = some b)
    (h3 : n0 ≤ s'.h.nk) (_h4 : s'.h.nk ≤ s.h.nk) (h5 : hpkb s'.h.hp s'.h.nk = true) (h6 : ∀ t sv, look s'.tm t = some sv → sv.kb s'.h.nk = true) (h7 : ∀ t s2 wt x, look s'.tm t = some (.gd s2 wt x) → False) : St.le N n0 s s' := by
  intro ρ0 φ0 h0 w0 ρ φ a w hn hI
  refine ⟨ρ, φ, ⟨fun k b hk => hI.rep.ok k b (h2 k b hk), fun k b hk => hI.rep.lt k b (h2 k b hk), fun k k' b b' hk hk' => hI.rep.dis k k' b b' (h2 k b hk) (h2 k' b' hk')⟩, ?_, fun t sv ht => hI.tmk t sv (h1 t sv ht), fun t s2 wt x ht => (h7 t s2 wt x ht).elim, h6, h5, hI.sz, hI.df⟩
  exact ⟨Nat.le_trans hn h3, hI.evo.agr, fun k b hk => hI.evo.own k b (h2 k b hk), hI.evo.fr, hI.evo.os, hI.evo.tape, hI.evo.output, hI.evo.size⟩
theorem St.le_refl (s : St) : St.le N n0 s s := fun _ _ _ _ ρ φ _ _ _ h => ⟨ρ, φ, h⟩

theorem LoopT.of (hS : SpOk P S) (hm : P.follows .mixedOrders = true) {X : Type u} {body : Code} {s : St} {Φ : Ex → St → Prop} (I : X → St) (μ : X → Nat) (x0 : X) (h0 : St.le N n0 s (I x0))
    (hr : ∀ x, (exec P S N body (I x) fun e s' => Tr.leaf (e, s')).sat (LoopT P N n0) fun r => match r.1 with
      | .normal => ∃ x', St.le N n0 r.2 (I x') ∧ μ x' < μ x
      | e => Φ e r.2) : LoopT P N n0 body s Φ := by
  intro ρ0 φ0 h1 w0 ρ φ a w hn hI
  obtain ⟨ρ1, φ1, hI1⟩ := h0 _ _ _ _ _ _ _ _ hn hI
  -- the loop's rule wants a measure on frames and worlds: the least of those that fit
  have key : ∀ n x ρ φ a w, μ x = n → Inv ρ0 φ0 h1 w0 N ρ φ (I x) a w → ∀ (b : Frame) (k : List Item) (cs : List Frame), ∃ e a' w',
      (∃ x s' ρ' φ', e = Ex.of x ∧ Φ x s' ∧ Inv ρ0 φ0 h1 w0 N ρ' φ' s' a' w') ∧ Arrives P (lone (b.at a (.code body :: .inLoop body :: k)) cs w) b k cs e a' w' := by
    intro n
    induction n using Nat.strongRecOn with
    | _ n ih =>
      intro x ρ φ a w hx hI b k cs
      have hwp : body.wp P (fun e a' w' => ∃ y s' ρ' φ', e = Ex.of y ∧ (match y with | .normal => ∃ x', St.le N n0 s' (I x') ∧ μ x' < μ x | y => Φ y s') ∧ Inv ρ0 φ0 h1 w0 N ρ' φ' s' a' w') a w :=
        exec_sound (Q := fun r : Ex × St => match r.1 with | .normal => ∃ x', St.le N n0 r.2 (I x') ∧ μ x' < μ x | e => Φ e r.2) hS hm hn body (I x) (fun e s' => Tr.leaf (e, s')) _ ρ φ a w (fun y s' ρ' φ' a' w' hs hi => ⟨y, s', ρ', φ', rfl, hs, hi⟩) hI (hr x)
      obtain ⟨e, a1, w1, ⟨y, s', ρ', φ', rfl, hy, hi⟩, harr⟩ := hwp b (.inLoop body :: k) cs
      cases y with
      | normal =>
        obtain ⟨x', hle, hlt⟩ := hy
        obtain ⟨ρ2, φ2, hi2⟩ := hle _ _ _ _ _ _ _ _ hn hi
        obtain ⟨e2, a2, w2, hq2, harr2⟩ := ih (μ x') (hx ▸ hlt) x' ρ2 φ2 a1 w1 rfl hi2 b k cs
        exact ⟨e2, a2, w2, hq2, .of_steps (Steps.trans harr (.one step_inLoop)) harr2⟩
      | exit i => exact ⟨_, a1, w1, ⟨.exit i, s', ρ', φ', rfl, hy, hi⟩, .pass (x := .inLoop body) rfl (fun _ _ => .inl (by simp [Ex.of])) harr⟩
      | ret => exact ⟨_, a1, w1, ⟨.ret, s', ρ', φ', rfl, hy, hi⟩, .pass (x := .inLoop body) rfl (fun _ _ => .inl (by simp [Ex.of])) harr⟩
  intro b k cs
  obtain ⟨e, a', w', hq, harr⟩ := key _ x0 ρ1 φ1 a w rfl hI1 b k cs
  exact ⟨e, a', w', hq, .of_steps (.one step_loop) harr⟩
end

/-! ### A function -/
def initTm : List E → Nat → TM
  | [], _ => []
  | e :: l, i => (i, .v (.e e)) :: initTm l (i + 1)
def res1 (P : Program) (s : St) : ResultVar → R V
  | .tmp t => match look s.tm t with
    | some (.v y) => .ok y
    | _ => .fail
  | .cell t ty => match look s.tm t with
    | some (.v (.e e)) => loadQ P false s.h.hp ty e
    | _ => .fail
def resE (P : Program) (s : St) (r : ResultVar) : R E := (res1 P s r).bind fun v => match v with
  | .e e => .ok e
  | .tup _ => .fail
def resQ (P : Program) (s : St) (l : List ResultVar) : R V :=
  match l with
  | [] => .ok (.tup [])
  | [a] => res1 P s a
  | [a, b] => (resE P s a).bind fun x => (resE P s b).bind fun y => .ok (.tup [x, y])
  | [a, b, c] => (resE P s a).bind fun x => (resE P s b).bind fun y => (resE P s c).bind fun z => .ok (.tup [x, y, z])
  | [a, b, c, d] => (resE P s a).bind fun x => (resE P s b).bind fun y => (resE P s c).bind fun z => (resE P s d).bind fun u => .ok (.tup [x, y, z, u])
  | _ => .fail

section
variable {P : Program} {S : Sp} {N : Nat} {ρ : As} {φ : Nat → Nat → Prop} {s : St} {a : Act} {w : World}

def resSem (tmps : Array Value) : ResultVar → Sem Value
  | .tmp t => pure (tmps.getD t undef)
  | .cell a t => do loadVar t (← asAddr (tmps.getD a undef))
theorem res1_sound (hR : Rep ρ φ s.h.hp w) (hT : TmOk ρ a s.tm) {r : ResultVar} {Q : V → Prop} (h : (res1 P s r).sat Q) : ∃ v, Q v ∧ (resSem a.tmps r).run P w = .ok (v.den ρ) w := by
  cases r with
  | tmp t =>
    simp only [res1] at h
    split at h
    · rename_i y hl
      exact ⟨y, h, by have := eval_tmp (hT _ _ hl); simp only [Act.eval] at this; simp only [resSem, Sem.run_pure, this]⟩
    · exact h.elim
  | cell t ty =>
    simp only [res1] at h
    split at h
    · rename_i e hl
      obtain ⟨v, hv, hrun⟩ := loadQ_sound hR h
      refine ⟨v, hv, ?_⟩
      have h1 := eval_tmp (hT _ _ hl)
      simp only [Act.eval, V.den] at h1
      have h2 : ∃ ad, e.den ρ = .pointer (some ad) := by
        obtain ⟨k, off, ix, rfl⟩ := loadQ_ptr h
        exact ⟨_, rfl⟩
      obtain ⟨ad, h2⟩ := h2
      rw [h2] at h1 hrun
      simp only [resSem, Sem.run_bind, h1, asAddr, Sem.run_pure, Result.andThen_ok]
      simpa [Instr.loadAt, Instr.sureAddr] using hrun
    · exact h.elim
theorem resE_sound (hR : Rep ρ φ s.h.hp w) (hT : TmOk ρ a s.tm) {r : ResultVar} {Q : E → Prop} (h : (resE P s r).sat Q) : ∃ v, Q v ∧ (resSem a.tmps r).run P w = .ok (v.den ρ) w := by
  obtain ⟨v, hv, hrun⟩ := res1_sound hR hT (R.sat_bind h)
  cases v with
  | e e => exact ⟨e, hv, hrun⟩
  | tup l => exact hv.elim
theorem results_eq (fn : Func) (tmps : Array Value) : results fn tmps = (do
    let vs ← fn.results.mapM (resSem tmps)
    pure (if h : vs.size = 1 then vs[0] else .tuple vs)) := by
  unfold results
  congr 1
theorem resQ_sound (hR : Rep ρ φ s.h.hp w) (hT : TmOk ρ a s.tm) {fn : Func} {Q : V → Prop} (h : (resQ P s fn.results.toList).sat Q) : ∃ v, Q v ∧ (results fn a.tmps).run P w = .ok (v.den ρ) w := by
  rw [results_eq, Array.mapM_eq_mapM_toList]
  unfold resQ at h
  split at h
  · rename_i hl
    exact ⟨_, h, by rw [hl]; simp [V.den]⟩
  · rename_i r hl
    obtain ⟨v, hv, hrun⟩ := res1_sound hR hT h
    exact ⟨v, hv, by rw [hl]; simp [hrun]⟩
  · rename_i r1 r2 hl
    obtain ⟨v1, h1, hr1⟩ := resE_sound hR hT (R.sat_bind h)
    obtain ⟨v2, h2, hr2⟩ := resE_sound hR hT (R.sat_bind h1)
    exact ⟨_, h2, by rw [hl]; simp [hr1, hr2, V.den]⟩
  · rename_i r1 r2 r3 hl
    obtain ⟨v1, h1, hr1⟩ := resE_sound hR hT (R.sat_bind h)
    obtain ⟨v2, h2, hr2⟩ := resE_sound hR hT (R.sat_bind h1)
    obtain ⟨v3, h3, hr3⟩ := resE_sound hR hT (R.sat_bind h2)
    exact ⟨_, h3, by rw [hl]; simp [hr1, hr2, hr3, V.den]⟩
  · rename_i r1 r2 r3 r4 hl
    obtain ⟨v1, h1, hr1⟩ := resE_sound hR hT (R.sat_bind h)
    obtain ⟨v2, h2, hr2⟩ := resE_sound hR hT (R.sat_bind h1)
    obtain ⟨v3, h3, hr3⟩ := resE_sound hR hT (R.sat_bind h2)
    obtain ⟨v4, h4, hr4⟩ := resE_sound hR hT (R.sat_bind h3)
    exact ⟨_, h4, by rw [hl]; simp [hr1, hr2, hr3, hr4, V.den]⟩
  · exact h.elim

theorem initTm_ok (tmps : Array Value) : ∀ (l : List E) (i : Nat), (∀ j e, l[j]? = some e → tmps[i + j]? = some (e.den ρ)) → ∀ t sv, look (initTm l i) t = some sv → ∃ e, sv = .v (.e e) ∧ e ∈ l ∧ tmps[t]? = some (e.den ρ) := by
  intro l
  induction l with
  | nil => intro i _ t sv h; cases h
  | cons e l ih =>
    intro i hl t sv h
    simp only [initTm, look_cons] at h
    split at h
    · rename_i ht
      cases h
      subst ht
      exact ⟨e, rfl, List.mem_cons_self, by simpa using hl 0 e rfl⟩
    · obtain ⟨e', h1, h2, h3⟩ := ih (i + 1) (fun j e' hj => by have := hl (j + 1) e' (by simpa using hj); rw [show i + 1 + j = i + (j + 1) by omega]; exact this) t sv h
      exact ⟨e', h1, List.mem_cons_of_mem _ h2, h3⟩

/-- What a call comes to: its results, and what is told of the state behind it. -/
def fexec {α : Type u} (P : Program) (S : Sp) (fn : Func) (c : Code) (args : List E) (h0 : H) (out : V → H → α) : Tr α :=
  exec P S fn.ntmps c ⟨initTm args 0, [], h0⟩ fun x s => match x with
    | .exit _ => .fail
    | _ => (resQ P s fn.results.toList).tr fun v => .leaf (out v s.h)

/-- **THE EXECUTOR's WORD ON A CALL.** -/
theorem calls_of_exec {α : Type u} (hS : SpOk P S) (hm : P.follows .mixedOrders = true) {f : FuncId} {fn : Func} {c : Code} (hf : P.funcs[f]? = some fn) (hb : fn.body = some c) {args : List E} {h0 : H} (hkb : hpkb h0.hp h0.nk = true) (hak : args.all (E.kb h0.nk) = true)
    (hN : args.length ≤ fn.ntmps) (out : V → H → α) {Q : α → Prop} (h : (fexec P S fn c args h0 out).sat (LoopT P fn.ntmps h0.nk) Q)
    (hR : Rep ρ φ h0.hp w) : Calls P f (args.map (E.den ρ)).toArray w fun e w' => ∃ v h' ρ' φ', e = .returned (v.den ρ') ∧ Q (out v h') ∧ Rep ρ' φ' h'.hp w' ∧ Evo ρ φ h0 w ρ' φ' h' w' := by
  refine calls_of_wp hf hb ?_
  have hinit := initTm_ok (ρ := ρ) ((args.map (E.den ρ)).toArray ++ Array.replicate (fn.ntmps - (args.map (E.den ρ)).toArray.size) undef) args 0 (fun j e hj => by
    have hlt : j < args.length := by
      rcases Nat.lt_or_ge j args.length with h | h
      · exact h
      · rw [List.getElem?_eq_none h] at hj; cases hj
    rw [Nat.zero_add, Array.getElem?_append_left (by simpa using hlt)]
    simp [hj])
  have hI : Inv ρ φ h0 w fn.ntmps ρ φ ⟨initTm args 0, [], h0⟩ { tmps := (args.map (E.den ρ)).toArray ++ Array.replicate (fn.ntmps - (args.map (E.den ρ)).toArray.size) undef, defers := [] } w := by
    refine ⟨hR, Evo.refl _ _ _ _, ?_, ?_, ?_, hkb, by simp; omega, rfl⟩
    · intro t sv ht
      obtain ⟨e, rfl, _, h3⟩ := hinit t sv ht
      exact h3
    · intro t s wt x ht
      obtain ⟨e, h1, _⟩ := hinit t _ ht
      cases h1
    · intro t sv ht
      obtain ⟨e, rfl, h2, _⟩ := hinit t sv ht
      exact List.all_eq_true.1 hak e h2
  refine exec_sound hS hm (Nat.le_refl _) c _ _ _ ρ φ _ w (fun x s' ρ' φ' a' w' hs hi => ?_) hI h
  cases x with
  | exit i => exact hs.elim
  | normal =>
    obtain ⟨v, hv, hrun⟩ := resQ_sound hi.rep hi.tmk (R.tr_sat hs)
    exact ⟨hi.df, _, hrun, v, _, ρ', φ', rfl, hv, hi.rep, hi.evo⟩
  | ret =>
    obtain ⟨v, hv, hrun⟩ := resQ_sound hi.rep hi.tmk (R.tr_sat hs)
    exact ⟨hi.df, _, hrun, v, _, ρ', φ', rfl, hv, hi.rep, hi.evo⟩

/-- Of a call that follows nothing: its value, and that all that was there is as it was. -/
theorem pure_of_exec (hS : SpOk P S) (hm : P.follows .mixedOrders = true) {f : FuncId} {fn : Func} {c : Code} (hf : P.funcs[f]? = some fn) (hb : fn.body = some c) {args : List E} (hak : args.all (E.kb 0) = true)
    (hN : args.length ≤ fn.ntmps) {v : V} (hv : v.kb 0 = true) (h : (fexec P S fn c args ⟨[], 0⟩ fun v _ => v).sat (LoopT P fn.ntmps 0) fun v' => v' = v)
    (ρ : As) (w : World) : Calls P f (args.map (E.den ρ)).toArray w fun e w' => e = .returned (v.den ρ) ∧ RowKit.Below w.heap.size w w' := by
  refine (calls_of_exec (ρ := ρ) (φ := fun _ _ => False) (h0 := ⟨[], 0⟩) hS hm hf hb rfl hak hN (fun v _ => v) h ⟨fun k b hk => (by cases hk), fun k b hk => (by cases hk), fun k k' b b' hk => (by cases hk)⟩).mono fun e w' hp => ?_
  obtain ⟨v', h', ρ', φ', rfl, rfl, _, hE⟩ := hp
  exact ⟨by rw [V.den_agr hv hE.agr], hE.os, hE.tape, hE.output, hE.size, fun k hk => hE.fr k hk fun k b hk => by cases hk⟩
end

/-! ### What is known of functions, one behind the other -/
structure QE (P : Program) where
  f : FuncId
  ans : List E → HP → R V
  ok : ∀ args hp Q, (ans args hp).sat Q → Enters P f ∧ ∃ v, Q v ∧ ∀ ρ φ w, Rep ρ φ hp w →
    Calls P f (args.map (E.den ρ)).toArray w fun e w' => e = .returned (v.den ρ) ∧ RowKit.Below w.heap.size w w'
structure ME (P : Program) where
  f : FuncId
  ans : List E → H → R (V × H)
  ok : ∀ args h Q, (ans args h).sat Q → Enters P f ∧ ∃ v h', Q (v, h') ∧ ∀ ρ φ w, Rep ρ φ h.hp w → hpkb h.hp h.nk = true →
    Calls P f (args.map (E.den ρ)).toArray w fun e w' => ∃ ρ' φ', e = .returned (v.den ρ') ∧ Rep ρ' φ' h'.hp w' ∧ Evo ρ φ h w ρ' φ' h' w'
structure EE (P : Program) where
  t : TypeId
  ans : List Sg → List Sg → R Bool
  ok : ∀ p q Q, (ans p q).sat Q → ∃ b, Q b ∧ ∀ (ρ : As) (w : World),
    (Op.equal t (.agg (cellsOf ρ p).toArray) (.agg (cellsOf ρ q).toArray)).run P w = .ok b w ∧
    ∀ op x y, (eqGuard op t x y (.agg (cellsOf ρ p).toArray) (.agg (cellsOf ρ q).toArray)).run P w = .ok () w
structure XE (P : Program) where
  ans : Op → List E → HP → R V
  ok : ∀ op ls l hp Q, xArgs op = some ls → (ans op l hp).sat Q → ∃ v, Q v ∧ ∀ (ρ : As) (φ : Nat → Nat → Prop) (w : World) (ev : Operand → Value) (o : Oper), o.op = op → ls.map ev = l.map (E.den ρ) → Rep ρ φ hp w →
    (execOp ev o).run P w = .ok (.value (v.den ρ)) w
structure YE (P : Program) where
  ans : Op → List E → H → R (V × H)
  ok : ∀ op ls l h Q, yArgs op = some ls → (ans op l h).sat Q → ∃ v h', Q (v, h') ∧ ∀ (ρ : As) (φ : Nat → Nat → Prop) (w : World) (ev : Operand → Value) (o : Oper), o.op = op → ls.map ev = l.map (E.den ρ) → Rep ρ φ h.hp w → hpkb h.hp h.nk = true →
    ∃ ρ' φ' w', (execOp ev o).run P w = .ok (if isUp op then .skip else .value (v.den ρ')) w' ∧ Rep ρ' φ' h'.hp w' ∧ Evo ρ φ h w ρ' φ' h' w'
structure ZE (P : Program) where
  t : TypeId
  l : List Sg
  ok : Z1 P t l
def findQ {P : Program} : List (QE P) → FuncId → List E → HP → R V
  | [], _, _, _ => .fail
  | x :: l, f, args, hp => if x.f = f then x.ans args hp else findQ l f args hp
def findM {P : Program} : List (ME P) → FuncId → List E → H → R (V × H)
  | [], _, _, _ => .fail
  | x :: l, f, args, h => if x.f = f then x.ans args h else findM l f args h
def findE {P : Program} : List (EE P) → TypeId → List Sg → List Sg → R Bool
  | [], _, _, _ => .fail
  | x :: l, t, p, q => if x.t = t then x.ans p q else findE l t p q
def findZ {P : Program} : List (ZE P) → TypeId → Option (List Sg)
  | [], _ => none
  | x :: l, t => if x.t = t then some x.l else findZ l t
def spOf {P : Program} (z : List (ZE P)) (e : List (EE P)) (q : List (QE P)) (m : List (ME P)) (x : Option (XE P)) (y : Option (YE P)) : Sp :=
  ⟨findZ z, findE e, findQ q, findM m, fun op l hp => match x with | some x => x.ans op l hp | none => .fail, fun op l h => match y with | some y => y.ans op l h | none => .fail, 0, false, false, false⟩
/-- The same, its loops unrolled. -/
def Sp.un (S : Sp) (n : Nat) : Sp := ⟨S.z, S.eq, S.q, S.m, S.x, S.y, n, S.c, S.g, S.r⟩
/-- The same, its bounds reckoned. -/
def Sp.ck (S : Sp) : Sp := ⟨S.z, S.eq, S.q, S.m, S.x, S.y, S.u, true, S.g, S.r⟩
theorem Sp.ck_ok {P : Program} {S : Sp} (h : SpOk P S) : SpOk P S.ck := ⟨h.z, ⟨h.eq.eq⟩, h.q, h.m, h.x, h.y⟩
/-- The same, its guards reckoned. -/
def Sp.gr (S : Sp) : Sp := ⟨S.z, S.eq, S.q, S.m, S.x, S.y, S.u, S.c, true, S.r⟩
theorem Sp.gr_ok {P : Program} {S : Sp} (h : SpOk P S) : SpOk P S.gr := ⟨h.z, ⟨h.eq.eq⟩, h.q, h.m, h.x, h.y⟩
/-- The same, where remainders are said to be none. -/
def Sp.rm (S : Sp) : Sp := ⟨S.z, S.eq, S.q, S.m, S.x, S.y, S.u, S.c, S.g, true⟩
theorem Sp.rm_ok {P : Program} {S : Sp} (h : SpOk P S) : SpOk P S.rm := ⟨h.z, ⟨h.eq.eq⟩, h.q, h.m, h.x, h.y⟩
theorem Sp.un_ok {P : Program} {S : Sp} (h : SpOk P S) (n : Nat) : SpOk P (S.un n) := ⟨h.z, ⟨h.eq.eq⟩, h.q, h.m, h.x, h.y⟩
theorem spOf_ok {P : Program} (z : List (ZE P)) (e : List (EE P)) (q : List (QE P)) (m : List (ME P)) (x : Option (XE P)) (y : Option (YE P)) : SpOk P (spOf z e q m x y) where
  x := fun op ls l hp Q hx h => by
    cases x with
    | none => exact h.elim
    | some x => exact x.ok op ls l hp Q hx h
  y := fun op ls l h Q hx hh => by
    cases y with
    | none => exact hh.elim
    | some y => exact y.ok op ls l h Q hx hh
  z := fun t l h => by
    simp only [spOf] at h
    induction z with
    | nil => cases h
    | cons x z ih =>
      simp only [findZ] at h
      split at h
      · rename_i hx; cases h; subst hx; exact x.ok
      · exact ih h
  eq := ⟨fun t p r Q h => by
    simp only [spOf] at h
    induction e with
    | nil => exact h.elim
    | cons x e ih =>
      simp only [findE] at h
      split at h
      · rename_i hx; subst hx; exact x.ok p r Q h
      · exact ih h⟩
  q := fun f args hp Q h => by
    simp only [spOf] at h
    induction q with
    | nil => exact h.elim
    | cons x q ih =>
      simp only [findQ] at h
      split at h
      · rename_i hx; subst hx; exact x.ok args hp Q h
      · exact ih h
  m := fun f args h Q hh => by
    simp only [spOf] at hh
    induction m with
    | nil => exact hh.elim
    | cons x m ih =>
      simp only [findM] at hh
      split at hh
      · rename_i hx; subst hx; exact x.ok args h Q hh
      · exact ih hh
end Go.Sx
