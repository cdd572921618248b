/- The executor, part 4. -/
import Derived.Test.YtchoogeojpllfaaSx3
import Derived.MapKept
import Derived.Laws.LoneSync
set_option linter.unusedVariables false
set_option linter.unusedSimpArgs false
namespace Go.Sx
universe u v

/-- Ways that are not gone: 1: the test holds, 2: it doesn't, else both. -/
def prune {α : Type u} : Tr α → List Nat → Tr α × List Nat
  | .br c t e, o :: os => match o with
    | 1 => (.need (c = true) (prune t os).1, (prune t os).2)
    | 2 => (.need (c = false) (prune e os).1, (prune e os).2)
    | _ => (.br c (prune t os).1 (prune e (prune t os).2).1, (prune e (prune t os).2).2)
  | .need p t, os => (.need p (prune t os).1, (prune t os).2)
  | x, os => (x, os)
theorem prune_sat {α : Type u} {L : Code → St → (Ex → St → Prop) → Prop} {Q : α → Prop} : ∀ (T : Tr α) (os : List Nat), (prune T os).1.sat L Q → T.sat L Q := by
  intro T
  induction T with
  | leaf x => intro os h; exact h
  | fail => intro os h; cases os <;> exact h
  | loop b s k ih => intro os h; cases os <;> exact h
  | need p t ih => intro os h; exact ⟨h.1, ih os h.2⟩
  | br c t e iht ihe =>
    intro os h
    cases os with
    | nil => exact h
    | cons o os =>
      unfold prune at h
      split at h
      · exact ⟨fun _ => iht _ h.2, fun hc => (by rw [h.1] at hc; cases hc)⟩
      · exact ⟨fun hc => (by rw [h.1] at hc; cases hc), fun _ => ihe _ h.2⟩
      · exact ⟨fun hc => iht _ (h.1 hc), fun hc => ihe _ (h.2 hc)⟩
/-- What a run comes to. -/
structure Ran {α : Type u} (P : Program) (N n : Nat) (T : Tr α) (os : List Nat) (Q : α → Prop) : Prop where
  sat : (prune T os).1.sat (LoopT P N n) Q
theorem ran_of {α : Type u} {P : Program} {N n : Nat} {T T' : Tr α} {os : List Nat} {Q : α → Prop} (h : (prune T os).1 = T') (h' : T'.sat (LoopT P N n) Q) : Ran P N n T os Q := ⟨by rw [h]; exact h'⟩
/-- A function's code. -/
def bodyOf (fn : Func) : Code := fn.body.getD .skip
theorem body_eq {fn : Func} (h : fn.body.isSome = true) : fn.body = some (bodyOf fn) := by
  cases hb : fn.body with
  | none => rw [hb] at h; cases h
  | some c => simp [bodyOf, hb]
@[simp] theorem cond_true_l (b c : Bool) : (bif b then true else c) = (b || c) := by cases b <;> rfl
@[simp] theorem cond_false_r (b c : Bool) : (bif b then c else false) = (b && c) := by cases b <;> rfl
theorem i_eq {a b : Int} (h : a = b) : (V.e (.c (.i a))) = .e (.c (.i b)) := by rw [h]
theorem w_eq {a b : BitVec 32} (h : a = b) : (V.e (.c (.w a))) = .e (.c (.w b)) := by rw [h]
theorem bool_eq {a b : Bool} (h : a = b) : (V.e (.c (.bool a))) = .e (.c (.bool b)) := by rw [h]

/-- The usual QE: a function of numbers alone. -/
theorem qe_ok {P : Program} {z : List (ZE P)} {e : List (EE P)} {q : List (QE P)} {m : List (ME P)} {x : Option (XE P)} {y : Option (YE P)} {f : FuncId} {fn : Func} (hm : P.follows .mixedOrders = true) (hf : P.funcs[f]? = some fn) (hb : fn.body.isSome = true)
    (hn : (fn.name == "runtime.NumGoroutine") = false) {args : List E} (hak : args.all (E.kb 0) = true) (hN : args.length ≤ fn.ntmps) {v : V} (hv : v.kb 0 = true) (os : List Nat)
    (h : Ran P fn.ntmps 0 (fexec P (spOf z e q m x y) fn (bodyOf fn) args ⟨[], 0⟩ fun v _ => v) os fun v' => v' = v) {Q : V → Prop} (hQ : Q v) {hp : HP} :
    Enters P f ∧ ∃ v, Q v ∧ ∀ ρ φ w, Rep ρ φ hp w → Calls P f (args.map (E.den ρ)).toArray w fun e w' => e = .returned (v.den ρ) ∧ RowKit.Below w.heap.size w w' :=
  ⟨⟨fn, hf, by cases hx : fn.body <;> simp_all, hn⟩, v, hQ, fun ρ _ w _ => pure_of_exec (spOf_ok z e q m x y) hm hf (body_eq hb) hak hN hv (prune_sat _ _ h.sat) ρ w⟩
end Go.Sx
namespace Go.Sx
universe u v

/-! ### Maps: of pages, and of places -/
structure En where
  p : PgA
  a : Nat
  wr : Int
  born : Nat
def key32 (x : BitVec 32) : Value := .int .u32 x.toNat
def En.ent (e : En) : MapEntry := { key := key32 e.p.base, val := .pointer (some ⟨e.a, 0, none⟩), born := e.born }
def As0 : As := ⟨fun _ => 0, fun _ => .bool false, fun _ => rfl⟩
def pageCells (p : PgA) (wr : Int) : List Sg := [.bs p.b 256, .c (.i p.perm), .c (.i wr)]
def pageObj (T : Nat) (p : PgA) (wr : Int) : Obj := .cells (cellsOf As0 (pageCells p wr)).toArray T (0, 0)
theorem pageCells_den (ρ : As) (p : PgA) (wr : Int) : cellsOf ρ (pageCells p wr) = cellsOf As0 (pageCells p wr) := rfl

def focEnt (ρ : As) : Option (BitVec 32 × Nat) → Nat → List MapEntry
  | none, _ => []
  | some (x, k), b => [{ key := key32 x, val := .pointer (some ⟨ρ.r k, 0, none⟩), born := b }]
def pmI (d : Dat) (ρ : As) (w : World) (k : Nat) (F : Nat → Prop) : Prop :=
  match d with
  | .pm T pre foc post => ∃ (es : Array MapEntry) (clock : Nat) (L1 L2 : List En) (fb : Nat), ρ.v k = .map (some (ρ.r k)) ∧ w.heap[ρ.r k]? = some (.map es clock) ∧ MapKept.Stamped es clock ∧
      L1.map (·.p) = pre ∧ L2.map (·.p) = post ∧ es.toList = L1.map En.ent ++ (focEnt ρ foc fb ++ L2.map En.ent) ∧ (∀ e ∈ L1 ++ L2, w.heap[e.a]? = some (pageObj T e.p e.wr)) ∧
      (ρ.r k :: (L1 ++ L2).map (·.a)).Nodup ∧ ∀ x, F x ↔ x = ρ.r k ∨ ∃ e ∈ L1 ++ L2, x = e.a
  | _ => False
def pmN : Option (BitVec 32 × Nat) → Nat
  | none => 0
  | some (_, k) => k + 1
def pmOb (T : Nat) (pre : List PgA) (foc : Option (BitVec 32 × Nat)) (post : List PgA) : Ob where
  I := fun d ρ w k F => d = .pm T pre foc post ∧ pmI d ρ w k F
  d := .pm T pre foc post
  n := pmN foc
  bt := fun _ _ _ h => by cases h
  loc := fun ρ w w' k F ⟨hd, h⟩ hw => by
    obtain ⟨es, clock, L1, L2, fb, h1, h2, h3, h4, h5, h6, h7, h8, h9⟩ := h
    refine ⟨rfl, es, clock, L1, L2, fb, h1, ?_, h3, h4, h5, h6, fun e he => ?_, h8, h9⟩
    · rw [hw _ ((h9 _).2 (.inl rfl))]; exact h2
    · rw [hw _ ((h9 _).2 (.inr ⟨e, he, rfl⟩))]; exact h7 e he
  agr := fun ρ ρ' w k F ⟨hd, h⟩ hA hr hv => by
    obtain ⟨es, clock, L1, L2, fb, h1, h2, h3, h4, h5, h6, h7, h8, h9⟩ := h
    refine ⟨rfl, es, clock, L1, L2, fb, by rw [hv, hr]; exact h1, by rw [hr]; exact h2, h3, h4, h5, ?_, h7, by rw [hr]; exact h8, by rw [hr]; exact h9⟩
    rw [h6]
    cases foc with
    | none => rfl
    | some y =>
      obtain ⟨x, j⟩ := y
      simp only [focEnt, (hA j (by simp [pmN])).1]
def wmI (d : Dat) (ρ : As) (w : World) (k : Nat) (F : Nat → Prop) : Prop :=
  match d with
  | .wm l => ∃ (es : Array MapEntry) (clock : Nat), ρ.v k = .map (some (ρ.r k)) ∧ w.heap[ρ.r k]? = some (.map es clock) ∧ MapKept.Stamped es clock ∧
      es.toList.map (fun e => (e.key, e.val)) = l.map (fun x => (key32 x, Value.bool true)) ∧ ∀ x, F x ↔ x = ρ.r k
  | _ => False
def wmOb (l : List (BitVec 32)) : Ob where
  I := fun d ρ w k F => d = .wm l ∧ wmI d ρ w k F
  d := .wm l
  n := 0
  bt := fun _ _ _ h => by cases h
  loc := fun ρ w w' k F ⟨hd, h⟩ hw => by
    obtain ⟨es, clock, h1, h2, h3, h4, h5⟩ := h
    exact ⟨rfl, es, clock, h1, by rw [hw _ ((h5 _).2 rfl)]; exact h2, h3, h4, h5⟩
  agr := fun ρ ρ' w k F ⟨hd, h⟩ hA hr hv => by
    obtain ⟨es, clock, h1, h2, h3, h4, h5⟩ := h
    exact ⟨rfl, es, clock, by rw [hv, hr]; exact h1, by rw [hr]; exact h2, h3, h4, by rw [hr]; exact h5⟩

/-! ### The search for a key -/
theorem key32_inj {x y : BitVec 32} (h : key32 x = key32 y) : x = y := by
  unfold key32 at h
  have := (Value.int.inj h).2
  exact BitVec.eq_of_toNat_eq (by exact_mod_cast this)
theorem findNow_miss {a : BitVec 32} : ∀ (l : List MapEntry) (i : Nat), (∀ e ∈ l, ∃ b, e.key = key32 b ∧ b ≠ a) → Instr.findNow (.int .u32) (key32 a) l i = some none
  | [], _, _ => rfl
  | e :: l, i, h => by
    obtain ⟨b, hb, hne⟩ := h e List.mem_cons_self
    have hne' : (a.toNat : Int) ≠ b.toNat := fun hh => hne (BitVec.eq_of_toNat_eq (by exact_mod_cast hh.symm))
    simp only [Instr.findNow, key32, hb, Instr.sameNow, if_true]
    rw [show ((a.toNat : Int) == b.toNat) = false by simpa using hne']
    exact findNow_miss l (i + 1) fun e he => h e (List.mem_cons_of_mem _ he)
theorem findNow_hit {a : BitVec 32} : ∀ (l : List MapEntry) (e : MapEntry) (l2 : List MapEntry) (i : Nat), (∀ e ∈ l, ∃ b, e.key = key32 b ∧ b ≠ a) → e.key = key32 a → Instr.findNow (.int .u32) (key32 a) (l ++ e :: l2) i = some (some (i + l.length, e.val))
  | [], e, l2, i, _, he => by
    simp [Instr.findNow, he, key32, Instr.sameNow]
  | e0 :: l, e, l2, i, h, he => by
    obtain ⟨b, hb, hne⟩ := h e0 List.mem_cons_self
    have hne' : (a.toNat : Int) ≠ b.toNat := fun hh => hne (BitVec.eq_of_toNat_eq (by exact_mod_cast hh.symm))
    simp only [List.cons_append, Instr.findNow, key32, hb, Instr.sameNow, if_true]
    rw [show ((a.toNat : Int) == b.toNat) = false by simpa using hne']
    have := findNow_hit l e l2 (i + 1) (fun e he => h e (List.mem_cons_of_mem _ he)) he
    simp only [key32] at this
    simp only [this, List.length_cons]
    congr 3; omega

section
variable {P : Program}
/-- What is asked of a program's types. -/
structure MapTy (P : Program) (tm tw kt pt bt : TypeId) : Prop where
  um : P.underlying tm = some (.map kt pt)
  uw : P.underlying tw = some (.map kt bt)
  uk : P.underlying kt = some (.int .u32)
  zp : ∀ w, (zeroValue pt).run P w = .ok (.pointer none) w
  zb : ∀ w, (zeroValue bt).run P w = .ok (.bool false) w

theorem lookup_run {t kt et : TypeId} {w : World} {r : Nat} {es : Array MapEntry} {c : Nat} {a : BitVec 32} {o : Option (Nat × Value)} (ht : P.underlying t = some (.map kt et)) (hk : P.underlying kt = some (.int .u32)) (hb : w.heap[r]? = some (.map es c))
    (hf : Instr.findNow (.int .u32) (key32 a) es.toList 0 = some o) : (Instr.lookup t (.map (some r)) (key32 a) false).run P w = (match o with | some (_, v) => .ok v w | none => (zeroValue et).run P w) := by
  have h1 : (Instr.checkKey es.isEmpty 10000 kt (key32 a)).run P w = .ok () w := MapKept.run_checkKey hk (by simp [MapKept.IsKey, key32]) _ 9999
  have h2 := MapKept.run_findKey (P := P) (w := w) hk hf
  unfold Instr.lookup
  simp only [Sem.run_bind, run_underlying ht, Result.andThen_ok, MapKept.run_getObj_map hb, h1, h2, Sem.run_pure]
  cases o with
  | some x => simp [Result.andThen]
  | none =>
    simp only [Sem.run_bind]
    cases hz : (zeroValue et).run P w <;> simp [Result.andThen]

theorem ents_keys {L : List En} {e : MapEntry} (h : e ∈ L.map En.ent) : ∃ x ∈ L.map (·.p), e.key = key32 x.base := by
  obtain ⟨y, hy, rfl⟩ := List.mem_map.1 h
  exact ⟨y.p, List.mem_map.2 ⟨y, hy, rfl⟩, rfl⟩

variable {tm tw kt pt bt : TypeId}
def IsPm (o : Ob) (T : Nat) (pre : List PgA) (foc : Option (BitVec 32 × Nat)) (post : List PgA) : Prop := ∀ ρ w k F, o.I o.d ρ w k F → pmI (.pm T pre foc post) ρ w k F
def IsWm (o : Ob) (l : List (BitVec 32)) : Prop := ∀ ρ w k F, o.I o.d ρ w k F → wmI (.wm l) ρ w k F
def lookA (tm tw : TypeId) (op : Op) (l : List E) (hp : HP) : R V :=
  match op, l with
  | .lookup t _ _ false, [.c (.obj m), .c (.w a)] => (match look hp m with
    | some (.ob o) => (match o.d with
      | .pm T pre none post => if t = tm then .need (IsPm o T pre none post) (.need (∀ p ∈ pre ++ post, p.base ≠ a) (.ok (.e (.c (.raw (.pointer none)))))) else .fail
      | .pm T pre (some (x, k)) post => if t = tm then .need (IsPm o T pre (some (x, k)) post) (.need (a = x ∧ ∀ p ∈ pre, p.base ≠ a) (.ok (.e (.c (.ptr k 0 0))))) else .fail
      | .wm l => if t = tw then .need (IsWm o l) (.ok (.e (.c (.bool (l.contains a))))) else .fail
      | _ => .fail)
    | _ => .fail)
  | _, _ => .fail

theorem lookA_ok (hT : MapTy P tm tw kt pt bt) (op : Op) (ls : List Operand) (l : List E) (hp : HP) (Q : V → Prop) (hx : xArgs op = some ls) (h : (lookA tm tw op l hp).sat Q) :
    ∃ v, Q v ∧ ∀ (ρ : As) (φ : Nat → Nat → Prop) (w : World) (ev : Operand → Value) (o : Oper), o.op = op → ls.map ev = l.map (E.den ρ) → Rep ρ φ hp w → (execOp ev o).run P w = .ok (.value (v.den ρ)) w := by
  unfold lookA at h
  split at h
  · rename_i t ox ok m a
    have hls : ls = [ox, ok] := by simpa [xArgs] using hx.symm
    subst hls
    have hrun : ∀ (ev : Operand → Value) (o : Oper) (w : World) (ρ : As) (v : Value), o.op = .lookup t ox ok false → [ox, ok].map ev = [E.c (.obj m), E.c (.w a)].map (E.den ρ) → (Instr.lookup t (ρ.v m) (key32 a) false).run P w = .ok v w → (execOp ev o).run P w = .ok (.value v) w := by
      intro ev o w ρ v ho hev hr
      simp only [List.map_cons, List.map_nil, List.cons.injEq, E.den, C.den, and_true] at hev
      unfold execOp
      rw [ho]
      simp only [hev.1, hev.2, Sem.run_bind]
      rw [show (Instr.lookup t (ρ.v m) (.int .u32 a.toNat) false).run P w = .ok v w from hr]
      simp
    split at h
    · rename_i o hlk
      split at h
      · rename_i T pre post hd
        split at h
        · rename_i ht
          subst ht
          obtain ⟨ho, hmiss, hq⟩ := h
          refine ⟨_, hq, fun ρ φ w ev oo hoo hev hR => hrun ev oo w ρ _ hoo hev ?_⟩
          obtain ⟨es, clock, L1, L2, fb, h1, h2, h3, h4, h5, h6, h7, h8, h9⟩ := ho _ _ _ _ (hR.ok m _ hlk)
          rw [h1, lookup_run hT.um hT.uk h2 (o := none) ?_]
          · exact hT.zp w
          · refine findNow_miss _ _ fun e he => ?_
            rw [h6] at he
            simp only [focEnt, List.nil_append, List.mem_append] at he
            rcases he with he | he
            · obtain ⟨x, hx, hk⟩ := ents_keys he; rw [h4] at hx; exact ⟨_, hk, hmiss x (List.mem_append.2 (.inl hx))⟩
            · obtain ⟨x, hx, hk⟩ := ents_keys he; rw [h5] at hx; exact ⟨_, hk, hmiss x (List.mem_append.2 (.inr hx))⟩
        · exact h.elim
      · rename_i T pre x k post hd
        split at h
        · rename_i ht
          subst ht
          obtain ⟨ho, ⟨ha, hmiss⟩, hq⟩ := h
          refine ⟨_, hq, fun ρ φ w ev oo hoo hev hR => hrun ev oo w ρ _ hoo hev ?_⟩
          obtain ⟨es, clock, L1, L2, fb, h1, h2, h3, h4, h5, h6, h7, h8, h9⟩ := ho _ _ _ _ (hR.ok m _ hlk)
          rw [h1, lookup_run hT.um hT.uk h2 (o := some (L1.length, .pointer (some ⟨ρ.r k, 0, none⟩))) ?_]
          · rfl
          · rw [h6]
            have := findNow_hit (a := a) (L1.map En.ent) { key := key32 x, val := .pointer (some ⟨ρ.r k, 0, none⟩), born := fb } (L2.map En.ent) 0 (fun e he => by
              obtain ⟨y, hy, hk⟩ := ents_keys he; rw [h4] at hy; exact ⟨_, hk, hmiss y hy⟩) (by rw [ha])
            simpa [focEnt] using this
        · exact h.elim
      · rename_i l hd
        split at h
        · rename_i ht
          subst ht
          obtain ⟨ho, hq⟩ := h
          refine ⟨_, hq, fun ρ φ w ev oo hoo hev hR => hrun ev oo w ρ _ hoo hev ?_⟩
          obtain ⟨es, clock, h1, h2, h3, h4, h5⟩ := ho _ _ _ _ (hR.ok m _ hlk)
          have hkeys : ∀ e ∈ es.toList, ∃ b ∈ l, e.key = key32 b ∧ e.val = .bool true := fun e he => by
            have hm : (e.key, e.val) ∈ l.map fun x => (key32 x, Value.bool true) := by rw [← h4]; exact List.mem_map.2 ⟨e, he, rfl⟩
            obtain ⟨b, hb, hbe⟩ := List.mem_map.1 hm
            exact ⟨b, hb, (Prod.mk.inj hbe).1.symm, (Prod.mk.inj hbe).2.symm⟩
          by_cases hin : a ∈ l
          · have hm : (key32 a, Value.bool true) ∈ es.toList.map fun e => (e.key, e.val) := by rw [h4]; exact List.mem_map.2 ⟨a, hin, rfl⟩
            obtain ⟨e, he, hee⟩ := List.mem_map.1 hm
            obtain ⟨l1, l2, hsplit⟩ := List.append_of_mem he
            have hnd := h3.2.2
            rw [hsplit] at hnd
            have hmiss : ∀ e' ∈ l1, ∃ b, e'.key = key32 b ∧ b ≠ a := fun e' he' => by
              obtain ⟨b, _, hb, _⟩ := hkeys e' (by rw [hsplit]; exact List.mem_append.2 (.inl he'))
              refine ⟨b, hb, ?_⟩
              rintro rfl
              rw [List.map_append, List.nodup_append] at hnd
              exact hnd.2.2 e'.key (List.mem_map.2 ⟨e', he', rfl⟩) e.key (by simp) (by rw [hb, (Prod.mk.inj hee).1])
            rw [h1, lookup_run hT.uw hT.uk h2 (o := some (l1.length, e.val)) (by rw [hsplit]; simpa using findNow_hit (a := a) l1 e l2 0 hmiss (Prod.mk.inj hee).1)]
            simp only [(Prod.mk.inj hee).2, V.den, E.den, C.den]
            rw [show l.contains a = true by simpa using hin]
          · rw [h1, lookup_run hT.uw hT.uk h2 (o := none) (findNow_miss _ _ fun e he => by
              obtain ⟨b, hb, hk, _⟩ := hkeys e he
              exact ⟨b, hk, by rintro rfl; exact hin hb⟩)]
            simp only [V.den, E.den, C.den]
            rw [show l.contains a = false by simpa using hin]
            exact hT.zb w
        · exact h.elim
      · exact h.elim
    · exact h.elim
  · exact h.elim
def lookX (hT : MapTy P tm tw kt pt bt) : XE P := ⟨lookA tm tw, fun op ls l hp Q hx h => lookA_ok hT op ls l hp Q hx h⟩
end
end Go.Sx
namespace Go.Sx
universe u v

section
variable {P : Program} {ρ : As} {φ : Nat → Nat → Prop} {h : H} {w w' : World}
/-- An object's block, turned. -/
theorem Rep.turn (hR : Rep ρ φ h.hp w) {k : Nat} {b0 b1 : Blk} (hk : look h.hp k = some b0) (hb : b1.holds ρ w' k (φ k)) (hoth : ∀ x, ¬ φ k x → w'.heap[x]? = w.heap[x]?) (hos : w'.os = w.os) (htp : w'.tape = w.tape) (hout : w'.output = w.output) (hsz : w'.heap.size = w.heap.size) :
    Rep ρ φ (sett h.hp k b1) w' ∧ Evo ρ φ h w ρ φ ⟨sett h.hp k b1, h.nk⟩ w' := by
  have hs : (look h.hp k).isSome := by rw [hk]; rfl
  constructor
  · constructor
    · intro j b hj
      rw [look_sett _ _ _ _ hs] at hj
      split at hj
      · rename_i e
        subst e
        cases hj
        exact hb
      · rename_i e
        refine Blk.holds_loc (hR.ok j b hj) fun x hx => hoth x ?_
        exact hR.dis j k b _ hj hk (fun e' => e e'.symm) _ hx
    · intro j b hj x hx
      rw [look_sett _ _ _ _ hs] at hj
      rw [hsz]
      split at hj
      · rename_i e; subst e; exact hR.lt k _ hk x hx
      · exact hR.lt j b hj x hx
    · intro j j' b b' hj hj' hne x hx hx'
      rw [look_sett _ _ _ _ hs] at hj hj'
      have h1 : ∃ b, look h.hp j = some b := by
        split at hj
        · rename_i e; subst e; exact ⟨_, hk⟩
        · exact ⟨_, hj⟩
      have h2 : ∃ b, look h.hp j' = some b := by
        split at hj'
        · rename_i e; subst e; exact ⟨_, hk⟩
        · exact ⟨_, hj'⟩
      obtain ⟨b1, h1⟩ := h1
      obtain ⟨b2, h2⟩ := h2
      exact hR.dis j j' b1 b2 h1 h2 hne x hx hx'
  · refine ⟨Nat.le_refl _, Agr.refl _ _, ?_, ?_, hos, htp, hout, by omega⟩
    · intro j b hj x hx _
      simp only [look_sett _ _ _ _ hs] at hj
      split at hj
      · rename_i e; subst e; exact ⟨_, _, hk, hx⟩
      · exact ⟨_, _, hj, hx⟩
    · intro x hx hno
      exact hoth x (hno k _ hk)

theorem update_new {t kt et : TypeId} {r : Nat} {es : Array MapEntry} {c : Nat} {a : BitVec 32} {v : Value} (ht : P.underlying t = some (.map kt et)) (hk : P.underlying kt = some (.int .u32)) (hb : w.heap[r]? = some (.map es c))
    (hf : Instr.findNow (.int .u32) (key32 a) es.toList 0 = some none) : (Instr.mapUpdate t (.map (some r)) (key32 a) v).run P w = .ok () { w with heap := w.heap.setIfInBounds r (.map (es.push { key := key32 a, val := v, born := c }) (c + 1)) } := by
  have h1 : (Instr.checkKey false 10000 kt (key32 a)).run P w = .ok () w := MapKept.run_checkKey hk (by simp [MapKept.IsKey, key32]) _ 9999
  have h2 := MapKept.run_findKey (P := P) (w := w) hk hf
  unfold Instr.mapUpdate
  simp only [Sem.run_bind, run_underlying ht, Result.andThen_ok, MapKept.run_getObj_map hb, h1, h2, MapKept.run_setObj_map _ hb]
theorem update_old {t kt et : TypeId} {r : Nat} {es : Array MapEntry} {c i : Nat} {a : BitVec 32} {u v : Value} (ht : P.underlying t = some (.map kt et)) (hk : P.underlying kt = some (.int .u32)) (hb : w.heap[r]? = some (.map es c))
    (hf : Instr.findNow (.int .u32) (key32 a) es.toList 0 = some (some (i, u))) (hi : (es[i]?).map (·.key) = some (key32 a)) : (Instr.mapUpdate t (.map (some r)) (key32 a) v).run P w = .ok () { w with heap := w.heap.setIfInBounds r (.map (es.modify i fun e => { e with key := key32 a, val := v }) c) } := by
  have h1 : (Instr.checkKey false 10000 kt (key32 a)).run P w = .ok () w := MapKept.run_checkKey hk (by simp [MapKept.IsKey, key32]) _ 9999
  have h2 := MapKept.run_findKey (P := P) (w := w) hk hf
  have h3 : (Instr.keyThatStays (key32 a) (key32 a)).run P w = .ok (key32 a) w := MapKept.run_keyThatStays (d := .int .u32) (by simp [MapKept.IsKey, key32])
  unfold Instr.mapUpdate
  simp only [Sem.run_bind, run_underlying ht, Result.andThen_ok, MapKept.run_getObj_map hb, h1, h2, hi, Option.getD_some, h3, MapKept.run_setObj_map _ hb]
theorem heap_setB {r : Nat} {o o' : Obj} (hb : w.heap[r]? = some o) : ({ w with heap := w.heap.setIfInBounds r o' } : World).heap[r]? = some o' ∧ ∀ x, x ≠ r → ({ w with heap := w.heap.setIfInBounds r o' } : World).heap[x]? = w.heap[x]? := MapKept.heap_set hb

variable {tm tw kt pt bt pg : TypeId}
def turnA (tm tw pg : TypeId) (op : Op) (l : List E) (h : H) : R (V × H) :=
  match op, l with
  | .makeMap t none, [] => if t = tm then .ok (.e (.c (.obj h.nk)), ⟨(h.nk, .ob (pmOb pg [] none [])) :: h.hp, h.nk + 1⟩) else if t = tw then .ok (.e (.c (.obj h.nk)), ⟨(h.nk, .ob (wmOb [])) :: h.hp, h.nk + 1⟩) else .fail
  | .mapUpdate t _ _ _, [.c (.obj m), .c (.w a), .c (.ptr k 0 0)] => (match look h.hp m with
    | some (.ob o) => (match o.d with
      | .pm T pre none [] => if t = tm then .need (o = pmOb T pre none []) (.need (∀ p ∈ pre, p.base ≠ a) (.ok (.tup [], ⟨sett h.hp m (.ob (pmOb T pre (some (a, k)) [])), h.nk⟩))) else .fail
      | _ => .fail)
    | _ => .fail)
  | .mapUpdate t _ _ _, [.c (.obj m), .c (.w a), .c (.bool b)] => (match look h.hp m with
    | some (.ob o) => (match o.d with
      | .wm l => if t = tw then .need (o = wmOb l) (.need (b = true) (.ok (.tup [], ⟨sett h.hp m (.ob (wmOb (if l.contains a then l else l ++ [a]))), h.nk⟩))) else .fail
      | _ => .fail)
    | _ => .fail)
  | .call { callee := .builtin .delete, argTypes, .. }, [.c (.obj m), .c (.w a)] => if argTypes[0]? = some tw then (match look h.hp m with
    | some (.ob o) => (match o.d with
      | .wm l => .need (o = wmOb l) (.ok (.tup [], ⟨sett h.hp m (.ob (wmOb (l.erase a))), h.nk⟩))
      | _ => .fail)
    | _ => .fail) else .fail
  | _, _ => .fail

def delEs (es : Array MapEntry) : Option (Nat × Value) → Array MapEntry
  | some (i, _) => es.eraseIdxIfInBounds i
  | none => es
theorem delete_run {ats : Array TypeId} {ty t kt et : TypeId} {r : Nat} {es : Array MapEntry} {c : Nat} {a : BitVec 32} {f : Option (Nat × Value)} (h0 : ats[0]? = some t) (ht : P.underlying t = some (.map kt et)) (hk : P.underlying kt = some (.int .u32)) (hb : w.heap[r]? = some (.map es c))
    (hf : Instr.findNow (.int .u32) (key32 a) es.toList 0 = some f) : (Builtin.delete_ ats ty #[.map (some r), key32 a]).run P w = .ok (.tuple #[]) { w with heap := w.heap.setIfInBounds r (.map (delEs es f) c) } := by
  have h1 : (Instr.checkKey es.isEmpty 10000 kt (key32 a)).run P w = .ok () w := MapKept.run_checkKey hk (by simp [MapKept.IsKey, key32]) _ 9999
  have h2 := MapKept.run_findKey (P := P) (w := w) hk hf
  unfold Builtin.delete_
  simp only [h0, List.getElem?_toArray, List.getElem?_cons_zero, List.getElem?_cons_succ, Sem.run_bind, run_underlying ht, Result.andThen_ok, MapKept.run_getObj_map hb, h1, h2]
  cases f with
  | none => simp only [Sem.run_bind, MapKept.run_setObj_map _ hb, Result.andThen_ok, Sem.run_pure]; rfl
  | some x => simp only [Sem.run_bind, MapKept.run_setObj_map _ hb, Result.andThen_ok, Sem.run_pure]; rfl
theorem turnA_ok (hT : MapTy P tm tw kt pt bt) (op : Op) (ls : List Operand) (l : List E) (h : H) (Q : V × H → Prop) (hx : yArgs op = some ls) (hh : (turnA tm tw pg op l h).sat Q) :
    ∃ v h', Q (v, h') ∧ ∀ (ρ : As) (φ : Nat → Nat → Prop) (w : World) (ev : Operand → Value) (o : Oper), o.op = op → ls.map ev = l.map (E.den ρ) → Rep ρ φ h.hp w → hpkb h.hp h.nk = true →
    ∃ ρ' φ' w', (execOp ev o).run P w = .ok (if isUp op then .skip else .value (v.den ρ')) w' ∧ Rep ρ' φ' h'.hp w' ∧ Evo ρ φ h w ρ' φ' h' w' := by
  unfold turnA at hh
  split at hh
  · rename_i t
    have make : ∀ (ρ : As) (φ : Nat → Nat → Prop) (w : World) (ev : Operand → Value) (o : Oper), o.op = .makeMap t none → (execOp ev o).run P w = .ok (.value (.map (some w.heap.size))) (w.alloc (.map #[] 0)) := by
      intro ρ φ w ev o ho
      unfold execOp
      rw [ho]
      rfl
    split at hh
    · refine ⟨_, _, hh, fun ρ φ w ev o ho _ hR hkb => ?_⟩
      have := hR.allocOb (o := .map #[] 0) hkb (v := .map (some w.heap.size)) rfl (b1 := .ob (pmOb pg [] none [])) ⟨rfl, #[], 0, [], [], 0, by simp [As.newV], by simp only [As.newV, if_true]; exact heap_alloc_new _ _, MapKept.stamped_empty 0, rfl, rfl, rfl, by simp, by simp, fun x => by simp [As.newV]⟩
      refine ⟨_, _, _, ?_, this.1, this.2⟩
      rw [make ρ φ w ev o ho]
      simp [isUp, V.den, E.den, C.den, As.newV]
    · split at hh
      · refine ⟨_, _, hh, fun ρ φ w ev o ho _ hR hkb => ?_⟩
        have := hR.allocOb (o := .map #[] 0) hkb (v := .map (some w.heap.size)) rfl (b1 := .ob (wmOb [])) ⟨rfl, #[], 0, by simp [As.newV], by simp only [As.newV, if_true]; exact heap_alloc_new _ _, MapKept.stamped_empty 0, rfl, fun x => by simp [As.newV]⟩
        refine ⟨_, _, _, ?_, this.1, this.2⟩
        rw [make ρ φ w ev o ho]
        simp [isUp, V.den, E.den, C.den, As.newV]
      · exact hh.elim
  · rename_i t om ok ov m a k
    have hls : ls = [om, ok, ov] := by simpa [yArgs] using hx.symm
    subst hls
    split at hh
    · rename_i ob hlk
      split at hh
      · rename_i T pre hd
        split at hh
        · rename_i ht
          subst ht
          obtain ⟨ho, hmiss, hq⟩ := hh
          refine ⟨_, _, hq, fun ρ φ w ev o hoo hev hR hkb => ?_⟩
          simp only [List.map_cons, List.map_nil, List.cons.injEq, E.den, C.den, and_true] at hev
          have hob := hR.ok m _ hlk
          rw [ho] at hob
          obtain ⟨_, es, clock, L1, L2, fb, h1, h2, h3, h4, h5, h6, h7, h8, h9⟩ := hob
          have hL2 : L2 = [] := by simpa using h5
          subst hL2
          have hmiss' : ∀ e ∈ es.toList, ∃ b, e.key = key32 b ∧ b ≠ a := fun e he => by
            rw [h6] at he
            simp only [focEnt, List.map_nil, List.append_nil] at he
            obtain ⟨x, hx, hk⟩ := ents_keys he; rw [h4] at hx; exact ⟨_, hk, hmiss x hx⟩
          have hup := update_new (P := P) (w := w) (v := .pointer (some ⟨ρ.r k, 0, none⟩)) hT.um hT.uk h2 (findNow_miss _ _ hmiss')
          have hset := heap_setB (o' := .map (es.push { key := key32 a, val := .pointer (some ⟨ρ.r k, 0, none⟩), born := clock }) (clock + 1)) h2
          have hF : φ m (ρ.r m) := (h9 _).2 (.inl rfl)
          have hnd : ∀ e ∈ L1 ++ [], e.a ≠ ρ.r m := fun e he => by
            have := (List.nodup_cons.1 h8).1
            exact fun hh => this (by rw [← hh]; exact List.mem_map.2 ⟨e, he, rfl⟩)
          have := hR.turn (w' := { w with heap := w.heap.setIfInBounds (ρ.r m) (.map (es.push { key := key32 a, val := .pointer (some ⟨ρ.r k, 0, none⟩), born := clock }) (clock + 1)) }) (b1 := .ob (pmOb T pre (some (a, k)) [])) hlk
            ⟨rfl, _, _, L1, [], clock, h1, hset.1, MapKept.stamped_push h3 (fun e he => by
                obtain ⟨b, hb, hne⟩ := hmiss' e he
                rw [hb]; exact fun hh => hne (key32_inj hh)), h4, rfl, by simp [focEnt, h6], fun e he => by rw [hset.2 _ (hnd e he)]; exact h7 e he, h8, h9⟩
            (fun x hx => hset.2 x (by rintro rfl; exact hx hF)) rfl rfl rfl (by simp)
          refine ⟨ρ, φ, _, ?_, this.1, this.2⟩
          unfold execOp
          rw [hoo]
          simp only [hev.1, hev.2.1, hev.2.2, isUp, if_true, Sem.run_bind, h1]
          rw [show (Instr.mapUpdate t (.map (some (ρ.r m))) (.int .u32 a.toNat) (.pointer (some ⟨ρ.r k, 0 + 0, none⟩))).run P w = _ from hup]
          rfl
        · exact hh.elim
      · exact hh.elim
    · exact hh.elim
  · rename_i t om ok ov m a b
    have hls : ls = [om, ok, ov] := by simpa [yArgs] using hx.symm
    subst hls
    split at hh
    · rename_i ob hlk
      split at hh
      · rename_i l hd
        split at hh
        · rename_i ht
          subst ht
          obtain ⟨ho, rfl, hq⟩ := hh
          refine ⟨_, _, hq, fun ρ φ w ev o hoo hev hR hkb => ?_⟩
          simp only [List.map_cons, List.map_nil, List.cons.injEq, E.den, C.den, and_true] at hev
          have hob := hR.ok m _ hlk
          rw [ho] at hob
          obtain ⟨_, es, clock, h1, h2, h3, h4, h5⟩ := hob
          have hF : φ m (ρ.r m) := (h5 _).2 rfl
          have hkeys : ∀ e ∈ es.toList, ∃ b ∈ l, e.key = key32 b ∧ e.val = .bool true := fun e he => by
            have hm : (e.key, e.val) ∈ l.map fun x => (key32 x, Value.bool true) := by rw [← h4]; exact List.mem_map.2 ⟨e, he, rfl⟩
            obtain ⟨b, hb, hbe⟩ := List.mem_map.1 hm
            exact ⟨b, hb, (Prod.mk.inj hbe).1.symm, (Prod.mk.inj hbe).2.symm⟩
          have fin : ∀ es' c', (Instr.mapUpdate t (.map (some (ρ.r m))) (key32 a) (.bool true)).run P w = .ok () { w with heap := w.heap.setIfInBounds (ρ.r m) (.map es' c') } → MapKept.Stamped es' c' →
              es'.toList.map (fun e => (e.key, e.val)) = (if l.contains a = true then l else l ++ [a]).map (fun x => (key32 x, Value.bool true)) →
              ∃ ρ' φ' w', (execOp ev o).run P w = .ok (if isUp (.mapUpdate t om ok ov) then .skip else .value (V.den ρ' (.tup []))) w' ∧ Rep ρ' φ' (sett h.hp m (.ob (wmOb (if l.contains a = true then l else l ++ [a])))) w' ∧ Evo ρ φ h w ρ' φ' ⟨sett h.hp m (.ob (wmOb (if l.contains a = true then l else l ++ [a]))), h.nk⟩ w' := by
            intro es' c' hup hst hent
            have hset := heap_setB (o' := .map es' c') h2
            have := hR.turn (w' := { w with heap := w.heap.setIfInBounds (ρ.r m) (.map es' c') }) (b1 := .ob (wmOb (if l.contains a = true then l else l ++ [a]))) hlk
              ⟨rfl, _, _, h1, hset.1, hst, hent, h5⟩ (fun x hx => hset.2 x (by rintro rfl; exact hx hF)) rfl rfl rfl (by simp)
            refine ⟨ρ, φ, _, ?_, this.1, this.2⟩
            unfold execOp
            rw [hoo]
            simp only [hev.1, hev.2.1, hev.2.2, isUp, if_true, Sem.run_bind, h1]
            rw [show (Instr.mapUpdate t (.map (some (ρ.r m))) (.int .u32 a.toNat) (.bool true)).run P w = _ from hup]
            rfl
          by_cases hin : a ∈ l
          · have hm : (key32 a, Value.bool true) ∈ es.toList.map fun e => (e.key, e.val) := by rw [h4]; exact List.mem_map.2 ⟨a, hin, rfl⟩
            obtain ⟨e, he, hee⟩ := List.mem_map.1 hm
            obtain ⟨l1, l2, hsplit⟩ := List.append_of_mem he
            have hnd := h3.2.2
            rw [hsplit] at hnd
            have hmiss : ∀ e' ∈ l1, ∃ b, e'.key = key32 b ∧ b ≠ a := fun e' he' => by
              obtain ⟨b, _, hb, _⟩ := hkeys e' (by rw [hsplit]; exact List.mem_append.2 (.inl he'))
              refine ⟨b, hb, ?_⟩
              rintro rfl
              rw [List.map_append, List.nodup_append] at hnd
              exact hnd.2.2 e'.key (List.mem_map.2 ⟨e', he', rfl⟩) e.key (by simp) (by rw [hb, (Prod.mk.inj hee).1])
            have hget : es[l1.length]? = some e := by
              rw [← Array.getElem?_toList, hsplit]; simp
            have hf : Instr.findNow (.int .u32) (key32 a) es.toList 0 = some (some (l1.length, e.val)) := by rw [hsplit]; simpa using findNow_hit (a := a) l1 e l2 0 hmiss (Prod.mk.inj hee).1
            have hmod : (es.modify l1.length fun e => { e with key := key32 a, val := Value.bool true }) = es := by
              apply Array.ext'
              apply List.ext_getElem?
              intro j
              rw [Array.toList_modify]
              rw [List.getElem?_modify]
              by_cases hj : l1.length = j
              · subst hj
                simp only [if_true, Array.getElem?_toList, hget, Option.map_some]
                obtain ⟨k1, v1, b1⟩ := e
                simp only at hee
                rw [(Prod.mk.inj hee).1, (Prod.mk.inj hee).2]
                rfl
              · simp [hj]
            have hup := update_old (P := P) (w := w) (v := .bool true) hT.uw hT.uk h2 hf (by rw [hget]; exact congrArg some (Prod.mk.inj hee).1)
            rw [hmod] at hup
            exact fin es clock hup h3 (by rw [h4, if_pos (by simpa using hin)])
          · have hmiss' : ∀ e ∈ es.toList, ∃ b, e.key = key32 b ∧ b ≠ a := fun e he => by
              obtain ⟨b, hb, hk, _⟩ := hkeys e he
              exact ⟨b, hk, by rintro rfl; exact hin hb⟩
            refine fin _ _ (update_new (P := P) (w := w) (v := .bool true) hT.uw hT.uk h2 (findNow_miss _ _ hmiss')) (MapKept.stamped_push h3 (fun e he => by
                obtain ⟨b, hb, hne⟩ := hmiss' e he
                rw [hb]; exact fun hh => hne (key32_inj hh))) ?_
            rw [if_neg (by simpa using hin)]
            simp [h4]
        · exact hh.elim
      · exact hh.elim
    · exact hh.elim
  · rename_i args ats m a
    have hls : ls = args.toList := by simpa [yArgs] using hx.symm
    subst hls
    split at hh
    · rename_i hat
      split at hh
      · rename_i ob hlk
        split at hh
        · rename_i l hd
          obtain ⟨ho, hq⟩ := hh
          refine ⟨_, _, hq, fun ρ φ w ev o hoo hev hR hkb => ?_⟩
          have hob := hR.ok m _ hlk
          rw [ho] at hob
          obtain ⟨_, es, clock, h1, h2, h3, h4, h5⟩ := hob
          have hargs : args.map ev = #[.map (some (ρ.r m)), key32 a] := Array.ext' (by
            rw [Array.toList_map, hev]; simp only [List.map_cons, List.map_nil, E.den, C.den, h1]; rfl)
          have hF : φ m (ρ.r m) := (h5 _).2 rfl
          have hkeys : ∀ e ∈ es.toList, ∃ b ∈ l, e.key = key32 b ∧ e.val = .bool true := fun e he => by
            have hm : (e.key, e.val) ∈ l.map fun x => (key32 x, Value.bool true) := by rw [← h4]; exact List.mem_map.2 ⟨e, he, rfl⟩
            obtain ⟨b, hb, hbe⟩ := List.mem_map.1 hm
            exact ⟨b, hb, (Prod.mk.inj hbe).1.symm, (Prod.mk.inj hbe).2.symm⟩
          have fin : ∀ f, Instr.findNow (.int .u32) (key32 a) es.toList 0 = some f → MapKept.Stamped (delEs es f) clock →
              (delEs es f).toList.map (fun e => (e.key, e.val)) = (l.erase a).map (fun x => (key32 x, Value.bool true)) →
              ∃ ρ' φ' w', (execOp ev o).run P w = .ok (if isUp (.call { callee := .builtin .delete, args, argTypes := ats }) then .skip else .value (V.den ρ' (.tup []))) w' ∧ Rep ρ' φ' (sett h.hp m (.ob (wmOb (l.erase a)))) w' ∧ Evo ρ φ h w ρ' φ' ⟨sett h.hp m (.ob (wmOb (l.erase a))), h.nk⟩ w' := by
            intro f hf hst hent
            have hset := heap_setB (o' := .map (delEs es f) clock) h2
            have := hR.turn (w' := { w with heap := w.heap.setIfInBounds (ρ.r m) (.map (delEs es f) clock) }) (b1 := .ob (wmOb (l.erase a))) hlk
              ⟨rfl, _, _, h1, hset.1, hst, hent, h5⟩ (fun x hx => hset.2 x (by rintro rfl; exact hx hF)) rfl rfl rfl (by simp)
            refine ⟨ρ, φ, _, ?_, this.1, this.2⟩
            unfold execOp
            rw [hoo]
            simp only [resolve, Sem.run_bind, Sem.run_pure, Result.andThen_ok, invoke, builtin, hargs]
            rw [delete_run (P := P) (w := w) hat hT.uw hT.uk h2 hf]
            rfl
          by_cases hin : a ∈ l
          · have hm : (key32 a, Value.bool true) ∈ es.toList.map fun e => (e.key, e.val) := by rw [h4]; exact List.mem_map.2 ⟨a, hin, rfl⟩
            obtain ⟨e, he, hee⟩ := List.mem_map.1 hm
            obtain ⟨l1, l2, hsplit⟩ := List.append_of_mem he
            have hnd := h3.2.2
            rw [hsplit] at hnd
            have hmiss : ∀ e' ∈ l1, ∃ b, e'.key = key32 b ∧ b ≠ a := fun e' he' => by
              obtain ⟨b, _, hb, _⟩ := hkeys e' (by rw [hsplit]; exact List.mem_append.2 (.inl he'))
              refine ⟨b, hb, ?_⟩
              rintro rfl
              rw [List.map_append, List.nodup_append] at hnd
              exact hnd.2.2 e'.key (List.mem_map.2 ⟨e', he', rfl⟩) e.key (by simp) (by rw [hb, (Prod.mk.inj hee).1])
            have hf : Instr.findNow (.int .u32) (key32 a) es.toList 0 = some (some (l1.length, e.val)) := by rw [hsplit]; simpa using findNow_hit (a := a) l1 e l2 0 hmiss (Prod.mk.inj hee).1
            have hlt : l1.length < es.size := by rw [← Array.length_toList, hsplit]; simp
            have hers : (es.eraseIdxIfInBounds l1.length).toList = l1 ++ l2 := by
              unfold Array.eraseIdxIfInBounds
              rw [dif_pos hlt, Array.toList_eraseIdx, hsplit, List.eraseIdx_append_of_length_le (Nat.le_refl _)]
              simp
            refine fin _ hf (MapKept.stamped_erase h3 _) ?_
            rw [show (delEs es (some (l1.length, e.val))).toList = l1 ++ l2 from hers]
            rw [hsplit] at h4
            simp only [List.map_append, List.map_cons] at h4
            obtain ⟨la, lr, hl, ha1, ha2⟩ := List.map_eq_append_iff.1 h4.symm
            obtain ⟨x, lb, hl2, hx2, ha3⟩ := List.map_eq_cons_iff.1 ha2
            have hxa : x = a := key32_inj ((Prod.mk.inj hx2).1.trans (Prod.mk.inj hee).1)
            have hna : a ∉ la := fun hh => by
              have : (key32 a, Value.bool true) ∈ l1.map fun e => (e.key, e.val) := by rw [← ha1]; exact List.mem_map.2 ⟨a, hh, rfl⟩
              obtain ⟨e', he', hee'⟩ := List.mem_map.1 this
              obtain ⟨b, hb, hne⟩ := hmiss e' he'
              exact hne (key32_inj (hb.symm.trans (Prod.mk.inj hee').1))
            subst hxa
            rw [hl, hl2, List.erase_append_right _ hna, List.erase_cons_head]
            simp only [List.map_append, ha1, ha3]
          · have hmiss' : ∀ e ∈ es.toList, ∃ b, e.key = key32 b ∧ b ≠ a := fun e he => by
              obtain ⟨b, hb, hk, _⟩ := hkeys e he
              exact ⟨b, hk, by rintro rfl; exact hin hb⟩
            refine fin none (findNow_miss _ _ hmiss') h3 ?_
            rw [List.erase_of_not_mem hin]; exact h4
        · exact hh.elim
      · exact hh.elim
    · exact hh.elim
  · exact hh.elim
def turnY (hT : MapTy P tm tw kt pt bt) (pg : TypeId) : YE P := ⟨turnA tm tw pg, fun op ls l h Q hx hh => turnA_ok hT op ls l h Q hx hh⟩
end
end Go.Sx
namespace Go.Sx
universe u v

section
variable {P : Program} {ρ : As} {φ : Nat → Nat → Prop} {h : H} {w w' : World}
def φset (φ : Nat → Nat → Prop) (k : Nat) (F : Nat → Prop) : Nat → Nat → Prop := fun j x => if j = k then F x else φ j x
/-- A block that another code has turned: its blocks are its own old ones, or new ones. -/
theorem Rep.turnF (hR : Rep ρ φ h.hp w) {k : Nat} {b0 b1 : Blk} {F : Nat → Prop} (hk : look h.hp k = some b0) (hb : b1.holds ρ w' k F) (hF : ∀ x, F x → φ k x ∨ w.heap.size ≤ x) (hlt : ∀ x, F x → x < w'.heap.size)
    (hoth : ∀ x, x < w.heap.size → ¬ φ k x → w'.heap[x]? = w.heap[x]?) (hos : w'.os = w.os) (htp : w'.tape = w.tape) (hout : w'.output = w.output) (hsz : w.heap.size ≤ w'.heap.size) :
    Rep ρ (φset φ k F) (sett h.hp k b1) w' ∧ Evo ρ φ h w ρ (φset φ k F) ⟨sett h.hp k b1, h.nk⟩ w' := by
  have hs : (look h.hp k).isSome := by rw [hk]; rfl
  have e1 : φset φ k F k = F := by funext x; simp [φset]
  have e2 : ∀ j, j ≠ k → φset φ k F j = φ j := fun j hj => by funext x; simp [φset, hj]
  have mix : ∀ j b, look h.hp j = some b → j ≠ k → ∀ x, φ j x → ¬ F x := fun j b hj hne x hx hFx => by
    rcases hF x hFx with h1 | h1
    · exact hR.dis j k b _ hj hk hne x hx h1
    · have := hR.lt j b hj x hx; omega
  constructor
  · constructor
    · intro j b hj
      rw [look_sett _ _ _ _ hs] at hj
      split at hj
      · rename_i e
        subst e
        cases hj
        rw [e1]; exact hb
      · rename_i e
        rw [e2 j (fun e' => e e'.symm)]
        exact Blk.holds_loc (hR.ok j b hj) fun x hx => hoth x (hR.lt j b hj x hx) (hR.dis j k b _ hj hk (fun e' => e e'.symm) _ hx)
    · intro j b hj x hx
      rw [look_sett _ _ _ _ hs] at hj
      split at hj
      · rename_i e; subst e; rw [e1] at hx; exact hlt x hx
      · rename_i e
        rw [e2 j (fun e' => e e'.symm)] at hx
        exact Nat.lt_of_lt_of_le (hR.lt j b hj x hx) hsz
    · intro j j' b b' hj hj' hne x hx hx'
      rw [look_sett _ _ _ _ hs] at hj hj'
      split at hj
      · rename_i e
        subst e
        rw [if_neg hne] at hj'
        rw [e1] at hx
        rw [e2 j' (fun e => hne e.symm)] at hx'
        exact mix j' b' hj' (fun e => hne e.symm) x hx' hx
      · rename_i e
        rw [e2 j (fun e' => e e'.symm)] at hx
        split at hj'
        · rename_i e2'
          subst e2'
          rw [e1] at hx'
          exact mix j b hj (fun e' => e e'.symm) x hx hx'
        · rename_i e2'
          rw [e2 j' (fun e' => e2' e'.symm)] at hx'
          exact hR.dis j j' b b' hj hj' hne x hx hx'
  · refine ⟨Nat.le_refl _, Agr.refl _ _, ?_, ?_, hos, htp, hout, hsz⟩
    · intro j b hj x hx hlt'
      simp only [look_sett _ _ _ _ hs] at hj
      split at hj
      · rename_i e
        subst e
        rw [e1] at hx
        rcases hF x hx with h1 | h1
        · exact ⟨_, _, hk, h1⟩
        · omega
      · rename_i e
        rw [e2 j (fun e' => e e'.symm)] at hx
        exact ⟨_, _, hj, hx⟩
    · intro x hx hno
      exact hoth x hx (hno k _ hk)

/-- Another code has made a block. -/
theorem Rep.addF (hR : Rep ρ φ h.hp w) (hkb : hpkb h.hp h.nk = true) {g : Nat} {v : Value} (hv : v.oneCell' = true) {b1 : Blk} {F : Nat → Prop} (hb1 : b1.holds (ρ.newV h.nk g v hv) w' h.nk F) (hF : ∀ x, F x → w.heap.size ≤ x ∧ x < w'.heap.size)
    (hb : RowKit.Below w.heap.size w w') :
    Rep (ρ.newV h.nk g v hv) (φset φ h.nk F) ((h.nk, b1) :: h.hp) w' ∧ Evo ρ φ h w (ρ.newV h.nk g v hv) (φset φ h.nk F) ⟨(h.nk, b1) :: h.hp, h.nk + 1⟩ w' := by
  have hA := As.newV_agr ρ h.nk g v hv
  have hR2 := hR.below hb
  have e1 : φset φ h.nk F h.nk = F := by funext x; simp [φset]
  have e2 : ∀ j, j ≠ h.nk → φset φ h.nk F j = φ j := fun j hj => by funext x; simp [φset, hj]
  constructor
  · constructor
    · intro k b hk
      simp only [look_cons] at hk
      split at hk
      · rename_i e
        subst e
        cases hk
        rw [e1]; exact hb1
      · rename_i e
        have hk' := hpkb_look hkb hk
        rw [e2 k (fun e' => e e'.symm)]
        exact Blk.holds_agr (hR2.ok k b hk) hk'.2 hk'.1 hA
    · intro k b hk x hx
      simp only [look_cons] at hk
      split at hk
      · rename_i e
        subst e
        rw [e1] at hx
        exact (hF x hx).2
      · rename_i e
        rw [e2 k (fun e' => e e'.symm)] at hx
        exact hR2.lt k b hk x hx
    · intro k k' b b' hk hk' hne x hx hx'
      simp only [look_cons] at hk hk'
      split at hk
      · rename_i e
        subst e
        rw [e1] at hx
        rw [if_neg hne] at hk'
        rw [e2 k' (fun e => hne e.symm)] at hx'
        have := hR.lt k' b' hk' x hx'
        have := hF x hx
        omega
      · rename_i e
        rw [e2 k (fun e' => e e'.symm)] at hx
        split at hk'
        · rename_i e'
          subst e'
          rw [e1] at hx'
          have := hR.lt k b hk x hx
          have := hF x hx'
          omega
        · rename_i e'
          rw [e2 k' (fun e2 => e' e2.symm)] at hx'
          exact hR.dis k k' b b' hk hk' hne x hx hx'
  · refine ⟨Nat.le_succ _, hA, ?_, fun x hx _ => hb.block x hx, hb.os, hb.tape, hb.output, hb.size⟩
    intro k b hk x hx hlt
    simp only [look_cons] at hk
    split at hk
    · rename_i e
      subst e
      rw [e1] at hx
      have := hF x hx
      omega
    · rename_i e
      rw [e2 k (fun e' => e e'.symm)] at hx
      exact ⟨k, b, hk, hx⟩

/-- A lone block as a state of its own. -/
def As.at1 (ρ : As) (k : Nat) : As := ⟨fun _ => ρ.r k, fun _ => ρ.v k, fun _ => ρ.one k⟩
theorem Rep.lone (hR : Rep ρ φ h.hp w) {k : Nat} {t : TypeId} {l : List Sg} (hk : look h.hp k = some (.cells t l)) (hl : l.all (Sg.kb 0) = true) : Rep (ρ.at1 k) (fun _ => φ k) [(0, .cells t l)] w := by
  have hc : cellsOf (ρ.at1 k) l = cellsOf ρ l := cellsOf_agr hl fun j hj => by omega
  have h1 := hR.ok k _ hk
  constructor
  · intro j b hj
    simp only [look] at hj
    split at hj
    · cases hj
      exact ⟨by rw [hc]; exact h1.1, h1.2⟩
    · cases hj
  · intro j b hj x hx
    exact hR.lt k _ hk x hx
  · intro j j' b b' hj hj' hne
    simp only [look] at hj hj'
    split at hj
    · split at hj'
      · omega
      · cases hj'
    · cases hj

/-- A call that is handed the place of a lone block, and leaves it as it was. -/
theorem lone_quiet {f : FuncId} {k off ix : Nat} {t : TypeId} {l : List Sg} {rest : List E} {v : V} {S : Sp} (hS : SpOk P S) (hm : P.follows .mixedOrders = true) {fn : Func} (hf : P.funcs[f]? = some fn) (hb : fn.body.isSome = true) (hl : l.all (Sg.kb 0) = true) (hr : rest.all (E.kb 0) = true) (hv : v.kb 0 = true)
    (hN : rest.length + 1 ≤ fn.ntmps) (os : List Nat)
    (hx : Ran P fn.ntmps 1 (fexec P S fn (bodyOf fn) (.c (.ptr 0 off ix) :: rest) ⟨[(0, .cells t l)], 1⟩ fun v h => (v, h)) os fun r => r.1 = v ∧ look r.2.hp 0 = some (.cells t l))
    (hR : Rep ρ φ h.hp w) (hk : look h.hp k = some (.cells t l)) : Calls P f ((.c (.ptr k off ix) :: rest).map (E.den ρ)).toArray w fun e w' => e = .returned (v.den ρ) ∧ RowKit.Below w.heap.size w w' := by
  have hL := hR.lone hk hl
  have hden : (E.c (.ptr 0 off ix) :: rest).map (E.den (ρ.at1 k)) = (.c (.ptr k off ix) :: rest).map (E.den ρ) := by
    simp only [List.map_cons, E.den, C.den, As.at1, List.cons.injEq, true_and]
    apply List.map_congr_left
    intro e he
    exact E.den_agr (n := 0) (List.all_eq_true.1 hr e he) fun j hj => by omega
  have := calls_of_exec (h0 := ⟨[(0, .cells t l)], 1⟩) hS hm hf (body_eq hb) (by
      simp only [hpkb, List.all_cons, List.all_nil, Bool.and_true, Bool.and_eq_true, decide_eq_true_eq]
      exact ⟨by omega, Blk.kb_mono (n := 0) (b := .cells t l) (by omega) hl⟩) (by
      simp only [List.all_cons, Bool.and_eq_true]
      exact ⟨by simp [E.kb, C.kb], List.all_eq_true.2 fun e he => E.kb_mono (Nat.zero_le 1) (List.all_eq_true.1 hr e he)⟩) (by simpa using hN) (fun v h => (v, h)) (prune_sat _ _ hx.sat) hL
  rw [hden] at this
  refine this.mono fun e w' hp => ?_
  obtain ⟨v', h', ρ', φ', rfl, ⟨rfl, hlk⟩, hR', hE⟩ := hp
  refine ⟨by rw [V.den_agr (n := 0) (ρ := ρ) hv fun j hj => by omega], hE.os, hE.tape, hE.output, hE.size, fun x hx => ?_⟩
  by_cases hxk : x = ρ.r k
  · subst hxk
    have h1 := hR'.cells hlk
    have h2 := hR.cells hk
    have h3 : ρ'.r 0 = ρ.r k := (hE.agr 0 (by simp)).1
    rw [h3] at h1
    rw [h1, h2, cellsOf_agr (n := 0) (ρ := ρ) (ρ' := ρ') hl fun j hj => by omega]
  · refine hE.fr x hx fun j b hj hφ => hxk ?_
    exact ((hR.ok k _ hk).2 x).1 hφ

/-- A call that is handed the place of a lone block, and turns it. -/
theorem lone_turn {f : FuncId} {k off ix : Nat} {t : TypeId} {l l' : List Sg} {rest : List E} {v : V} {S : Sp} (hS : SpOk P S) (hm : P.follows .mixedOrders = true) {fn : Func} (hf : P.funcs[f]? = some fn) (hb : fn.body.isSome = true) (hl : l.all (Sg.kb 0) = true) (hl' : l'.all (Sg.kb 0) = true) (hr : rest.all (E.kb 0) = true) (hv : v.kb 0 = true)
    (hN : rest.length + 1 ≤ fn.ntmps) (os : List Nat)
    (hx : Ran P fn.ntmps 1 (fexec P S fn (bodyOf fn) (.c (.ptr 0 off ix) :: rest) ⟨[(0, .cells t l)], 1⟩ fun v h => (v, h)) os fun r => r.1 = v ∧ look r.2.hp 0 = some (.cells t l'))
    (hR : Rep ρ φ h.hp w) (hk : look h.hp k = some (.cells t l)) : Calls P f ((.c (.ptr k off ix) :: rest).map (E.den ρ)).toArray w fun e w' => ∃ ρ' φ', e = .returned (v.den ρ') ∧ Rep ρ' φ' (sett h.hp k (.cells t l')) w' ∧ Evo ρ φ h w ρ' φ' ⟨sett h.hp k (.cells t l'), h.nk⟩ w' := by
  have hL := hR.lone hk hl
  have hden : (E.c (.ptr 0 off ix) :: rest).map (E.den (ρ.at1 k)) = (.c (.ptr k off ix) :: rest).map (E.den ρ) := by
    simp only [List.map_cons, E.den, C.den, As.at1, List.cons.injEq, true_and]
    apply List.map_congr_left
    intro e he
    exact E.den_agr (n := 0) (List.all_eq_true.1 hr e he) fun j hj => by omega
  have := calls_of_exec (h0 := ⟨[(0, .cells t l)], 1⟩) hS hm hf (body_eq hb) (by
      simp only [hpkb, List.all_cons, List.all_nil, Bool.and_true, Bool.and_eq_true, decide_eq_true_eq]
      exact ⟨by omega, Blk.kb_mono (n := 0) (b := .cells t l) (by omega) hl⟩) (by
      simp only [List.all_cons, Bool.and_eq_true]
      exact ⟨by simp [E.kb, C.kb], List.all_eq_true.2 fun e he => E.kb_mono (Nat.zero_le 1) (List.all_eq_true.1 hr e he)⟩) (by simpa using hN) (fun v h => (v, h)) (prune_sat _ _ hx.sat) hL
  rw [hden] at this
  refine this.mono fun e w' hp => ?_
  obtain ⟨v', h', ρ', φ', rfl, ⟨rfl, hlk⟩, hR', hE⟩ := hp
  have h3 : ρ'.r 0 = ρ.r k := (hE.agr 0 (by simp)).1
  have h1 := hR'.cells hlk
  rw [h3, cellsOf_agr (n := 0) (ρ := ρ) (ρ' := ρ') hl' fun j hj => by omega] at h1
  have hFk := (hR.ok k _ hk).2
  have := hR.turnF (w' := w') (b1 := .cells t l') (F := fun x => x = ρ.r k) hk ⟨h1, fun x => Iff.rfl⟩ (fun x hx => .inl ((hFk x).2 hx)) (fun x hx => by
      subst hx
      exact (Array.getElem?_eq_some_iff.1 h1).1) (fun x hx hno => hE.fr x hx fun j b hj hφ => hno hφ) hE.os hE.tape hE.output hE.size
  exact ⟨ρ, _, by rw [V.den_agr (n := 0) (ρ := ρ) hv fun j hj => by omega], this.1, this.2⟩
end
end Go.Sx
namespace Go.Sx
universe u v

/-! ### sync/atomic's two -/
structure Atm (P : Program) (fl fa : FuncId) : Prop where
  l : ∃ fn, P.funcs[fl]? = some fn ∧ (fn.name == "runtime.NumGoroutine") = false ∧ fn.body.isNone = true ∧ Extern.findNext fn = none ∧ Extern.find fn = some (Extern.Atomic.loadT (.int .i64))
  a : ∃ fn, P.funcs[fa]? = some fn ∧ (fn.name == "runtime.NumGoroutine") = false ∧ fn.body.isNone = true ∧ Extern.findNext fn = none ∧ Extern.find fn = some (Extern.Atomic.update (Op.intArith .add) .i64 true)

def atmQ (fl : FuncId) (op : Op) (l : List E) (hp : HP) : R V :=
  match op, l with
  | .call { callee := .value (.func _), .. }, [.c (.fn f []), .c (.ptr k off ix)] => if f = fl then (match look hp k with
    | some (.cells _ cs) => (getC cs off ix).bind fun c => (match c with | .i n => .ok (.e (.c (.i n))) | _ => .fail)
    | _ => .fail) else .fail
  | _, _ => .fail
def atmY (fa : FuncId) (op : Op) (l : List E) (h : H) : R (V × H) :=
  match op, l with
  | .call { callee := .value (.func _), .. }, [.c (.fn f []), .c (.ptr k off ix), .c (.i d)] => if f = fa then (match look h.hp k with
    | some (.cells t cs) => (getC cs off ix).bind fun c => (match c with
      | .i n => (setC cs off ix (.i (W64 (n + d)))).bind fun l' => .ok (.e (.c (.i (W64 (n + d)))), ⟨sett h.hp k (.cells t l'), h.nk⟩)
      | _ => .fail)
    | _ => .fail) else .fail
  | _, _ => .fail
section
variable {P : Program} {fl fa : FuncId}
theorem exec_call {ev : Operand → Value} {o : Oper} {g : FuncId} {args : Array Operand} {ts : Array TypeId} {f : FuncId} {vs : List Value} (ho : o.op = .call { callee := .value (.func g), args, argTypes := ts }) (hf : ev (.func g) = .func (.func f) #[] #[]) (ha : args.toList.map ev = vs) :
    execOp ev o = callFunc f vs.toArray := by
  unfold execOp
  rw [ho]
  have : args.map ev = vs.toArray := Array.ext' (by simpa using ha)
  simp [resolve, Deferred.ofValue, invoke, hf, this]
theorem atmQ_ok (hT : Atm P fl fa) (op : Op) (ls : List Operand) (l : List E) (hp : HP) (Q : V → Prop) (hx : xArgs op = some ls) (h : (atmQ fl op l hp).sat Q) :
    ∃ v, Q v ∧ ∀ (ρ : As) (φ : Nat → Nat → Prop) (w : World) (ev : Operand → Value) (o : Oper), o.op = op → ls.map ev = l.map (E.den ρ) → Rep ρ φ hp w → (execOp ev o).run P w = .ok (.value (v.den ρ)) w := by
  unfold atmQ at h
  split at h
  · rename_i g args ts f k off ix
    have hls : ls = .func g :: args.toList := by simpa [xArgs] using hx.symm
    subst hls
    split at h
    · rename_i hf
      subst hf
      split at h
      · rename_i t cs hk
        have hb := R.sat_bind h
        obtain ⟨c, hc, hg⟩ := R.sat_val hb
        cases c with
        | i n =>
          refine ⟨_, hc, fun ρ φ w ev o hoo hev hR => ?_⟩
          simp only [List.map_cons, List.map_nil, List.cons.injEq, E.den, C.den] at hev
          obtain ⟨fn, h1, h2, h3, h4, h5⟩ := hT.l
          have hcell := getC_sound (ρ := ρ) _ _ _ _ hg
          obtain ⟨c, hcc, hcell⟩ := hcell
          subst hcc
          rw [exec_call hoo (by simpa using hev.1) (vs := [.pointer (some ⟨ρ.r k, off + ix, none⟩)]) (by simpa using hev.2)]
          have := run_call_load (P := P) (w := w) (a := ⟨ρ.r k, off + ix, none⟩) (x := n) h1 h2 h3 h4 .i64 h5 (by rw [hR.cell hk]; exact hcell)
          rw [this]
          rfl
        | _ => exact hc.elim
      · exact h.elim
    · exact h.elim
  · exact h.elim
theorem setCell_setRow (w : World) (r off : Nat) (v : Value) (cs : List Value) (t : TypeId) (h : w.heap[r]? = some (.cells cs.toArray t (0, 0))) : w.setCell ⟨r, off, none⟩ v = w.setRow r (cs.set off v).toArray := by
  unfold World.setCell World.setRow
  congr 1
  apply Array.ext_getElem?
  intro i
  rw [Array.getElem?_modify, Array.getElem?_modify]
  by_cases hi : r = i
  · subst hi
    simp [h]
  · simp [hi]
theorem atmY_ok (hT : Atm P fl fa) (op : Op) (ls : List Operand) (l : List E) (h : H) (Q : V × H → Prop) (hx : yArgs op = some ls) (hh : (atmY fa op l h).sat Q) :
    ∃ v h', Q (v, h') ∧ ∀ (ρ : As) (φ : Nat → Nat → Prop) (w : World) (ev : Operand → Value) (o : Oper), o.op = op → ls.map ev = l.map (E.den ρ) → Rep ρ φ h.hp w → hpkb h.hp h.nk = true →
    ∃ ρ' φ' w', (execOp ev o).run P w = .ok (if isUp op then .skip else .value (v.den ρ')) w' ∧ Rep ρ' φ' h'.hp w' ∧ Evo ρ φ h w ρ' φ' h' w' := by
  unfold atmY at hh
  split at hh
  · rename_i g args ts f k off ix d
    have hls : ls = .func g :: args.toList := by simpa [yArgs] using hx.symm
    subst hls
    split at hh
    · rename_i hf
      subst hf
      split at hh
      · rename_i t cs hk
        obtain ⟨c, hc, hg⟩ := R.sat_val (R.sat_bind hh)
        cases c with
        | i n =>
          obtain ⟨l', hq, hset⟩ := R.sat_val (R.sat_bind hc)
          refine ⟨_, _, hq, fun ρ φ w ev o hoo hev hR hkb => ?_⟩
          simp only [List.map_cons, List.map_nil, List.cons.injEq, E.den, C.den] at hev
          obtain ⟨fn, h1, h2, h3, h4, h5⟩ := hT.a
          obtain ⟨c, hcc, hcell⟩ := getC_sound (ρ := ρ) _ _ _ _ hg
          subst hcc
          obtain ⟨l2, hl2, hcs, hlt⟩ := setC_sound (ρ := ρ) _ _ _ _ _ hset
          subst hl2
          have hrow := hR.cells hk
          have hc' : w.cell? ⟨ρ.r k, off + ix, none⟩ = some (.int .i64 n) := by rw [hR.cell hk]; exact hcell
          have hz : w.frozen? ⟨ρ.r k, off + ix, none⟩ = false := by simp [World.frozen?, hrow]
          have hrun := run_call_add (P := P) (w := w) (a := ⟨ρ.r k, off + ix, none⟩) (x := n) (y := d) (s := W64 (n + d)) h1 h2 h3 h4 .i64 h5 hc' hz rfl
          have hset' : w.setCell ⟨ρ.r k, off + ix, none⟩ (.int .i64 (W64 (n + d))) = w.setRow (ρ.r k) (cellsOf ρ l2).toArray := by
            rw [hcs, setCell_setRow w _ _ _ _ t hrow]
            rfl
          obtain ⟨r1, r2⟩ := write_row hR hk (l' := l2) rfl
          refine ⟨ρ, φ, _, ?_, r1, r2⟩
          rw [exec_call hoo (by simpa using hev.1) (vs := [.pointer (some ⟨ρ.r k, off + ix, none⟩), .int .i64 d]) (by simpa using hev.2)]
          rw [← hset']
          exact hrun
        | _ => exact hc.elim
      · exact hh.elim
    · exact hh.elim
  · exact hh.elim

def xOr (a b : Op → List E → HP → R V) : Op → List E → HP → R V := fun op l hp => match op with
  | .call _ => b op l hp
  | _ => a op l hp
def yOr (a b : Op → List E → H → R (V × H)) : Op → List E → H → R (V × H) := fun op l h => match op with
  | .call { callee := .value _, .. } => b op l h
  | _ => a op l h
def mapX {tm tw kt pt bt : TypeId} (hT : MapTy P tm tw kt pt bt) (hA : Atm P fl fa) : XE P :=
  ⟨xOr (lookA tm tw) (atmQ fl), fun op ls l hp Q hx h => by
    unfold xOr at h
    split at h
    · exact atmQ_ok hA _ ls l hp Q hx h
    · exact lookA_ok hT _ ls l hp Q hx h⟩
def mapY {tm tw kt pt bt : TypeId} (hT : MapTy P tm tw kt pt bt) (hA : Atm P fl fa) (pg : TypeId) : YE P :=
  ⟨yOr (turnA tm tw pg) (atmY fa), fun op ls l h Q hx hh => by
    unfold yOr at hh
    split at hh
    · exact atmY_ok hA _ ls l h Q hx hh
    · exact turnA_ok hT _ ls l h Q hx hh⟩
end
end Go.Sx
namespace Go.Sx
universe u v

/-- An object whose blocks are exactly as they were in a world. -/
def pin (o : Ob) (W : World) (G : Nat → Prop) : Ob where
  I := fun d ρ w k F => o.I d ρ w k F ∧ (∀ x, F x ↔ G x) ∧ ∀ x, F x → w.heap[x]? = W.heap[x]?
  d := o.d
  n := o.n
  bt := fun T sz l h ρ w k F hI => o.bt T sz l h ρ w k F hI.1
  loc := fun ρ w w' k F h hw => ⟨o.loc ρ w w' k F h.1 hw, h.2.1, fun x hx => by rw [hw x hx]; exact h.2.2 x hx⟩
  agr := fun ρ ρ' w k F h hA hr hv => ⟨o.agr ρ ρ' w k F h.1 hA hr hv, h.2⟩
theorem pin_pm {T : Nat} {pre post : List PgA} {foc : Option (BitVec 32 × Nat)} {W : World} {G : Nat → Prop} : IsPm (pin (pmOb T pre foc post) W G) T pre foc post := fun _ _ _ _ h => h.1.2
theorem pin_wm {l : List (BitVec 32)} {W : World} {G : Nat → Prop} : IsWm (pin (wmOb l) W G) l := fun _ _ _ _ h => h.1.2
theorem is_pm {T : Nat} {pre post : List PgA} {foc : Option (BitVec 32 × Nat)} : IsPm (pmOb T pre foc post) T pre foc post := fun _ _ _ _ h => h.2
theorem is_wm {l : List (BitVec 32)} : IsWm (wmOb l) l := fun _ _ _ _ h => h.2

/-! ### A memory -/
def memCells (most : Int) (n : Nat) (tv : Value) : List Sg := [.c (.i most), .c (.i n), .c (.obj 1), .c (.obj 2), .c (.raw tv)]
def memHp (MT PG : TypeId) (most : Int) (ps : List PgA) (wl : List (BitVec 32)) (tv : Value) : HP :=
  [(0, .cells MT (memCells most ps.length tv)), (1, .ob (pmOb PG ps none [])), (2, .ob (wmOb wl))]
def focHp (MT PG : TypeId) (most : Int) (n : Nat) (pre : List PgA) (p : PgA) (wr : Int) (post : List PgA) (wl : List (BitVec 32)) (tv : Value) : HP :=
  [(0, .cells MT (memCells most n tv)), (1, .ob (pmOb PG pre (some (p.base, 3)) post)), (2, .ob (wmOb wl)), (3, .cells PG (pageCells p wr))]
/-- Of whom the blocks are. -/
def Foot (φ : Nat → Nat → Prop) (n : Nat) (x : Nat) : Prop := ∃ j, j < n ∧ φ j x
def memI (MT PG : TypeId) (most : Int) (ps : List PgA) (wl : List (BitVec 32)) (ρ : As) (w : World) (k : Nat) (F : Nat → Prop) : Prop :=
  ∃ tv ρ2 φ2, tv.oneCell' = true ∧ ρ2.r 0 = ρ.r k ∧ Rep ρ2 φ2 (memHp MT PG most ps wl tv) w ∧ ∀ x, F x ↔ Foot φ2 3 x
theorem Rep.loc {ρ : As} {φ : Nat → Nat → Prop} {hp : HP} {w w' : World} (hR : Rep ρ φ hp w) (hw : ∀ k b, look hp k = some b → ∀ x, φ k x → w'.heap[x]? = w.heap[x]?) : Rep ρ φ hp w' :=
  ⟨fun k b hk => Blk.holds_loc (hR.ok k b hk) (hw k b hk), fun k b hk x hx => by
    have h1 := hw k b hk x hx
    have h2 := hR.lt k b hk x hx
    rw [Array.getElem?_eq_getElem h2] at h1
    exact (Array.getElem?_eq_some_iff.1 h1).1, hR.dis⟩
theorem memHp_lt {MT PG : TypeId} {most : Int} {ps : List PgA} {wl : List (BitVec 32)} {tv : Value} {k : Nat} {b : Blk} (h : look (memHp MT PG most ps wl tv) k = some b) : k < 3 := by
  simp only [memHp, look] at h
  split at h
  · omega
  · split at h
    · omega
    · split at h
      · omega
      · cases h
theorem memHp_some {MT PG : TypeId} {most : Int} {ps : List PgA} {wl : List (BitVec 32)} {tv : Value} {k : Nat} (h : k < 3) : ∃ b, look (memHp MT PG most ps wl tv) k = some b := by
  match k, h with
  | 0, _ => exact ⟨_, rfl⟩
  | 1, _ => exact ⟨_, rfl⟩
  | 2, _ => exact ⟨_, rfl⟩
def memOb (MT PG : TypeId) (most : Int) (ps : List PgA) (wl : List (BitVec 32)) : Ob where
  I := fun _ ρ w k F => memI MT PG most ps wl ρ w k F
  d := .mem most ps wl []
  n := 0
  bt := fun _ _ _ h => by cases h
  loc := fun ρ w w' k F ⟨tv, ρ2, φ2, h1, h2, h3, h4⟩ hw => ⟨tv, ρ2, φ2, h1, h2, h3.loc fun j b hj x hx => hw x ((h4 x).2 ⟨j, memHp_lt hj, hx⟩), h4⟩
  agr := fun ρ ρ' w k F ⟨tv, ρ2, φ2, h1, h2, h3, h4⟩ _ hr _ => ⟨tv, ρ2, φ2, h1, by rw [hr]; exact h2, h3, h4⟩

section
variable {MT PG : TypeId} {most : Int} {wl : List (BitVec 32)} {tv : Value} {ρ : As} {φ : Nat → Nat → Prop} {w : World}
def As.set3 (ρ : As) (g : Nat) : As := ⟨fun j => if j = 3 then g else ρ.r j, ρ.v, ρ.one⟩
/-- One page of a memory, by itself. -/
theorem focus {pre post : List PgA} {p : PgA} (hR : Rep ρ φ (memHp MT PG most (pre ++ p :: post) wl tv) w) :
    ∃ wr ρ' φ', Rep ρ' φ' (focHp MT PG most (pre ++ p :: post).length pre p wr post wl tv) w ∧ ρ'.r 0 = ρ.r 0 ∧ ∀ x, Foot φ' 4 x ↔ Foot φ 3 x := by
  obtain ⟨_, es, clock, L1, L2, fb, h1, h2, h3, h4, h5, h6, h7, h8, h9⟩ := hR.ok 1 _ rfl
  have hL2 : L2 = [] := by simpa using h5
  subst hL2
  obtain ⟨La, Lr, rfl, ha, hr⟩ := List.map_eq_append_iff.1 h4
  obtain ⟨e, Lb, rfl, he, hb⟩ := List.map_eq_cons_iff.1 hr
  subst he
  have hnd : ∀ y ∈ La ++ Lb, y.a ≠ e.a := by
    intro y hy
    have := (List.nodup_cons.1 h8).2
    simp only [List.append_nil, List.map_append, List.map_cons] at this
    rw [List.nodup_append] at this
    rcases List.mem_append.1 hy with hy | hy
    · exact fun hh => this.2.2 y.a (List.mem_map.2 ⟨y, hy, rfl⟩) e.a (by simp) hh
    · exact fun hh => (List.nodup_cons.1 this.2.1).1 (by rw [← hh]; exact List.mem_map.2 ⟨y, hy, rfl⟩)
  have hne : e.a ≠ ρ.r 1 := fun hh => (List.nodup_cons.1 h8).1 (by rw [← hh]; exact List.mem_map.2 ⟨e, by simp, rfl⟩)
  have hin : φ 1 e.a := (h9 _).2 (.inr ⟨e, by simp, rfl⟩)
  refine ⟨e.wr, ρ.set3 e.a, fun j x => if j = 1 then φ 1 x ∧ x ≠ e.a else if j = 3 then x = e.a else φ j x, ⟨?_, ?_, ?_⟩, rfl, ?_⟩
  · intro k b hk
    simp only [focHp, look] at hk
    split at hk
    · rename_i hk0; subst hk0; cases hk
      have := hR.ok 0 _ rfl
      exact ⟨this.1, this.2⟩
    · split at hk
      · rename_i hk0; subst hk0; cases hk
        refine ⟨rfl, es, clock, La, Lb, e.born, h1, h2, h3, ha, hb, ?_, fun y hy => h7 y ?_, ?_, fun x => ?_⟩
        · rw [h6]; simp [focEnt, As.set3, En.ent]
        · rcases List.mem_append.1 hy with hy | hy <;> simp [hy]
        · have := h8
          simp only [List.append_nil, List.map_append, List.map_cons] at this
          simp only [As.set3, List.map_append]
          refine (List.nodup_cons.2 ⟨fun hh => (List.nodup_cons.1 this).1 ?_, ?_⟩)
          · simp only [List.mem_append, List.mem_cons] at hh ⊢
            rcases hh with hh | hh
            · exact .inl hh
            · exact .inr (.inr hh)
          · exact (List.nodup_cons.1 this).2.sublist (List.Sublist.append (List.Sublist.refl _) (List.sublist_cons_self _ _))
        · simp only [if_true, As.set3]
          rw [h9]
          constructor
          · rintro ⟨hx | ⟨y, hy, rfl⟩, hxe⟩
            · exact .inl hx
            · refine .inr ⟨y, ?_, rfl⟩
              simp only [List.append_nil, List.mem_append, List.mem_cons] at hy ⊢
              rcases hy with hy | rfl | hy
              · exact .inl hy
              · exact (hxe rfl).elim
              · exact .inr hy
          · rintro (rfl | ⟨y, hy, rfl⟩)
            · exact ⟨.inl rfl, fun hh => hne hh.symm⟩
            · exact ⟨.inr ⟨y, by rcases List.mem_append.1 hy with hy | hy <;> simp [hy], rfl⟩, hnd y hy⟩
      · split at hk
        · rename_i hk0; subst hk0; cases hk
          have := hR.ok 2 _ rfl
          exact (wmOb wl).agr ρ (ρ.set3 e.a) w 2 (φ 2) this (fun j hj => by cases hj) rfl rfl
        · split at hk
          · rename_i hk0; subst hk0; cases hk
            refine ⟨?_, fun x => by simp [As.set3]⟩
            have := h7 e (by simp)
            simp only [As.set3, if_true]
            rw [this]; rfl
          · cases hk
  · intro k b hk x hx
    have hlt : ∀ j, j < 3 → φ j x → x < w.heap.size := fun j hj hx => by
      obtain ⟨b, hb⟩ := memHp_some (MT := MT) (PG := PG) (most := most) (ps := pre ++ e.p :: post) (wl := wl) (tv := tv) hj
      exact hR.lt j b hb x hx
    simp only [focHp, look] at hk
    split at hx
    · exact hlt 1 (by omega) hx.1
    · split at hx
      · subst hx; exact hlt 1 (by omega) hin
      · split at hk
        · rename_i hk0; subst hk0; exact hlt 0 (by omega) hx
        · split at hk
          · omega
          · split at hk
            · rename_i hk0; subst hk0; exact hlt 2 (by omega) hx
            · split at hk
              · omega
              · cases hk
  · have dis : ∀ i j x, i < 3 → j < 3 → i ≠ j → φ i x → ¬ φ j x := fun i j x hi hj hne hx => by
      obtain ⟨b, hb⟩ := memHp_some (MT := MT) (PG := PG) (most := most) (ps := pre ++ e.p :: post) (wl := wl) (tv := tv) hi
      obtain ⟨b', hb'⟩ := memHp_some (MT := MT) (PG := PG) (most := most) (ps := pre ++ e.p :: post) (wl := wl) (tv := tv) hj
      exact hR.dis i j b b' hb hb' hne x hx
    have key : ∀ k b, look (focHp MT PG most (pre ++ e.p :: post).length pre e.p e.wr post wl tv) k = some b → k = 0 ∨ k = 1 ∨ k = 2 ∨ k = 3 := fun k b hk => by
      simp only [focHp, look] at hk
      split at hk
      · omega
      · split at hk
        · omega
        · split at hk
          · omega
          · split at hk
            · omega
            · cases hk
    intro k j b b' hk hj hkj x hx hx'
    rcases key k b hk with rfl | rfl | rfl | rfl <;> rcases key j b' hj with rfl | rfl | rfl | rfl <;> simp at hx hx' hkj
    · exact dis 0 1 x (by omega) (by omega) (by omega) hx hx'.1
    · exact dis 0 2 x (by omega) (by omega) (by omega) hx hx'
    · subst hx'; exact dis 0 1 _ (by omega) (by omega) (by omega) hx hin
    · exact dis 1 0 x (by omega) (by omega) (by omega) hx.1 hx'
    · exact dis 1 2 x (by omega) (by omega) (by omega) hx.1 hx'
    · exact hx.2 hx'
    · exact dis 2 0 x (by omega) (by omega) (by omega) hx hx'
    · exact dis 2 1 x (by omega) (by omega) (by omega) hx hx'.1
    · subst hx'; exact dis 2 1 _ (by omega) (by omega) (by omega) hx hin
    · subst hx; exact dis 1 0 _ (by omega) (by omega) (by omega) hin hx'
    · exact hx'.2 hx
    · subst hx; exact dis 1 2 _ (by omega) (by omega) (by omega) hin hx'
  · intro x
    constructor
    · rintro ⟨j, hj, hx⟩
      split at hx
      · exact ⟨1, by omega, hx.1⟩
      · split at hx
        · subst hx; exact ⟨1, by omega, hin⟩
        · exact ⟨j, by omega, hx⟩
    · rintro ⟨j, hj, hx⟩
      by_cases hj1 : j = 1
      · subst hj1
        by_cases hxe : x = e.a
        · exact ⟨3, by omega, by simp [hxe]⟩
        · exact ⟨1, by omega, by simp [hx, hxe]⟩
      · exact ⟨j, by omega, by dsimp only; rw [if_neg hj1, if_neg (by omega)]; exact hx⟩

/-- And back. -/
theorem unfocus {n : Nat} {pre post : List PgA} {p : PgA} {wr : Int} {hp : HP} (hR : Rep ρ φ hp w) (h0 : look hp 0 = some (.cells MT (memCells most n tv))) (h1 : look hp 1 = some (.ob (pmOb PG pre (some (p.base, 3)) post))) (h2 : look hp 2 = some (.ob (wmOb wl))) (h3 : look hp 3 = some (.cells PG (pageCells p wr)))
    (hn : n = (pre ++ p :: post).length) : ∃ φ', Rep ρ φ' (memHp MT PG most (pre ++ p :: post) wl tv) w ∧ ∀ x, Foot φ' 3 x ↔ Foot φ 4 x := by
  obtain ⟨_, es, clock, La, Lb, fb, g1, g2, g3, g4, g5, g6, g7, g8, g9⟩ := hR.ok 1 _ h1
  obtain ⟨q1, q2⟩ := hR.ok 3 _ h3
  have hno : ¬ φ 1 (ρ.r 3) := fun h => hR.dis 1 3 _ _ h1 h3 (by omega) _ h ((q2 _).2 rfl)
  have hlt : ∀ j x, j < 4 → φ j x → x < w.heap.size := fun j x hj hx => by
    match j, hj with
    | 0, _ => exact hR.lt 0 _ h0 x hx
    | 1, _ => exact hR.lt 1 _ h1 x hx
    | 2, _ => exact hR.lt 2 _ h2 x hx
    | 3, _ => exact hR.lt 3 _ h3 x hx
  have hL : ∀ k, k < 4 → ∃ b, look hp k = some b := fun k hk => by
    match k, hk with
    | 0, _ => exact ⟨_, h0⟩
    | 1, _ => exact ⟨_, h1⟩
    | 2, _ => exact ⟨_, h2⟩
    | 3, _ => exact ⟨_, h3⟩
  have dis : ∀ i j x, i < 4 → j < 4 → i ≠ j → φ i x → ¬ φ j x := fun i j x hi hj hne hx => by
    obtain ⟨b, hb⟩ := hL i hi
    obtain ⟨b', hb'⟩ := hL j hj
    exact hR.dis i j b b' hb hb' hne x hx
  refine ⟨fun j x => if j = 1 then φ 1 x ∨ φ 3 x else φ j x, ⟨?_, ?_, ?_⟩, ?_⟩
  · intro k b hk
    simp only [memHp, look] at hk
    split at hk
    · rename_i hk0; subst hk0; cases hk
      have := hR.ok 0 _ h0
      rw [hn] at this
      exact ⟨this.1, this.2⟩
    · split at hk
      · rename_i hk0; subst hk0; cases hk
        refine ⟨rfl, es, clock, La ++ ⟨p, ρ.r 3, wr, fb⟩ :: Lb, [], 0, g1, g2, g3, by simp [g4, g5], rfl, by simp [g6, focEnt, En.ent], fun e he => ?_, ?_, fun x => ?_⟩
        · simp only [List.append_nil, List.mem_append, List.mem_cons] at he
          rcases he with he | rfl | he
          · exact g7 e (by simp [he])
          · simp only; rw [q1]; rfl
          · exact g7 e (by simp [he])
        · simp only [List.append_nil, List.map_append, List.map_cons]
          have hnotin : ρ.r 3 ∉ (La ++ Lb).map (·.a) := fun hh => by
            obtain ⟨y, hy, hya⟩ := List.mem_map.1 hh
            exact hno ((g9 _).2 (.inr ⟨y, hy, hya.symm⟩))
          have hne : ρ.r 3 ≠ ρ.r 1 := fun hh => hno ((g9 _).2 (.inl hh))
          rw [List.nodup_cons] at g8 ⊢
          simp only [List.map_append] at g8 hnotin
          refine ⟨fun hh => ?_, ?_⟩
          · simp only [List.mem_append, List.mem_cons] at hh g8
            rcases hh with hh | hh | hh
            · exact g8.1 (.inl hh)
            · exact hne hh.symm
            · exact g8.1 (.inr hh)
          · have := g8.2
            rw [List.nodup_append] at this ⊢
            simp only [List.mem_append, not_or] at hnotin
            refine ⟨this.1, List.nodup_cons.2 ⟨hnotin.2, this.2.1⟩, fun y hy z hz => ?_⟩
            rcases List.mem_cons.1 hz with rfl | hz
            · exact fun hh => hnotin.1 (by rw [← hh]; exact hy)
            · exact this.2.2 y hy z hz
        · simp only [if_true, List.append_nil]
          rw [g9, q2]
          constructor
          · rintro ((hx | ⟨y, hy, rfl⟩) | rfl)
            · exact .inl hx
            · exact .inr ⟨y, by rcases List.mem_append.1 hy with hy | hy <;> simp [hy], rfl⟩
            · exact .inr ⟨⟨p, ρ.r 3, wr, fb⟩, by simp, rfl⟩
          · rintro (rfl | ⟨y, hy, rfl⟩)
            · exact .inl (.inl rfl)
            · simp only [List.mem_append, List.mem_cons] at hy
              rcases hy with hy | rfl | hy
              · exact .inl (.inr ⟨y, by simp [hy], rfl⟩)
              · exact .inr rfl
              · exact .inl (.inr ⟨y, by simp [hy], rfl⟩)
      · split at hk
        · rename_i hk0; subst hk0; cases hk
          exact hR.ok 2 _ h2
        · cases hk
  · intro k b hk x hx
    have hk3 := memHp_lt hk
    split at hx
    · rcases hx with hx | hx
      · exact hlt 1 x (by omega) hx
      · exact hlt 3 x (by omega) hx
    · exact hlt k x (by omega) hx
  · intro k j b b' hk hj hne x hx hx'
    have hk3 := memHp_lt hk
    have hj3 := memHp_lt hj
    split at hx
    · rename_i e
      rw [if_neg (by omega)] at hx'
      rcases hx with hx | hx
      · exact dis 1 j x (by omega) (by omega) (by omega) hx hx'
      · exact dis 3 j x (by omega) (by omega) (by omega) hx hx'
    · rename_i e
      split at hx'
      · rcases hx' with hx' | hx'
        · exact dis k 1 x (by omega) (by omega) (by omega) hx hx'
        · exact dis k 3 x (by omega) (by omega) (by omega) hx hx'
      · exact dis k j x (by omega) (by omega) hne hx hx'
  · intro x
    constructor
    · rintro ⟨j, hj, hx⟩
      split at hx
      · rcases hx with hx | hx
        · exact ⟨1, by omega, hx⟩
        · exact ⟨3, by omega, hx⟩
      · exact ⟨j, by omega, hx⟩
    · rintro ⟨j, hj, hx⟩
      by_cases hj1 : j = 1
      · subst hj1; exact ⟨1, by omega, by dsimp only; rw [if_pos rfl]; exact .inl hx⟩
      · by_cases hj3 : j = 3
        · subst hj3; exact ⟨1, by omega, by dsimp only; rw [if_pos rfl]; exact .inr hx⟩
        · exact ⟨j, by omega, by dsimp only; rw [if_neg hj1]; exact hx⟩
end
end Go.Sx
namespace Go.Sx
universe u v

def pinB (W : World) (G : Nat → Prop) : Blk → Blk
  | .ob o => .ob (pin o W G)
  | b => b
def pinHp (W : World) (G : Nat → Nat → Prop) : HP → HP
  | [] => []
  | (k, b) :: l => (k, pinB W (G k) b) :: pinHp W G l
theorem look_pin {W : World} {G : Nat → Nat → Prop} : ∀ {hp : HP} {k : Nat}, look (pinHp W G hp) k = (look hp k).map (pinB W (G k))
  | [], _ => rfl
  | (j, b) :: l, k => by
    simp only [pinHp, look_cons]
    by_cases h : j = k
    · subst h; simp
    · simp [h, look_pin (hp := l)]
theorem pinHp_kb {W : World} {G : Nat → Nat → Prop} {n : Nat} : ∀ {hp : HP}, hpkb hp n = true → hpkb (pinHp W G hp) n = true
  | [], _ => rfl
  | (k, b) :: l, h => by
    simp only [hpkb, List.all_cons, Bool.and_eq_true] at h
    simp only [pinHp, hpkb, List.all_cons, Bool.and_eq_true]
    refine ⟨⟨h.1.1, ?_⟩, pinHp_kb h.2⟩
    cases b with
    | cells t l => exact h.1.2
    | ob o => exact h.1.2

section
variable {P : Program} {S : Sp} {ρ : As} {φ : Nat → Nat → Prop} {w : World}
theorem Rep.pin {hp : HP} (hR : Rep ρ φ hp w) : Rep ρ φ (pinHp w φ hp) w := by
  have h : ∀ k b, look (pinHp w φ hp) k = some b → ∃ b0, look hp k = some b0 ∧ b = pinB w (φ k) b0 := fun k b hk => by
    rw [look_pin] at hk
    cases hl : look hp k with
    | none => rw [hl] at hk; cases hk
    | some b0 => rw [hl] at hk; cases hk; exact ⟨b0, rfl, rfl⟩
  constructor
  · intro k b hk
    obtain ⟨b0, h0, rfl⟩ := h k b hk
    cases b0 with
    | cells t l => exact hR.ok k _ h0
    | ob o => exact ⟨hR.ok k _ h0, fun x => Iff.rfl, fun x _ => rfl⟩
  · intro k b hk x hx
    obtain ⟨b0, h0, _⟩ := h k b hk
    exact hR.lt k b0 h0 x hx
  · intro k j b b' hk hj hne
    obtain ⟨b0, h0, _⟩ := h k b hk
    obtain ⟨b1, h1, _⟩ := h j b' hj
    exact hR.dis k j b0 b1 h0 h1 hne

/-- A call that leaves all that it sees as it was. -/
theorem quiet_call {f : FuncId} {hp : HP} {n : Nat} {args : List E} {v : V} (hS : SpOk P S) (hm : P.follows .mixedOrders = true) {fn : Func} (hf : P.funcs[f]? = some fn) (hb : fn.body.isSome = true) (hk : hpkb hp n = true) (ha : args.all (E.kb n) = true) (hv : v.kb n = true)
    (hN : args.length ≤ fn.ntmps) (os : List Nat)
    (hx : ∀ W G, Ran P fn.ntmps n (fexec P S fn (bodyOf fn) args ⟨pinHp W G hp, n⟩ fun v h => (v, h)) os fun r => r.1 = v ∧ ∀ k b, look (pinHp W G hp) k = some b → look r.2.hp k = some b)
    (hR : Rep ρ φ hp w) : Calls P f (args.map (E.den ρ)).toArray w fun e w' => e = .returned (v.den ρ) ∧ RowKit.Below w.heap.size w w' := by
  refine (calls_of_exec (h0 := ⟨pinHp w φ hp, n⟩) hS hm hf (body_eq hb) (pinHp_kb hk) ha hN (fun v h => (v, h)) (prune_sat _ _ (hx w φ).sat) hR.pin).mono fun e w' hp' => ?_
  obtain ⟨v', h', ρ', φ', rfl, ⟨rfl, hlk⟩, hR', hE⟩ := hp'
  refine ⟨by rw [V.den_agr hv hE.agr], hE.os, hE.tape, hE.output, hE.size, fun x hx => ?_⟩
  by_cases hin : ∃ k b, look hp k = some b ∧ φ k x
  · obtain ⟨k, b, hb, hφ⟩ := hin
    have hb' : look (pinHp w φ hp) k = some (pinB w (φ k) b) := by rw [look_pin, hb]; rfl
    have h1 := hR'.ok k _ (hlk k _ hb')
    have h0 := hR.ok k b hb
    have hkl := hpkb_look hk hb
    cases b with
    | cells t l =>
      have e1 : x = ρ.r k := (h0.2 x).1 hφ
      have e2 : ρ'.r k = ρ.r k := (hE.agr k hkl.1).1
      subst e1
      have h2 := h1.1
      rw [e2, cellsOf_agr hkl.2 hE.agr] at h2
      rw [h2, h0.1]
    | ob o =>
      exact h1.2.2 x ((h1.2.1 x).2 hφ)
  · refine hE.fr x hx fun k b hk' hφ => hin ?_
    rw [look_pin] at hk'
    cases hl : look hp k with
    | none => rw [hl] at hk'; cases hk'
    | some b0 => exact ⟨k, b0, hl, hφ⟩
end

theorem Tr.sat_mono {α : Type u} {L : Code → St → (Ex → St → Prop) → Prop} {Q Q' : α → Prop} (h : ∀ x, Q x → Q' x) : ∀ {T : Tr α}, T.sat L Q → T.sat L Q' := by
  intro T
  induction T with
  | leaf x => exact h x
  | fail => exact id
  | need p t ih => exact fun hh => ⟨hh.1, ih hh.2⟩
  | br c t e iht ihe => exact fun hh => ⟨fun hc => iht (hh.1 hc), fun hc => ihe (hh.2 hc)⟩
  | loop b s k ih => exact fun ⟨Φ, h1, h2⟩ => ⟨Φ, h1, fun x s' hx => ih x s' (h2 x s' hx)⟩

/-! ### Calls that are handed a memory -/
section
variable {P : Program} {MT PG : TypeId} {most : Int} {ps : List PgA} {wl : List (BitVec 32)} {ρ : As} {φ : Nat → Nat → Prop} {h : H} {w : World}
def IsMem (MT PG : TypeId) (o : Ob) (most : Int) (ps : List PgA) (wl : List (BitVec 32)) : Prop := ∀ ρ w k F, o.I o.d ρ w k F → memI MT PG most ps wl ρ w k F
theorem is_mem : IsMem MT PG (memOb MT PG most ps wl) most ps wl := fun _ _ _ _ h => h
theorem pin_mem {W : World} {G : Nat → Prop} {o : Ob} (h : IsMem MT PG o most ps wl) : IsMem MT PG (pin o W G) most ps wl := fun ρ w k F hh => h ρ w k F hh.1

theorem den_rest {rest : List E} (hr : rest.all (E.kb 0) = true) (ρ ρ' : As) : rest.map (E.den ρ) = rest.map (E.den ρ') := by
  apply List.map_congr_left
  intro e he
  exact E.den_agr (n := 0) (List.all_eq_true.1 hr e he) fun j hj => by omega
theorem den_mem {rest : List E} (hr : rest.all (E.kb 0) = true) {ρ ρ2 : As} {k : Nat} (hk : ρ2.r 0 = ρ.r k) : (E.c (.ptr 0 0 0) :: rest).map (E.den ρ2) = (.c (.ptr k 0 0) :: rest).map (E.den ρ) := by
  simp only [List.map_cons, E.den, C.den, hk, den_rest hr ρ2 ρ]

/-- What a call does to a memory, told of its own blocks. -/
def MemDoes (P : Program) (MT PG : TypeId) (f : FuncId) (rest : List E) (most : Int) (ps : List PgA) (wl : List (BitVec 32)) (v : V) (most' : Int) (ps' : List PgA) (wl' : List (BitVec 32)) : Prop :=
  ∀ tv ρ φ w, tv.oneCell' = true → Rep ρ φ (memHp MT PG most ps wl tv) w → Calls P f ((E.c (.ptr 0 0 0) :: rest).map (E.den ρ)).toArray w fun e w' => ∃ ρ' φ' tv', e = .returned (v.den ρ) ∧ tv'.oneCell' = true ∧ ρ'.r 0 = ρ.r 0 ∧
    Rep ρ' φ' (memHp MT PG most' ps' wl' tv') w' ∧ (∀ x, Foot φ' 3 x → Foot φ 3 x ∨ w.heap.size ≤ x) ∧ (∀ x, x < w.heap.size → ¬ Foot φ 3 x → w'.heap[x]? = w.heap[x]?) ∧ w'.os = w.os ∧ w'.tape = w.tape ∧ w'.output = w.output ∧ w.heap.size ≤ w'.heap.size
def MemReads (P : Program) (MT PG : TypeId) (f : FuncId) (rest : List E) (most : Int) (ps : List PgA) (wl : List (BitVec 32)) (v : V) : Prop :=
  ∀ tv ρ φ w, tv.oneCell' = true → Rep ρ φ (memHp MT PG most ps wl tv) w → Calls P f ((E.c (.ptr 0 0 0) :: rest).map (E.den ρ)).toArray w fun e w' => e = .returned (v.den ρ) ∧ RowKit.Below w.heap.size w w'

theorem MemReads.client {f : FuncId} {rest : List E} {v : V} (hd : MemReads P MT PG f rest most ps wl v) (hr : rest.all (E.kb 0) = true) (hv : v.kb 0 = true) {k : Nat} {o : Ob} (hk : look h.hp k = some (.ob o)) (ho : IsMem MT PG o most ps wl) (hR : Rep ρ φ h.hp w) :
    Calls P f ((.c (.ptr k 0 0) :: rest).map (E.den ρ)).toArray w fun e w' => e = .returned (v.den ρ) ∧ RowKit.Below w.heap.size w w' := by
  obtain ⟨tv, ρ2, φ2, h1, h2, h3, h4⟩ := ho _ _ _ _ (hR.ok k _ hk)
  rw [← den_mem hr h2]
  exact (hd tv ρ2 φ2 w h1 h3).mono fun e w' hp => ⟨by rw [hp.1, V.den_agr (n := 0) (ρ := ρ) hv fun j hj => by omega], hp.2⟩
theorem MemDoes.client {f : FuncId} {rest : List E} {v : V} {most' : Int} {ps' : List PgA} {wl' : List (BitVec 32)} (hd : MemDoes P MT PG f rest most ps wl v most' ps' wl') (hr : rest.all (E.kb 0) = true) (hv : v.kb 0 = true) {k : Nat} {o : Ob} (hk : look h.hp k = some (.ob o)) (ho : IsMem MT PG o most ps wl) (hR : Rep ρ φ h.hp w) :
    Calls P f ((.c (.ptr k 0 0) :: rest).map (E.den ρ)).toArray w fun e w' => ∃ ρ' φ', e = .returned (v.den ρ') ∧ Rep ρ' φ' (sett h.hp k (.ob (memOb MT PG most' ps' wl'))) w' ∧ Evo ρ φ h w ρ' φ' ⟨sett h.hp k (.ob (memOb MT PG most' ps' wl')), h.nk⟩ w' := by
  obtain ⟨tv, ρ2, φ2, h1, h2, h3, h4⟩ := ho _ _ _ _ (hR.ok k _ hk)
  rw [← den_mem hr h2]
  refine (hd tv ρ2 φ2 w h1 h3).mono fun e w' hp => ?_
  obtain ⟨ρ', φ', tv', rfl, g1, g2, g3, g4, g5, g6, g7, g8, g9⟩ := hp
  have := hR.turnF (w' := w') (b1 := .ob (memOb MT PG most' ps' wl')) (F := Foot φ' 3) hk ⟨tv', ρ', φ', g1, g2.trans h2, g3, fun x => Iff.rfl⟩ (fun x hx => by
      rcases g4 x hx with hh | hh
      · exact .inl ((h4 x).2 hh)
      · exact .inr hh) (fun x hx => by
      obtain ⟨j, hj, hx⟩ := hx
      obtain ⟨b, hb⟩ := memHp_some (MT := MT) (PG := PG) (most := most') (ps := ps') (wl := wl') (tv := tv') hj
      exact g3.lt j b hb x hx) (fun x hx hno => g5 x hx fun hh => hno ((h4 x).2 hh)) g6 g7 g8 g9
  exact ⟨ρ, _, by rw [V.den_agr (n := 0) (ρ := ρ) hv fun j hj => by omega], this.1, this.2⟩

/-- A memory's page: which, and what is ahead and behind. -/
def pageAt (ps : List PgA) (x : BitVec 32) : Option PgA := ps.find? fun p => p.base == x
theorem pageAt_none {ps : List PgA} {x : BitVec 32} (h : pageAt ps x = none) : ∀ p ∈ ps, p.base ≠ x := fun p hp => by
  have := List.find?_eq_none.1 h p hp
  simpa using this
theorem pageAt_some {ps : List PgA} {x : BitVec 32} {p : PgA} (h : pageAt ps x = some p) : ∃ pre post, ps = pre ++ p :: post ∧ p.base = x ∧ ∀ q ∈ pre, q.base ≠ x := by
  obtain ⟨h1, as, bs, h2, h3⟩ := List.find?_eq_some_iff_append.1 h
  exact ⟨as, bs, h2, by simpa using h1, fun q hq => by simpa using h3 q hq⟩

/-- Calls that read: by the page that is asked for, or none. -/
theorem mem_reads {S : Sp} {f : FuncId} {rest : List E} {v : V} (hS : SpOk P S) (hm : P.follows .mixedOrders = true) {fn : Func} (hf : P.funcs[f]? = some fn) (hb : fn.body.isSome = true) (hr : rest.all (E.kb 0) = true) (hv : v.kb 0 = true) (hN : rest.length + 1 ≤ fn.ntmps) (x : BitVec 32) (os os' : List Nat)
    (hno : pageAt ps x = none → ∀ tv W G, Ran P fn.ntmps 3 (fexec P S fn (bodyOf fn) (.c (.ptr 0 0 0) :: rest) ⟨pinHp W G (memHp MT PG most ps wl tv), 3⟩ fun v h => (v, h)) os fun r => r = (v, ⟨pinHp W G (memHp MT PG most ps wl tv), 3⟩))
    (hyes : ∀ pre p post wr, ps = pre ++ p :: post → p.base = x → (∀ q ∈ pre, q.base ≠ x) → pageAt ps x = some p → ∀ n tv W G, Ran P fn.ntmps 4 (fexec P S fn (bodyOf fn) (.c (.ptr 0 0 0) :: rest) ⟨pinHp W G (focHp MT PG most n pre p wr post wl tv), 4⟩ fun v h => (v, h)) os' fun r => r = (v, ⟨pinHp W G (focHp MT PG most n pre p wr post wl tv), 4⟩)) :
    MemReads P MT PG f rest most ps wl v := by
  intro tv ρ φ w htv hR
  cases hp : pageAt ps x with
  | none =>
    refine quiet_call hS hm hf hb (hp := memHp MT PG most ps wl tv) (n := 3) rfl ?_ (V.kb_mono (Nat.zero_le _) hv) (by simpa using hN) os (fun W G => ?_) hR
    · simp only [List.all_cons, Bool.and_eq_true]
      exact ⟨rfl, List.all_eq_true.2 fun e he => E.kb_mono (Nat.zero_le _) (List.all_eq_true.1 hr e he)⟩
    · exact ⟨Tr.sat_mono (fun r hr => by subst hr; exact ⟨rfl, fun k b hk => hk⟩) (hno hp tv W G).sat⟩
  | some p =>
    obtain ⟨pre, post, rfl, hb2, hpre⟩ := pageAt_some hp
    obtain ⟨wr, ρ', φ', hF, h0, _⟩ := focus hR
    have hd : (E.c (.ptr 0 0 0) :: rest).map (E.den ρ) = (E.c (.ptr 0 0 0) :: rest).map (E.den ρ') := by
      rw [den_mem (ρ := ρ') (ρ2 := ρ) (k := 0) hr h0.symm]
    rw [hd]
    have := quiet_call hS hm hf hb (hp := focHp MT PG most (pre ++ p :: post).length pre p wr post wl tv) (n := 4) (args := .c (.ptr 0 0 0) :: rest) (v := v) rfl (by
        simp only [List.all_cons, Bool.and_eq_true]
        exact ⟨rfl, List.all_eq_true.2 fun e he => E.kb_mono (Nat.zero_le _) (List.all_eq_true.1 hr e he)⟩) (V.kb_mono (Nat.zero_le _) hv) (by simpa using hN) os' (fun W G => ⟨Tr.sat_mono (fun r hr => by subst hr; exact ⟨rfl, fun k b hk => hk⟩) (hyes pre p post wr rfl hb2 hpre hp _ tv W G).sat⟩) hF
    exact this.mono fun e w' hp => ⟨by rw [hp.1, V.den_agr (n := 0) (ρ := ρ) hv fun j hj => by omega], hp.2⟩
end
end Go.Sx
