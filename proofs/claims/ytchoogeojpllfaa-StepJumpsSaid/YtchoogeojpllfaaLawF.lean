/- A part of the walk or of the law. -/
import Derived.Test.YtchoogeojpllfaaLawE
set_option linter.unusedVariables false
set_option linter.unusedSimpArgs false
namespace Go.Proofs.Ytchoogeojpllfaa
open Go.Sx
set_option maxHeartbeats 4000000
def two (w x : BitVec 32) : List PgA := me8_ps (8192#32) 7 (sh (putB w) 0) (sh (putB x) 0)
theorem first {k : Nat} {op : Int} (hk : k = 2 ∧ op = 68 ∨ k = 3 ∧ op = 69) (w x to : BitVec 32) (hw : w.toNat = k * 2 ^ 26 + (to &&& 268435452#32).toNat / 4 % 67108864) :
    sStep_6 (two w x) (fun _ => 0#32) 0#32 0#32 8192#32 8196#32 false = 0 ∧ sStep_3 (two w x) (fun _ => 0#32) 0#32 0#32 8192#32 8196#32 false = 8196#32 ∧
    sStep_4 (two w x) (fun _ => 0#32) 0#32 0#32 8192#32 8196#32 false = to &&& 268435452#32 ∧ sStep_5 (two w x) (fun _ => 0#32) 0#32 0#32 8192#32 8196#32 false = true ∧
    sStep_11 (two w x) (fun _ => 0#32) 0#32 0#32 8192#32 8196#32 false = two w x ∧ (sStep_0 (two w x) (fun _ => 0#32) 0#32 0#32 8192#32 8196#32 false 31 == 8200#32) = (op == 69) := by
  have hA := jump1 (ps := two w x) (r := fun _ => 0#32) (hi := 0#32) (lo := 0#32) (pc := 8192#32) (nx := 8196#32) op hk (Nat.mod_lt _ (by decide)) hw (f18 w x) (f08 w x)
  have hop : op = 68 ∨ op = 69 := by rcases hk with ⟨_, h⟩ | ⟨_, h⟩ <;> simp [h]
  rw [tgt] at hA
  obtain ⟨d1, d2⟩ := doesJ (ps := two w x) (r := fun _ => 0#32) (hi := 0#32) (lo := 0#32) (pc := 8192#32) (nx := 8196#32) (imm := to &&& 268435452#32) (x := upd (fun _ => 0#32) 0 0#32 (0 : Int).toNat) (y := upd (fun _ => 0#32) 0 0#32 (0 : Int).toNat) (sl := false) hop
  refine ⟨hA.sout, hA.spc, ?_, ?_, hA.sps.trans d1, ?_⟩
  · rw [hA.snx]
    rcases hop with rfl | rfl <;> simp [insKind_0, aTakes_0, sTarget_0]
  · rw [hA.ssl]
    rcases hop with rfl | rfl <;> simp [insKind_0]
  · rw [hA.sr, if_neg (by decide), d2 31 (by decide)]
    rcases hop with rfl | rfl <;> simp
theorem w69 (to : BitVec 32) : (lWord_0 69 0 0 0 0 (to &&& 268435452#32)).toNat = 3 * 2 ^ 26 + (to &&& 268435452#32).toNat / 4 % 67108864 := by
  rw [show lWord_0 69 0 0 0 0 (to &&& 268435452#32) = enc_0 69 0 0 0 0 (to &&& 268435452#32) from rfl, enc69, jw_nat 3 (by decide)]
theorem w68 (to : BitVec 32) : (lWord_0 68 0 0 0 0 (to &&& 268435452#32)).toNat = 2 * 2 ^ 26 + (to &&& 268435452#32).toNat / 4 % 67108864 := by
  rw [show lWord_0 68 0 0 0 0 (to &&& 268435452#32) = enc_0 68 0 0 0 0 (to &&& 268435452#32) from rfl, enc68, jw_nat 2 (by decide)]
theorem slot2 (w : BitVec 32) (r : Nat → BitVec 32) (hi lo nx : BitVec 32) : Halts (two w 134217728#32) r hi lo 8196#32 nx true 7 0#32 :=
  jump_slot (k := 2) (x := 0) 68 (.inl ⟨rfl, rfl⟩) (by decide) (by decide) (f18b w _) (f08b w _)
theorem slot0 (w : BitVec 32) (r : Nat → BitVec 32) (hi lo nx : BitVec 32) (sl : Bool) : Goes (two w 0#32) r hi lo 8196#32 nx sl 16 0 0 0 0 0#32 :=
  nop1 (f18b w _) (f08b w _)
theorem eu0 (x y : BitVec 32) : upd (upd (fun _ => 0#32) 0 x) 1 y 0 = x := rfl
theorem eu1 (x y : BitVec 32) : upd (upd (fun _ => 0#32) 0 x) 1 y 1 = y := rfl
theorem etwo (w x : BitVec 32) : me8_ps (8192#32) 7 (sh (putB w) 0) (sh (putB x) 0) = two w x := rfl
theorem jmpTT_true (to : BitVec 32) : jmpTT_0 to = true := by
  obtain ⟨a, b, c, d, e, f⟩ := first (k := 3) (op := 69) (.inr ⟨rfl, rfl⟩) _ 134217728#32 to (w69 to)
  unfold jmpTT_0
  simp only [eu0, eu1, etwo]
  rw [a, b, c, d, e, f, (slot2 _ _ _ _ _).sout, (slot2 _ _ _ _ _).skind, (slot2 _ _ _ _ _).sfpc, (slot2 _ _ _ _ _).sfsl]
  simp [awk_0]
theorem jmpFT_true (to : BitVec 32) : jmpFT_0 to = true := by
  obtain ⟨a, b, c, d, e, f⟩ := first (k := 2) (op := 68) (.inl ⟨rfl, rfl⟩) _ 134217728#32 to (w68 to)
  unfold jmpFT_0
  simp only [eu0, eu1, etwo]
  rw [a, b, c, d, e, f, (slot2 _ _ _ _ _).sout, (slot2 _ _ _ _ _).skind, (slot2 _ _ _ _ _).sfpc, (slot2 _ _ _ _ _).sfsl]
  simp [awk_0]
theorem jmpTF_true (to : BitVec 32) : jmpTF_0 to = true := by
  obtain ⟨a, b, c, d, e, f⟩ := first (k := 3) (op := 69) (.inr ⟨rfl, rfl⟩) _ 0#32 to (w69 to)
  unfold jmpTF_0
  simp only [eu0, eu1, etwo]
  rw [a, b, c, d, e, f, (slot0 _ _ _ _ _ _).sout, (slot0 _ _ _ _ _ _).spc, (slot0 _ _ _ _ _ _).snx, (slot0 _ _ _ _ _ _).ssl]
  simp [awk_0, insKind_0, aTakes_0]
theorem jmpFF_true (to : BitVec 32) : jmpFF_0 to = true := by
  obtain ⟨a, b, c, d, e, f⟩ := first (k := 2) (op := 68) (.inl ⟨rfl, rfl⟩) _ 0#32 to (w68 to)
  unfold jmpFF_0
  simp only [eu0, eu1, etwo]
  rw [a, b, c, d, e, f, (slot0 _ _ _ _ _ _).sout, (slot0 _ _ _ _ _ _).spc, (slot0 _ _ _ _ _ _).snx, (slot0 _ _ _ _ _ _).ssl]
  simp [awk_0, insKind_0, aTakes_0]
theorem u32_of2 {b : Int} (wb : (Lit.int .u32 b).wf = true) : ∃ v : BitVec 32, (v.toNat : Int) = b := by
  have h : 0 ≤ b ∧ b ≤ 4294967295 := by
    have h1 : (decide (IntKind.u32.min ≤ b) && decide (b ≤ IntKind.u32.max)) = true := wb
    rw [Bool.and_eq_true, decide_eq_true_eq, decide_eq_true_eq] at h1
    exact h1
  refine ⟨BitVec.ofInt 32 b, ?_⟩
  rw [BitVec.toNat_ofInt]
  omega
theorem jumps_any (a : Int) (b c : Bool) (W : World) (wa : (Lit.int .u32 a).wf = true) : Calls Try.prog 4 #[.int .u32 a, .bool b, .bool c] W fun e W' => e = .returned (.bool true) ∧ RowKit.Below W.heap.size W W' := by
  obtain ⟨v, rfl⟩ := u32_of2 wa
  have hR : Rep As0 (fun _ _ => False) [] W := ⟨fun k b hk => (by cases hk), fun k b hk => (by cases hk), fun k k' b b' hk => (by cases hk)⟩
  cases b <;> cases c
  · obtain ⟨_, x, hx, hc⟩ := q_jmpFF.ok [.c (.w v), .c (.bool false), .c (.bool false)] [] (fun x => x = .e (.c (.bool true))) (by show V.e (.c (.bool (jmpFF_0 v))) = _; rw [jmpFF_true v])
    subst hx
    exact hc As0 (fun _ _ => False) W hR
  · obtain ⟨_, x, hx, hc⟩ := q_jmpFT.ok [.c (.w v), .c (.bool false), .c (.bool true)] [] (fun x => x = .e (.c (.bool true))) (by show V.e (.c (.bool (jmpFT_0 v))) = _; rw [jmpFT_true v])
    subst hx
    exact hc As0 (fun _ _ => False) W hR
  · obtain ⟨_, x, hx, hc⟩ := q_jmpTF.ok [.c (.w v), .c (.bool true), .c (.bool false)] [] (fun x => x = .e (.c (.bool true))) (by show V.e (.c (.bool (jmpTF_0 v))) = _; rw [jmpTF_true v])
    subst hx
    exact hc As0 (fun _ _ => False) W hR
  · obtain ⟨_, x, hx, hc⟩ := q_jmpTT.ok [.c (.w v), .c (.bool true), .c (.bool true)] [] (fun x => x = .e (.c (.bool true))) (by show V.e (.c (.bool (jmpTT_0 v))) = _; rw [jmpTT_true v])
    subst hx
    exact hc As0 (fun _ _ => False) W hR
end Go.Proofs.Ytchoogeojpllfaa
