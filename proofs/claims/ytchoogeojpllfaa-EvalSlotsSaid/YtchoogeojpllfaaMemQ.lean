/- A part of the walk or of the law. -/
import Derived.Test.YtchoogeojpllfaaMemP
import Derived.Test.YtchoogeojpllfaaSx5
set_option linter.unusedVariables false
set_option linter.unusedSimpArgs false
namespace Go.Proofs.Ytchoogeojpllfaa
open Go.Sx
noncomputable def e_pair : EE Try.prog := eeOf Try.prog 204 (by kernel_rfl) (by kernel_rfl)
noncomputable def I2 : Sp := ((spOf (P := Try.prog) [⟨_, _, zpair⟩, ⟨_, _, zrows⟩, ⟨_, _, zrow⟩] [e_pair] [q_rows, q_iSlot, q_bField] [] none none).un 70).ck
theorem I2_ok : SpOk Try.prog I2 := Sp.ck_ok (Sp.un_ok (spOf_ok _ _ _ _ _ _) 70)
structure Row where
  op : Int
  form : Int
  nm : ByteArray
  code : BitVec 32
/-- The table's rows. -/
def rowsT : List Row := [⟨1, 0, { data := #[97, 100, 100, 117] }, 33#32⟩, ⟨2, 0, { data := #[115, 117, 98, 117] }, 35#32⟩, ⟨3, 0, { data := #[97, 110, 100] }, 36#32⟩, ⟨4, 0, { data := #[111, 114] }, 37#32⟩, ⟨5, 0, { data := #[120, 111, 114] }, 38#32⟩, ⟨6, 0, { data := #[110, 111, 114] }, 39#32⟩, ⟨7, 0, { data := #[115, 108, 116] }, 42#32⟩, ⟨8, 0, { data := #[115, 108, 116, 117] }, 43#32⟩, ⟨9, 0, { data := #[97, 100, 100] }, 32#32⟩, ⟨10, 0, { data := #[115, 117, 98] }, 34#32⟩, ⟨11, 0, { data := #[115, 108, 108, 118] }, 4#32⟩, ⟨12, 0, { data := #[115, 114, 108, 118] }, 6#32⟩, ⟨13, 0, { data := #[115, 114, 97, 118] }, 7#32⟩, ⟨14, 0, { data := #[109, 111, 118, 122] }, 10#32⟩, ⟨15, 0, { data := #[109, 111, 118, 110] }, 11#32⟩, ⟨16, 1, { data := #[115, 108, 108] }, 0#32⟩, ⟨17, 1, { data := #[115, 114, 108] }, 2#32⟩, ⟨18, 1, { data := #[115, 114, 97] }, 3#32⟩, ⟨19, 2, { data := #[109, 117, 108, 116] }, 24#32⟩, ⟨20, 2, { data := #[109, 117, 108, 116, 117] }, 25#32⟩, ⟨21, 2, { data := #[100, 105, 118] }, 26#32⟩, ⟨22, 2, { data := #[100, 105, 118, 117] }, 27#32⟩, ⟨23, 3, { data := #[109, 102, 104, 105] }, 16#32⟩, ⟨24, 3, { data := #[109, 102, 108, 111] }, 18#32⟩, ⟨25, 4, { data := #[109, 116, 104, 105] }, 17#32⟩, ⟨26, 4, { data := #[109, 116, 108, 111] }, 19#32⟩, ⟨27, 4, { data := #[106, 114] }, 8#32⟩, ⟨28, 5, { data := #[106, 97, 108, 114] }, 9#32⟩, ⟨29, 6, { data := #[116, 103, 101] }, 48#32⟩, ⟨30, 6, { data := #[116, 103, 101, 117] }, 49#32⟩, ⟨31, 6, { data := #[116, 108, 116] }, 50#32⟩, ⟨32, 6, { data := #[116, 108, 116, 117] }, 51#32⟩, ⟨33, 6, { data := #[116, 101, 113] }, 52#32⟩, ⟨34, 6, { data := #[116, 110, 101] }, 54#32⟩, ⟨35, 7, { data := #[115, 121, 115, 99, 97, 108, 108] }, 12#32⟩, ⟨36, 7, { data := #[98, 114, 101, 97, 107] }, 13#32⟩, ⟨37, 8, { data := #[109, 117, 108] }, 2#32⟩, ⟨38, 9, { data := #[99, 108, 122] }, 32#32⟩, ⟨39, 9, { data := #[99, 108, 111] }, 33#32⟩, ⟨40, 10, { data := #[97, 100, 100, 105, 117] }, 9#32⟩, ⟨41, 10, { data := #[97, 100, 100, 105] }, 8#32⟩, ⟨42, 10, { data := #[115, 108, 116, 105] }, 10#32⟩, ⟨43, 10, { data := #[115, 108, 116, 105, 117] }, 11#32⟩, ⟨44, 11, { data := #[97, 110, 100, 105] }, 12#32⟩, ⟨45, 11, { data := #[111, 114, 105] }, 13#32⟩, ⟨46, 11, { data := #[120, 111, 114, 105] }, 14#32⟩, ⟨47, 12, { data := #[108, 117, 105] }, 15#32⟩, ⟨48, 13, { data := #[108, 98] }, 32#32⟩, ⟨49, 13, { data := #[108, 104] }, 33#32⟩, ⟨50, 13, { data := #[108, 119, 108] }, 34#32⟩, ⟨51, 13, { data := #[108, 119] }, 35#32⟩, ⟨52, 13, { data := #[108, 98, 117] }, 36#32⟩, ⟨53, 13, { data := #[108, 104, 117] }, 37#32⟩, ⟨54, 13, { data := #[108, 119, 114] }, 38#32⟩, ⟨55, 13, { data := #[115, 98] }, 40#32⟩, ⟨56, 13, { data := #[115, 104] }, 41#32⟩, ⟨57, 13, { data := #[115, 119, 108] }, 42#32⟩, ⟨58, 13, { data := #[115, 119] }, 43#32⟩, ⟨59, 13, { data := #[115, 119, 114] }, 46#32⟩, ⟨60, 14, { data := #[98, 101, 113] }, 4#32⟩, ⟨61, 14, { data := #[98, 110, 101] }, 5#32⟩, ⟨62, 15, { data := #[98, 108, 101, 122] }, 6#32⟩, ⟨63, 15, { data := #[98, 103, 116, 122] }, 7#32⟩, ⟨64, 16, { data := #[98, 108, 116, 122] }, 0#32⟩, ⟨65, 16, { data := #[98, 103, 101, 122] }, 1#32⟩, ⟨66, 16, { data := #[98, 108, 116, 122, 97, 108] }, 16#32⟩, ⟨67, 16, { data := #[98, 103, 101, 122, 97, 108] }, 17#32⟩, ⟨68, 17, { data := #[106] }, 2#32⟩, ⟨69, 17, { data := #[106, 97, 108] }, 3#32⟩]
/-- Does a row stand at that opcode and number? -/
def rowAt (x y : BitVec 32) (r : Row) : Bool := iSlot_0 r.op r.form (.string r.nm) r.code == x && iSlot_1 r.op r.form (.string r.nm) r.code == y
def scan {α : Type} (d : α) (g : Row → α) (p : Row → Bool) : List Row → α
  | [] => d
  | r :: l => bif p r then g r else scan d g p l
/-- By a word: the rows' first that fits. -/
def ofBy {α : Type} (d : α) (g : Row → α) (w : BitVec 32) : α :=
  bif bField_0 w 26 6 == 0#32 then (bif bField_0 w 26 6 == 0#32 then scan d g (rowAt (bField_0 w 26 6) (bField_0 w 0 6)) rowsT else (bif bField_0 w 26 6 == 1#32 then scan d g (rowAt (bField_0 w 26 6) (bField_0 w 16 5)) rowsT else scan d g (rowAt (bField_0 w 26 6) 0#32) rowsT))
  else (bif bField_0 w 26 6 == 28#32 then scan d g (rowAt (bField_0 w 26 6) (bField_0 w 0 6)) rowsT else (bif bField_0 w 26 6 == 1#32 then scan d g (rowAt (bField_0 w 26 6) (bField_0 w 16 5)) rowsT else scan d g (rowAt (bField_0 w 26 6) 0#32) rowsT))
def iOf_0 (w : BitVec 32) : Int := ofBy 0 Row.op w
def iOf_1 (w : BitVec 32) : Int := ofBy 0 Row.form w
def iOf_2 (w : BitVec 32) : ByteArray := ofBy ⟨#[]⟩ Row.nm w
def iOf_3 (w : BitVec 32) : BitVec 32 := ofBy 0 Row.code w
def iOf_4 (w : BitVec 32) : Bool := ofBy false (fun _ => true) w
def v_iOf (w : BitVec 32) : V := .tup [.agg [.c (.i (iOf_0 w)), .c (.i (iOf_1 w)), .c (.raw (.string (iOf_2 w))), .c (.w (iOf_3 w))], .c (.bool (iOf_4 w))]
set_option maxRecDepth 100000 in
theorem iOf_ran (w : BitVec 32) : collF (fexec Try.prog I2 Try.f79 (bodyOf Try.f79) [.c (.w w)] ⟨[], 0⟩ fun v _ => v) = some (v_iOf w) := by kernel_rfl
def a_iOf : List E → HP → R V
  | [.c (.w w)], _ => .ok (v_iOf w)
  | _, _ => .fail
noncomputable def q_iOf : QE Try.prog := ⟨79, a_iOf, fun args hp Q h => by
  unfold a_iOf at h
  split at h
  · rename_i w
    exact qe_of I2_ok hmo Try.func79 (by kernel_rfl) (by kernel_rfl) rfl (Nat.le_of_ble_eq_true (by kernel_rfl)) rfl [] (ran_F (iOf_ran w)) h
  · exact h.elim⟩
end Go.Proofs.Ytchoogeojpllfaa
