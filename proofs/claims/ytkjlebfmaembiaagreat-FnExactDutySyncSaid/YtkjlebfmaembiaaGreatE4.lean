/- An own evaluator of the program's form, proved sound, and what it says of this law's functions: part 4. -/
import Derived.Test.YtkjlebfmaembiaaGreatE3
set_option linter.unusedVariables false
open Go Go.Eng
namespace Go.Eng.R
def M_byte (x : V) (k : Int) : Prop := gi x 0 = IntKind.u8.wrap k
def M_int (x : V) (k : Int) : Prop := gi x 0 = k
def M_bool (x : V) (k : Int) : Prop := gb x 0 = decide (k.tmod 3 = 0)
def cnv_byte (x : V) : V := .int .u8 (gi x 0)
def cnv_int (x : V) : V := .int .i64 (gi x 0)
def cnv_bool (x : V) : V := .bool (gb x 0)
theorem cnv_int_W (x : V) (h : W_int x) : W_int (cnv_int x) := h
theorem cnv_int_z (x : V) : z0 (cnv_int x) = z0 x := rfl
theorem cnv_int_c (x : V) : c1 (cnv_int x) = c1 x := rfl
theorem cnv_bool_W (x : V) (h : W_bool x) : W_bool (cnv_bool x) := h
theorem cnv_bool_z (x : V) : z0 (cnv_bool x) = z0 x := rfl
theorem cnv_bool_c (x : V) : c1 (cnv_bool x) = c1 x := rfl
theorem cnv_byte_W (x : V) (h : W_byte x) : W_byte (cnv_byte x) := h
theorem cnv_byte_z (x : V) : z0 (cnv_byte x) = z0 x := rfl
theorem cnv_byte_c (x : V) : c1 (cnv_byte x) = c1 x := rfl
def W_Row (x : V) : Prop := LW W_byte (gl x 0) ∧ LW W_byte (gl x 1) ∧ I64 (gi x 2) ∧ I64 (gi x 3)
def z_Row (x : V) : Nat := zS z0 (gl x 0) + zS z0 (gl x 1)
def c_Row (x : V) : Nat := sumL c1 (gl x 0) + sumL c1 (gl x 1) + 1 + 1
def ct_Row (x : V) : Nat := sumL c1 (gl x 0) + sumL c1 (gl x 1)
def M_Row (x : V) (k : Int) : Prop := MS c1 M_byte (gl x 0) (k) ∧ MS c1 M_byte (gl x 1) (k + ((sumL c1 (gl x 0) : Nat) : Int)) ∧ gi x 2 = k + ((sumL c1 (gl x 0) : Nat) : Int) + ((sumL c1 (gl x 1) : Nat) : Int) ∧ gi x 3 = k + ((sumL c1 (gl x 0) : Nat) : Int) + ((sumL c1 (gl x 1) : Nat) : Int) + 1
def cnv_Row (x : V) : V := V.agg [V.inl t_byte ((gl x 0).map cnv_byte), V.inl t_byte ((gl x 1).map cnv_byte), (V.int .i64 (gi x 2)), (V.int .i64 (gi x 3))]
theorem cnv_Row_W (x : V) (h : W_Row x) : W_Row (cnv_Row x) := ⟨LW.map (h := cnv_byte) cnv_byte_W (h.1), LW.map (h := cnv_byte) cnv_byte_W (h.2.1), h.2.2.1, h.2.2.2⟩
theorem cnv_Row_z (x : V) : z_Row (cnv_Row x) = z_Row x := by
  simp only [z_Row, show gl (cnv_Row x) 0 = (gl x 0).map cnv_byte from rfl, show gl (cnv_Row x) 1 = (gl x 1).map cnv_byte from rfl, zS_map (h := cnv_byte) cnv_byte_z (gl x 0), zS_map (h := cnv_byte) cnv_byte_z (gl x 1)]
theorem cnv_Row_c (x : V) : c_Row (cnv_Row x) = c_Row x := by
  simp only [c_Row, show gl (cnv_Row x) 0 = (gl x 0).map cnv_byte from rfl, show gl (cnv_Row x) 1 = (gl x 1).map cnv_byte from rfl, sumL_map (h := cnv_byte) cnv_byte_c (gl x 0), sumL_map (h := cnv_byte) cnv_byte_c (gl x 1)]
theorem cnv_Row_ct (x : V) : ct_Row (cnv_Row x) = ct_Row x := by
  simp only [ct_Row, show gl (cnv_Row x) 0 = (gl x 0).map cnv_byte from rfl, show gl (cnv_Row x) 1 = (gl x 1).map cnv_byte from rfl, sumL_map (h := cnv_byte) cnv_byte_c (gl x 0), sumL_map (h := cnv_byte) cnv_byte_c (gl x 1)]
theorem c_Row_cz (x : V) : c_Row x ≤ 2 * (1 + z_Row x) := by
  have h0 : sumL c1 (gl x 0) ≤ 1 * zS z0 (gl x 0) := by rw [sumL_c1, zS_z0]; omega
  have h1 : sumL c1 (gl x 1) ≤ 1 * zS z0 (gl x 1) := by rw [sumL_c1, zS_z0]; omega
  simp only [c_Row, z_Row]; omega
theorem ct_Row_cz (x : V) : ct_Row x ≤ 2 * z_Row x := by
  have h0 : sumL c1 (gl x 0) ≤ 1 * zS z0 (gl x 0) := by rw [sumL_c1, zS_z0]; omega
  have h1 : sumL c1 (gl x 1) ≤ 1 * zS z0 (gl x 1) := by rw [sumL_c1, zS_z0]; omega
  simp only [ct_Row, z_Row]; omega
def W_Tomb (x : V) : Prop := LW W_byte (gl x 0) ∧ I64 (gi x 1)
def z_Tomb (x : V) : Nat := zS z0 (gl x 0)
def c_Tomb (x : V) : Nat := sumL c1 (gl x 0) + 1
def ct_Tomb (x : V) : Nat := sumL c1 (gl x 0)
def M_Tomb (x : V) (k : Int) : Prop := MS c1 M_byte (gl x 0) (k) ∧ gi x 1 = k + ((sumL c1 (gl x 0) : Nat) : Int)
def cnv_Tomb (x : V) : V := V.agg [V.inl t_byte ((gl x 0).map cnv_byte), (V.int .i64 (gi x 1))]
theorem cnv_Tomb_W (x : V) (h : W_Tomb x) : W_Tomb (cnv_Tomb x) := ⟨LW.map (h := cnv_byte) cnv_byte_W (h.1), h.2⟩
theorem cnv_Tomb_z (x : V) : z_Tomb (cnv_Tomb x) = z_Tomb x := by
  simp only [z_Tomb, show gl (cnv_Tomb x) 0 = (gl x 0).map cnv_byte from rfl, zS_map (h := cnv_byte) cnv_byte_z (gl x 0)]
theorem cnv_Tomb_c (x : V) : c_Tomb (cnv_Tomb x) = c_Tomb x := by
  simp only [c_Tomb, show gl (cnv_Tomb x) 0 = (gl x 0).map cnv_byte from rfl, sumL_map (h := cnv_byte) cnv_byte_c (gl x 0)]
theorem cnv_Tomb_ct (x : V) : ct_Tomb (cnv_Tomb x) = ct_Tomb x := by
  simp only [ct_Tomb, show gl (cnv_Tomb x) 0 = (gl x 0).map cnv_byte from rfl, sumL_map (h := cnv_byte) cnv_byte_c (gl x 0)]
theorem c_Tomb_cz (x : V) : c_Tomb x ≤ 1 * (1 + z_Tomb x) := by
  have h0 : sumL c1 (gl x 0) ≤ 1 * zS z0 (gl x 0) := by rw [sumL_c1, zS_z0]; omega
  simp only [c_Tomb, z_Tomb]; omega
theorem ct_Tomb_cz (x : V) : ct_Tomb x ≤ 1 * z_Tomb x := by
  have h0 : sumL c1 (gl x 0) ≤ 1 * zS z0 (gl x 0) := by rw [sumL_c1, zS_z0]; omega
  simp only [ct_Tomb, z_Tomb]; omega
def W_Session (x : V) : Prop := I64 (gi x 0) ∧ True
def z_Session (x : V) : Nat := 0
def c_Session (x : V) : Nat := 1 + 1
def ct_Session (x : V) : Nat := 0
def M_Session (x : V) (k : Int) : Prop := gi x 0 = k ∧ gb x 1 = decide ((k + 1).tmod 3 = 0)
def cnv_Session (x : V) : V := V.agg [(V.int .i64 (gi x 0)), (V.bool (gb x 1))]
theorem cnv_Session_W (x : V) (h : W_Session x) : W_Session (cnv_Session x) := ⟨h.1, h.2⟩
theorem cnv_Session_z (x : V) : z_Session (cnv_Session x) = z_Session x := rfl
theorem cnv_Session_c (x : V) : c_Session (cnv_Session x) = c_Session x := rfl
theorem cnv_Session_ct (x : V) : ct_Session (cnv_Session x) = ct_Session x := rfl
theorem c_Session_cz (x : V) : c_Session x ≤ 2 * (1 + z_Session x) := by
  simp only [c_Session, z_Session]; omega
theorem ct_Session_cz (x : V) : ct_Session x ≤ 2 * z_Session x := by
  simp only [ct_Session, z_Session]; omega
def W_Last (x : V) : Prop := I64 (gi x 0) ∧ I64 (gi x 1) ∧ I64 (gi x 2) ∧ I64 (gi x 3)
def z_Last (x : V) : Nat := 0
def c_Last (x : V) : Nat := 1 + 1 + 1 + 1
def ct_Last (x : V) : Nat := 0
def M_Last (x : V) (k : Int) : Prop := gi x 0 = k ∧ gi x 1 = k + 1 ∧ gi x 2 = k + 1 + 1 ∧ gi x 3 = k + 1 + 1 + 1
def cnv_Last (x : V) : V := V.agg [(V.int .i64 (gi x 0)), (V.int .i64 (gi x 1)), (V.int .i64 (gi x 2)), (V.int .i64 (gi x 3))]
theorem cnv_Last_W (x : V) (h : W_Last x) : W_Last (cnv_Last x) := ⟨h.1, h.2.1, h.2.2.1, h.2.2.2⟩
theorem cnv_Last_z (x : V) : z_Last (cnv_Last x) = z_Last x := rfl
theorem cnv_Last_c (x : V) : c_Last (cnv_Last x) = c_Last x := rfl
theorem cnv_Last_ct (x : V) : ct_Last (cnv_Last x) = ct_Last x := rfl
theorem c_Last_cz (x : V) : c_Last x ≤ 4 * (1 + z_Last x) := by
  simp only [c_Last, z_Last]; omega
theorem ct_Last_cz (x : V) : ct_Last x ≤ 4 * z_Last x := by
  simp only [ct_Last, z_Last]; omega
def W_State (x : V) : Prop := I64 (gi x 0) ∧ LW W_Row (gl x 1) ∧ LW W_Tomb (gl x 2) ∧ I64 (gi x 3) ∧ LW W_Session (gl x 4) ∧ LW W_Last (gl x 5)
def z_State (x : V) : Nat := zS z_Row (gl x 1) + zS z_Tomb (gl x 2) + zS z_Session (gl x 4) + zS z_Last (gl x 5)
def c_State (x : V) : Nat := 1 + sumL c_Row (gl x 1) + sumL c_Tomb (gl x 2) + 1 + sumL c_Session (gl x 4) + sumL c_Last (gl x 5)
def ct_State (x : V) : Nat := sumL c_Row (gl x 1) + sumL c_Tomb (gl x 2) + sumL c_Session (gl x 4) + sumL c_Last (gl x 5)
def M_State (x : V) (k : Int) : Prop := gi x 0 = k ∧ MS c_Row M_Row (gl x 1) (k + 1) ∧ MS c_Tomb M_Tomb (gl x 2) (k + 1 + ((sumL c_Row (gl x 1) : Nat) : Int)) ∧ gi x 3 = k + 1 + ((sumL c_Row (gl x 1) : Nat) : Int) + ((sumL c_Tomb (gl x 2) : Nat) : Int) ∧ MS c_Session M_Session (gl x 4) (k + 1 + ((sumL c_Row (gl x 1) : Nat) : Int) + ((sumL c_Tomb (gl x 2) : Nat) : Int) + 1) ∧ MS c_Last M_Last (gl x 5) (k + 1 + ((sumL c_Row (gl x 1) : Nat) : Int) + ((sumL c_Tomb (gl x 2) : Nat) : Int) + 1 + ((sumL c_Session (gl x 4) : Nat) : Int))
def cnv_State (x : V) : V := V.agg [(V.int .i64 (gi x 0)), V.inl t_impl_Row ((gl x 1).map cnv_Row), V.inl t_impl_Tomb ((gl x 2).map cnv_Tomb), (V.int .i64 (gi x 3)), V.inl t_impl_Session ((gl x 4).map cnv_Session), V.inl t_impl_Last ((gl x 5).map cnv_Last)]
theorem cnv_State_W (x : V) (h : W_State x) : W_State (cnv_State x) := ⟨h.1, LW.map (h := cnv_Row) cnv_Row_W (h.2.1), LW.map (h := cnv_Tomb) cnv_Tomb_W (h.2.2.1), h.2.2.2.1, LW.map (h := cnv_Session) cnv_Session_W (h.2.2.2.2.1), LW.map (h := cnv_Last) cnv_Last_W (h.2.2.2.2.2)⟩
theorem cnv_State_z (x : V) : z_State (cnv_State x) = z_State x := by
  simp only [z_State, show gl (cnv_State x) 1 = (gl x 1).map cnv_Row from rfl, show gl (cnv_State x) 2 = (gl x 2).map cnv_Tomb from rfl, show gl (cnv_State x) 4 = (gl x 4).map cnv_Session from rfl, show gl (cnv_State x) 5 = (gl x 5).map cnv_Last from rfl, zS_map (h := cnv_Row) cnv_Row_z (gl x 1), zS_map (h := cnv_Tomb) cnv_Tomb_z (gl x 2), zS_map (h := cnv_Session) cnv_Session_z (gl x 4), zS_map (h := cnv_Last) cnv_Last_z (gl x 5)]
theorem cnv_State_c (x : V) : c_State (cnv_State x) = c_State x := by
  simp only [c_State, show gl (cnv_State x) 1 = (gl x 1).map cnv_Row from rfl, show gl (cnv_State x) 2 = (gl x 2).map cnv_Tomb from rfl, show gl (cnv_State x) 4 = (gl x 4).map cnv_Session from rfl, show gl (cnv_State x) 5 = (gl x 5).map cnv_Last from rfl, sumL_map (h := cnv_Row) cnv_Row_c (gl x 1), sumL_map (h := cnv_Tomb) cnv_Tomb_c (gl x 2), sumL_map (h := cnv_Session) cnv_Session_c (gl x 4), sumL_map (h := cnv_Last) cnv_Last_c (gl x 5)]
theorem cnv_State_ct (x : V) : ct_State (cnv_State x) = ct_State x := by
  simp only [ct_State, show gl (cnv_State x) 1 = (gl x 1).map cnv_Row from rfl, show gl (cnv_State x) 2 = (gl x 2).map cnv_Tomb from rfl, show gl (cnv_State x) 4 = (gl x 4).map cnv_Session from rfl, show gl (cnv_State x) 5 = (gl x 5).map cnv_Last from rfl, sumL_map (h := cnv_Row) cnv_Row_c (gl x 1), sumL_map (h := cnv_Tomb) cnv_Tomb_c (gl x 2), sumL_map (h := cnv_Session) cnv_Session_c (gl x 4), sumL_map (h := cnv_Last) cnv_Last_c (gl x 5)]
theorem c_State_cz (x : V) : c_State x ≤ 4 * (1 + z_State x) := by
  have h0 : sumL c_Row (gl x 1) ≤ 2 * zS z_Row (gl x 1) := sumL_mul 2 fun y _ => c_Row_cz y
  have h1 : sumL c_Tomb (gl x 2) ≤ 1 * zS z_Tomb (gl x 2) := sumL_mul 1 fun y _ => c_Tomb_cz y
  have h2 : sumL c_Session (gl x 4) ≤ 2 * zS z_Session (gl x 4) := sumL_mul 2 fun y _ => c_Session_cz y
  have h3 : sumL c_Last (gl x 5) ≤ 4 * zS z_Last (gl x 5) := sumL_mul 4 fun y _ => c_Last_cz y
  simp only [c_State, z_State]; omega
theorem ct_State_cz (x : V) : ct_State x ≤ 4 * z_State x := by
  have h0 : sumL c_Row (gl x 1) ≤ 2 * zS z_Row (gl x 1) := sumL_mul 2 fun y _ => c_Row_cz y
  have h1 : sumL c_Tomb (gl x 2) ≤ 1 * zS z_Tomb (gl x 2) := sumL_mul 1 fun y _ => c_Tomb_cz y
  have h2 : sumL c_Session (gl x 4) ≤ 2 * zS z_Session (gl x 4) := sumL_mul 2 fun y _ => c_Session_cz y
  have h3 : sumL c_Last (gl x 5) ≤ 4 * zS z_Last (gl x 5) := sumL_mul 4 fun y _ => c_Last_cz y
  simp only [ct_State, z_State]; omega
def W_Op (x : V) : Prop := I64 (gi x 0) ∧ LW W_byte (gl x 1) ∧ LW W_byte (gl x 2) ∧ I64 (gi x 3)
def z_Op (x : V) : Nat := zS z0 (gl x 1) + zS z0 (gl x 2)
def c_Op (x : V) : Nat := 1 + sumL c1 (gl x 1) + sumL c1 (gl x 2) + 1
def ct_Op (x : V) : Nat := sumL c1 (gl x 1) + sumL c1 (gl x 2)
def M_Op (x : V) (k : Int) : Prop := gi x 0 = k ∧ MS c1 M_byte (gl x 1) (k + 1) ∧ MS c1 M_byte (gl x 2) (k + 1 + ((sumL c1 (gl x 1) : Nat) : Int)) ∧ gi x 3 = k + 1 + ((sumL c1 (gl x 1) : Nat) : Int) + ((sumL c1 (gl x 2) : Nat) : Int)
def cnv_Op (x : V) : V := V.agg [(V.int .i64 (gi x 0)), V.inl t_byte ((gl x 1).map cnv_byte), V.inl t_byte ((gl x 2).map cnv_byte), (V.int .i64 (gi x 3))]
theorem cnv_Op_W (x : V) (h : W_Op x) : W_Op (cnv_Op x) := ⟨h.1, LW.map (h := cnv_byte) cnv_byte_W (h.2.1), LW.map (h := cnv_byte) cnv_byte_W (h.2.2.1), h.2.2.2⟩
theorem cnv_Op_z (x : V) : z_Op (cnv_Op x) = z_Op x := by
  simp only [z_Op, show gl (cnv_Op x) 1 = (gl x 1).map cnv_byte from rfl, show gl (cnv_Op x) 2 = (gl x 2).map cnv_byte from rfl, zS_map (h := cnv_byte) cnv_byte_z (gl x 1), zS_map (h := cnv_byte) cnv_byte_z (gl x 2)]
theorem cnv_Op_c (x : V) : c_Op (cnv_Op x) = c_Op x := by
  simp only [c_Op, show gl (cnv_Op x) 1 = (gl x 1).map cnv_byte from rfl, show gl (cnv_Op x) 2 = (gl x 2).map cnv_byte from rfl, sumL_map (h := cnv_byte) cnv_byte_c (gl x 1), sumL_map (h := cnv_byte) cnv_byte_c (gl x 2)]
theorem cnv_Op_ct (x : V) : ct_Op (cnv_Op x) = ct_Op x := by
  simp only [ct_Op, show gl (cnv_Op x) 1 = (gl x 1).map cnv_byte from rfl, show gl (cnv_Op x) 2 = (gl x 2).map cnv_byte from rfl, sumL_map (h := cnv_byte) cnv_byte_c (gl x 1), sumL_map (h := cnv_byte) cnv_byte_c (gl x 2)]
theorem c_Op_cz (x : V) : c_Op x ≤ 2 * (1 + z_Op x) := by
  have h0 : sumL c1 (gl x 1) ≤ 1 * zS z0 (gl x 1) := by rw [sumL_c1, zS_z0]; omega
  have h1 : sumL c1 (gl x 2) ≤ 1 * zS z0 (gl x 2) := by rw [sumL_c1, zS_z0]; omega
  simp only [c_Op, z_Op]; omega
theorem ct_Op_cz (x : V) : ct_Op x ≤ 2 * z_Op x := by
  have h0 : sumL c1 (gl x 1) ≤ 1 * zS z0 (gl x 1) := by rw [sumL_c1, zS_z0]; omega
  have h1 : sumL c1 (gl x 2) ≤ 1 * zS z0 (gl x 2) := by rw [sumL_c1, zS_z0]; omega
  simp only [ct_Op, z_Op]; omega
def W_Cmd (x : V) : Prop := I64 (gi x 0) ∧ I64 (gi x 1) ∧ I64 (gi x 2) ∧ LW W_byte (gl x 3) ∧ LW W_byte (gl x 4) ∧ I64 (gi x 5)
def z_Cmd (x : V) : Nat := zS z0 (gl x 3) + zS z0 (gl x 4)
def c_Cmd (x : V) : Nat := 1 + 1 + 1 + sumL c1 (gl x 3) + sumL c1 (gl x 4) + 1
def ct_Cmd (x : V) : Nat := sumL c1 (gl x 3) + sumL c1 (gl x 4)
def M_Cmd (x : V) (k : Int) : Prop := gi x 0 = k ∧ gi x 1 = k + 1 ∧ gi x 2 = k + 1 + 1 ∧ MS c1 M_byte (gl x 3) (k + 1 + 1 + 1) ∧ MS c1 M_byte (gl x 4) (k + 1 + 1 + 1 + ((sumL c1 (gl x 3) : Nat) : Int)) ∧ gi x 5 = k + 1 + 1 + 1 + ((sumL c1 (gl x 3) : Nat) : Int) + ((sumL c1 (gl x 4) : Nat) : Int)
def cnv_Cmd (x : V) : V := V.agg [(V.int .i64 (gi x 0)), (V.int .i64 (gi x 1)), (V.int .i64 (gi x 2)), V.inl t_byte ((gl x 3).map cnv_byte), V.inl t_byte ((gl x 4).map cnv_byte), (V.int .i64 (gi x 5))]
theorem cnv_Cmd_W (x : V) (h : W_Cmd x) : W_Cmd (cnv_Cmd x) := ⟨h.1, h.2.1, h.2.2.1, LW.map (h := cnv_byte) cnv_byte_W (h.2.2.2.1), LW.map (h := cnv_byte) cnv_byte_W (h.2.2.2.2.1), h.2.2.2.2.2⟩
theorem cnv_Cmd_z (x : V) : z_Cmd (cnv_Cmd x) = z_Cmd x := by
  simp only [z_Cmd, show gl (cnv_Cmd x) 3 = (gl x 3).map cnv_byte from rfl, show gl (cnv_Cmd x) 4 = (gl x 4).map cnv_byte from rfl, zS_map (h := cnv_byte) cnv_byte_z (gl x 3), zS_map (h := cnv_byte) cnv_byte_z (gl x 4)]
theorem cnv_Cmd_c (x : V) : c_Cmd (cnv_Cmd x) = c_Cmd x := by
  simp only [c_Cmd, show gl (cnv_Cmd x) 3 = (gl x 3).map cnv_byte from rfl, show gl (cnv_Cmd x) 4 = (gl x 4).map cnv_byte from rfl, sumL_map (h := cnv_byte) cnv_byte_c (gl x 3), sumL_map (h := cnv_byte) cnv_byte_c (gl x 4)]
theorem cnv_Cmd_ct (x : V) : ct_Cmd (cnv_Cmd x) = ct_Cmd x := by
  simp only [ct_Cmd, show gl (cnv_Cmd x) 3 = (gl x 3).map cnv_byte from rfl, show gl (cnv_Cmd x) 4 = (gl x 4).map cnv_byte from rfl, sumL_map (h := cnv_byte) cnv_byte_c (gl x 3), sumL_map (h := cnv_byte) cnv_byte_c (gl x 4)]
theorem c_Cmd_cz (x : V) : c_Cmd x ≤ 4 * (1 + z_Cmd x) := by
  have h0 : sumL c1 (gl x 3) ≤ 1 * zS z0 (gl x 3) := by rw [sumL_c1, zS_z0]; omega
  have h1 : sumL c1 (gl x 4) ≤ 1 * zS z0 (gl x 4) := by rw [sumL_c1, zS_z0]; omega
  simp only [c_Cmd, z_Cmd]; omega
theorem ct_Cmd_cz (x : V) : ct_Cmd x ≤ 4 * z_Cmd x := by
  have h0 : sumL c1 (gl x 3) ≤ 1 * zS z0 (gl x 3) := by rw [sumL_c1, zS_z0]; omega
  have h1 : sumL c1 (gl x 4) ≤ 1 * zS z0 (gl x 4) := by rw [sumL_c1, zS_z0]; omega
  simp only [ct_Cmd, z_Cmd]; omega
def W_Snap (x : V) : Prop := I64 (gi x 0) ∧ LW W_Row (gl x 1) ∧ LW W_Tomb (gl x 2) ∧ I64 (gi x 3) ∧ LW W_Session (gl x 4) ∧ LW W_Last (gl x 5) ∧ LW W_Cmd (gl x 6)
def z_Snap (x : V) : Nat := zS z_Row (gl x 1) + zS z_Tomb (gl x 2) + zS z_Session (gl x 4) + zS z_Last (gl x 5) + zS z_Cmd (gl x 6)
def c_Snap (x : V) : Nat := 1 + sumL c_Row (gl x 1) + sumL c_Tomb (gl x 2) + 1 + sumL c_Session (gl x 4) + sumL c_Last (gl x 5) + sumL c_Cmd (gl x 6)
def ct_Snap (x : V) : Nat := sumL c_Row (gl x 1) + sumL c_Tomb (gl x 2) + sumL c_Session (gl x 4) + sumL c_Last (gl x 5) + sumL c_Cmd (gl x 6)
def M_Snap (x : V) (k : Int) : Prop := gi x 0 = k ∧ MS c_Row M_Row (gl x 1) (k + 1) ∧ MS c_Tomb M_Tomb (gl x 2) (k + 1 + ((sumL c_Row (gl x 1) : Nat) : Int)) ∧ gi x 3 = k + 1 + ((sumL c_Row (gl x 1) : Nat) : Int) + ((sumL c_Tomb (gl x 2) : Nat) : Int) ∧ MS c_Session M_Session (gl x 4) (k + 1 + ((sumL c_Row (gl x 1) : Nat) : Int) + ((sumL c_Tomb (gl x 2) : Nat) : Int) + 1) ∧ MS c_Last M_Last (gl x 5) (k + 1 + ((sumL c_Row (gl x 1) : Nat) : Int) + ((sumL c_Tomb (gl x 2) : Nat) : Int) + 1 + ((sumL c_Session (gl x 4) : Nat) : Int)) ∧ MS c_Cmd M_Cmd (gl x 6) (k + 1 + ((sumL c_Row (gl x 1) : Nat) : Int) + ((sumL c_Tomb (gl x 2) : Nat) : Int) + 1 + ((sumL c_Session (gl x 4) : Nat) : Int) + ((sumL c_Last (gl x 5) : Nat) : Int))
def cnv_Snap (x : V) : V := V.agg [(V.int .i64 (gi x 0)), V.inl t_impl_Row ((gl x 1).map cnv_Row), V.inl t_impl_Tomb ((gl x 2).map cnv_Tomb), (V.int .i64 (gi x 3)), V.inl t_impl_Session ((gl x 4).map cnv_Session), V.inl t_impl_Last ((gl x 5).map cnv_Last), V.inl t_impl_Cmd ((gl x 6).map cnv_Cmd)]
theorem cnv_Snap_W (x : V) (h : W_Snap x) : W_Snap (cnv_Snap x) := ⟨h.1, LW.map (h := cnv_Row) cnv_Row_W (h.2.1), LW.map (h := cnv_Tomb) cnv_Tomb_W (h.2.2.1), h.2.2.2.1, LW.map (h := cnv_Session) cnv_Session_W (h.2.2.2.2.1), LW.map (h := cnv_Last) cnv_Last_W (h.2.2.2.2.2.1), LW.map (h := cnv_Cmd) cnv_Cmd_W (h.2.2.2.2.2.2)⟩
theorem cnv_Snap_z (x : V) : z_Snap (cnv_Snap x) = z_Snap x := by
  simp only [z_Snap, show gl (cnv_Snap x) 1 = (gl x 1).map cnv_Row from rfl, show gl (cnv_Snap x) 2 = (gl x 2).map cnv_Tomb from rfl, show gl (cnv_Snap x) 4 = (gl x 4).map cnv_Session from rfl, show gl (cnv_Snap x) 5 = (gl x 5).map cnv_Last from rfl, show gl (cnv_Snap x) 6 = (gl x 6).map cnv_Cmd from rfl, zS_map (h := cnv_Row) cnv_Row_z (gl x 1), zS_map (h := cnv_Tomb) cnv_Tomb_z (gl x 2), zS_map (h := cnv_Session) cnv_Session_z (gl x 4), zS_map (h := cnv_Last) cnv_Last_z (gl x 5), zS_map (h := cnv_Cmd) cnv_Cmd_z (gl x 6)]
theorem cnv_Snap_c (x : V) : c_Snap (cnv_Snap x) = c_Snap x := by
  simp only [c_Snap, show gl (cnv_Snap x) 1 = (gl x 1).map cnv_Row from rfl, show gl (cnv_Snap x) 2 = (gl x 2).map cnv_Tomb from rfl, show gl (cnv_Snap x) 4 = (gl x 4).map cnv_Session from rfl, show gl (cnv_Snap x) 5 = (gl x 5).map cnv_Last from rfl, show gl (cnv_Snap x) 6 = (gl x 6).map cnv_Cmd from rfl, sumL_map (h := cnv_Row) cnv_Row_c (gl x 1), sumL_map (h := cnv_Tomb) cnv_Tomb_c (gl x 2), sumL_map (h := cnv_Session) cnv_Session_c (gl x 4), sumL_map (h := cnv_Last) cnv_Last_c (gl x 5), sumL_map (h := cnv_Cmd) cnv_Cmd_c (gl x 6)]
theorem cnv_Snap_ct (x : V) : ct_Snap (cnv_Snap x) = ct_Snap x := by
  simp only [ct_Snap, show gl (cnv_Snap x) 1 = (gl x 1).map cnv_Row from rfl, show gl (cnv_Snap x) 2 = (gl x 2).map cnv_Tomb from rfl, show gl (cnv_Snap x) 4 = (gl x 4).map cnv_Session from rfl, show gl (cnv_Snap x) 5 = (gl x 5).map cnv_Last from rfl, show gl (cnv_Snap x) 6 = (gl x 6).map cnv_Cmd from rfl, sumL_map (h := cnv_Row) cnv_Row_c (gl x 1), sumL_map (h := cnv_Tomb) cnv_Tomb_c (gl x 2), sumL_map (h := cnv_Session) cnv_Session_c (gl x 4), sumL_map (h := cnv_Last) cnv_Last_c (gl x 5), sumL_map (h := cnv_Cmd) cnv_Cmd_c (gl x 6)]
theorem c_Snap_cz (x : V) : c_Snap x ≤ 4 * (1 + z_Snap x) := by
  have h0 : sumL c_Row (gl x 1) ≤ 2 * zS z_Row (gl x 1) := sumL_mul 2 fun y _ => c_Row_cz y
  have h1 : sumL c_Tomb (gl x 2) ≤ 1 * zS z_Tomb (gl x 2) := sumL_mul 1 fun y _ => c_Tomb_cz y
  have h2 : sumL c_Session (gl x 4) ≤ 2 * zS z_Session (gl x 4) := sumL_mul 2 fun y _ => c_Session_cz y
  have h3 : sumL c_Last (gl x 5) ≤ 4 * zS z_Last (gl x 5) := sumL_mul 4 fun y _ => c_Last_cz y
  have h4 : sumL c_Cmd (gl x 6) ≤ 4 * zS z_Cmd (gl x 6) := sumL_mul 4 fun y _ => c_Cmd_cz y
  simp only [c_Snap, z_Snap]; omega
theorem ct_Snap_cz (x : V) : ct_Snap x ≤ 4 * z_Snap x := by
  have h0 : sumL c_Row (gl x 1) ≤ 2 * zS z_Row (gl x 1) := sumL_mul 2 fun y _ => c_Row_cz y
  have h1 : sumL c_Tomb (gl x 2) ≤ 1 * zS z_Tomb (gl x 2) := sumL_mul 1 fun y _ => c_Tomb_cz y
  have h2 : sumL c_Session (gl x 4) ≤ 2 * zS z_Session (gl x 4) := sumL_mul 2 fun y _ => c_Session_cz y
  have h3 : sumL c_Last (gl x 5) ≤ 4 * zS z_Last (gl x 5) := sumL_mul 4 fun y _ => c_Last_cz y
  have h4 : sumL c_Cmd (gl x 6) ≤ 4 * zS z_Cmd (gl x 6) := sumL_mul 4 fun y _ => c_Cmd_cz y
  simp only [ct_Snap, z_Snap]; omega
def W_Timer (x : V) : Prop := I64 (gi x 0) ∧ I64 (gi x 1)
def z_Timer (x : V) : Nat := 0
def c_Timer (x : V) : Nat := 1 + 1
def ct_Timer (x : V) : Nat := 0
def M_Timer (x : V) (k : Int) : Prop := gi x 0 = k ∧ gi x 1 = k + 1
def cnv_Timer (x : V) : V := V.agg [(V.int .i64 (gi x 0)), (V.int .i64 (gi x 1))]
theorem cnv_Timer_W (x : V) (h : W_Timer x) : W_Timer (cnv_Timer x) := ⟨h.1, h.2⟩
theorem cnv_Timer_z (x : V) : z_Timer (cnv_Timer x) = z_Timer x := rfl
theorem cnv_Timer_c (x : V) : c_Timer (cnv_Timer x) = c_Timer x := rfl
theorem cnv_Timer_ct (x : V) : ct_Timer (cnv_Timer x) = ct_Timer x := rfl
theorem c_Timer_cz (x : V) : c_Timer x ≤ 2 * (1 + z_Timer x) := by
  simp only [c_Timer, z_Timer]; omega
theorem ct_Timer_cz (x : V) : ct_Timer x ≤ 2 * z_Timer x := by
  simp only [ct_Timer, z_Timer]; omega
def W_Wheel (x : V) : Prop := I64 (gi x 0) ∧ LW W_Timer (gl x 1)
def z_Wheel (x : V) : Nat := zS z_Timer (gl x 1)
def c_Wheel (x : V) : Nat := 1 + sumL c_Timer (gl x 1)
def ct_Wheel (x : V) : Nat := sumL c_Timer (gl x 1)
def M_Wheel (x : V) (k : Int) : Prop := gi x 0 = k ∧ MS c_Timer M_Timer (gl x 1) (k + 1)
def cnv_Wheel (x : V) : V := V.agg [(V.int .i64 (gi x 0)), V.inl t_impl_Timer ((gl x 1).map cnv_Timer)]
theorem cnv_Wheel_W (x : V) (h : W_Wheel x) : W_Wheel (cnv_Wheel x) := ⟨h.1, LW.map (h := cnv_Timer) cnv_Timer_W (h.2)⟩
theorem cnv_Wheel_z (x : V) : z_Wheel (cnv_Wheel x) = z_Wheel x := by
  simp only [z_Wheel, show gl (cnv_Wheel x) 1 = (gl x 1).map cnv_Timer from rfl, zS_map (h := cnv_Timer) cnv_Timer_z (gl x 1)]
theorem cnv_Wheel_c (x : V) : c_Wheel (cnv_Wheel x) = c_Wheel x := by
  simp only [c_Wheel, show gl (cnv_Wheel x) 1 = (gl x 1).map cnv_Timer from rfl, sumL_map (h := cnv_Timer) cnv_Timer_c (gl x 1)]
theorem cnv_Wheel_ct (x : V) : ct_Wheel (cnv_Wheel x) = ct_Wheel x := by
  simp only [ct_Wheel, show gl (cnv_Wheel x) 1 = (gl x 1).map cnv_Timer from rfl, sumL_map (h := cnv_Timer) cnv_Timer_c (gl x 1)]
theorem c_Wheel_cz (x : V) : c_Wheel x ≤ 2 * (1 + z_Wheel x) := by
  have h0 : sumL c_Timer (gl x 1) ≤ 2 * zS z_Timer (gl x 1) := sumL_mul 2 fun y _ => c_Timer_cz y
  simp only [c_Wheel, z_Wheel]; omega
theorem ct_Wheel_cz (x : V) : ct_Wheel x ≤ 2 * z_Wheel x := by
  have h0 : sumL c_Timer (gl x 1) ≤ 2 * zS z_Timer (gl x 1) := sumL_mul 2 fun y _ => c_Timer_cz y
  simp only [ct_Wheel, z_Wheel]; omega
def W_Duty (x : V) : Prop := I64 (gi x 0) ∧ I64 (gi x 1) ∧ LW W_Timer (gl x 2)
def z_Duty (x : V) : Nat := zS z_Timer (gl x 2)
def c_Duty (x : V) : Nat := 1 + 1 + sumL c_Timer (gl x 2)
def ct_Duty (x : V) : Nat := sumL c_Timer (gl x 2)
def M_Duty (x : V) (k : Int) : Prop := gi x 0 = k ∧ gi x 1 = k + 1 ∧ MS c_Timer M_Timer (gl x 2) (k + 1 + 1)
def cnv_Duty (x : V) : V := V.agg [(V.int .i64 (gi x 0)), (V.int .i64 (gi x 1)), V.inl t_impl_Timer ((gl x 2).map cnv_Timer)]
theorem cnv_Duty_W (x : V) (h : W_Duty x) : W_Duty (cnv_Duty x) := ⟨h.1, h.2.1, LW.map (h := cnv_Timer) cnv_Timer_W (h.2.2)⟩
theorem cnv_Duty_z (x : V) : z_Duty (cnv_Duty x) = z_Duty x := by
  simp only [z_Duty, show gl (cnv_Duty x) 2 = (gl x 2).map cnv_Timer from rfl, zS_map (h := cnv_Timer) cnv_Timer_z (gl x 2)]
theorem cnv_Duty_c (x : V) : c_Duty (cnv_Duty x) = c_Duty x := by
  simp only [c_Duty, show gl (cnv_Duty x) 2 = (gl x 2).map cnv_Timer from rfl, sumL_map (h := cnv_Timer) cnv_Timer_c (gl x 2)]
theorem cnv_Duty_ct (x : V) : ct_Duty (cnv_Duty x) = ct_Duty x := by
  simp only [ct_Duty, show gl (cnv_Duty x) 2 = (gl x 2).map cnv_Timer from rfl, sumL_map (h := cnv_Timer) cnv_Timer_c (gl x 2)]
theorem c_Duty_cz (x : V) : c_Duty x ≤ 2 * (1 + z_Duty x) := by
  have h0 : sumL c_Timer (gl x 2) ≤ 2 * zS z_Timer (gl x 2) := sumL_mul 2 fun y _ => c_Timer_cz y
  simp only [c_Duty, z_Duty]; omega
theorem ct_Duty_cz (x : V) : ct_Duty x ≤ 2 * z_Duty x := by
  have h0 : sumL c_Timer (gl x 2) ≤ 2 * zS z_Timer (gl x 2) := sumL_mul 2 fun y _ => c_Timer_cz y
  simp only [ct_Duty, z_Duty]; omega
def W_Fact (x : V) : Prop := I64 (gi x 0) ∧ I64 (gi x 1) ∧ I64 (gi x 2) ∧ I64 (gi x 3) ∧ LW W_byte (gl x 4) ∧ LW W_byte (gl x 5) ∧ I64 (gi x 6)
def z_Fact (x : V) : Nat := zS z0 (gl x 4) + zS z0 (gl x 5)
def c_Fact (x : V) : Nat := 1 + 1 + 1 + 1 + sumL c1 (gl x 4) + sumL c1 (gl x 5) + 1
def ct_Fact (x : V) : Nat := sumL c1 (gl x 4) + sumL c1 (gl x 5)
def M_Fact (x : V) (k : Int) : Prop := gi x 0 = k ∧ gi x 1 = k + 1 ∧ gi x 2 = k + 1 + 1 ∧ gi x 3 = k + 1 + 1 + 1 ∧ MS c1 M_byte (gl x 4) (k + 1 + 1 + 1 + 1) ∧ MS c1 M_byte (gl x 5) (k + 1 + 1 + 1 + 1 + ((sumL c1 (gl x 4) : Nat) : Int)) ∧ gi x 6 = k + 1 + 1 + 1 + 1 + ((sumL c1 (gl x 4) : Nat) : Int) + ((sumL c1 (gl x 5) : Nat) : Int)
def cnv_Fact (x : V) : V := V.agg [(V.int .i64 (gi x 0)), (V.int .i64 (gi x 1)), (V.int .i64 (gi x 2)), (V.int .i64 (gi x 3)), V.inl t_byte ((gl x 4).map cnv_byte), V.inl t_byte ((gl x 5).map cnv_byte), (V.int .i64 (gi x 6))]
theorem cnv_Fact_W (x : V) (h : W_Fact x) : W_Fact (cnv_Fact x) := ⟨h.1, h.2.1, h.2.2.1, h.2.2.2.1, LW.map (h := cnv_byte) cnv_byte_W (h.2.2.2.2.1), LW.map (h := cnv_byte) cnv_byte_W (h.2.2.2.2.2.1), h.2.2.2.2.2.2⟩
theorem cnv_Fact_z (x : V) : z_Fact (cnv_Fact x) = z_Fact x := by
  simp only [z_Fact, show gl (cnv_Fact x) 4 = (gl x 4).map cnv_byte from rfl, show gl (cnv_Fact x) 5 = (gl x 5).map cnv_byte from rfl, zS_map (h := cnv_byte) cnv_byte_z (gl x 4), zS_map (h := cnv_byte) cnv_byte_z (gl x 5)]
theorem cnv_Fact_c (x : V) : c_Fact (cnv_Fact x) = c_Fact x := by
  simp only [c_Fact, show gl (cnv_Fact x) 4 = (gl x 4).map cnv_byte from rfl, show gl (cnv_Fact x) 5 = (gl x 5).map cnv_byte from rfl, sumL_map (h := cnv_byte) cnv_byte_c (gl x 4), sumL_map (h := cnv_byte) cnv_byte_c (gl x 5)]
theorem cnv_Fact_ct (x : V) : ct_Fact (cnv_Fact x) = ct_Fact x := by
  simp only [ct_Fact, show gl (cnv_Fact x) 4 = (gl x 4).map cnv_byte from rfl, show gl (cnv_Fact x) 5 = (gl x 5).map cnv_byte from rfl, sumL_map (h := cnv_byte) cnv_byte_c (gl x 4), sumL_map (h := cnv_byte) cnv_byte_c (gl x 5)]
theorem c_Fact_cz (x : V) : c_Fact x ≤ 5 * (1 + z_Fact x) := by
  have h0 : sumL c1 (gl x 4) ≤ 1 * zS z0 (gl x 4) := by rw [sumL_c1, zS_z0]; omega
  have h1 : sumL c1 (gl x 5) ≤ 1 * zS z0 (gl x 5) := by rw [sumL_c1, zS_z0]; omega
  simp only [c_Fact, z_Fact]; omega
theorem ct_Fact_cz (x : V) : ct_Fact x ≤ 5 * z_Fact x := by
  have h0 : sumL c1 (gl x 4) ≤ 1 * zS z0 (gl x 4) := by rw [sumL_c1, zS_z0]; omega
  have h1 : sumL c1 (gl x 5) ≤ 1 * zS z0 (gl x 5) := by rw [sumL_c1, zS_z0]; omega
  simp only [ct_Fact, z_Fact]; omega
def W_Reply (x : V) : Prop := I64 (gi x 0) ∧ I64 (gi x 1)
def z_Reply (x : V) : Nat := 0
def c_Reply (x : V) : Nat := 1 + 1
def ct_Reply (x : V) : Nat := 0
def M_Reply (x : V) (k : Int) : Prop := gi x 0 = k ∧ gi x 1 = k + 1
def cnv_Reply (x : V) : V := V.agg [(V.int .i64 (gi x 0)), (V.int .i64 (gi x 1))]
theorem cnv_Reply_W (x : V) (h : W_Reply x) : W_Reply (cnv_Reply x) := ⟨h.1, h.2⟩
theorem cnv_Reply_z (x : V) : z_Reply (cnv_Reply x) = z_Reply x := rfl
theorem cnv_Reply_c (x : V) : c_Reply (cnv_Reply x) = c_Reply x := rfl
theorem cnv_Reply_ct (x : V) : ct_Reply (cnv_Reply x) = ct_Reply x := rfl
theorem c_Reply_cz (x : V) : c_Reply x ≤ 2 * (1 + z_Reply x) := by
  simp only [c_Reply, z_Reply]; omega
theorem ct_Reply_cz (x : V) : ct_Reply x ≤ 2 * z_Reply x := by
  simp only [ct_Reply, z_Reply]; omega
def W_Item (x : V) : Prop := I64 (gi x 0) ∧ I64 (gi x 1) ∧ I64 (gi x 2) ∧ I64 (gi x 3) ∧ LW W_byte (gl x 4) ∧ LW W_byte (gl x 5) ∧ I64 (gi x 6)
def z_Item (x : V) : Nat := zS z0 (gl x 4) + zS z0 (gl x 5)
def c_Item (x : V) : Nat := 1 + 1 + 1 + 1 + sumL c1 (gl x 4) + sumL c1 (gl x 5) + 1
def ct_Item (x : V) : Nat := sumL c1 (gl x 4) + sumL c1 (gl x 5)
def M_Item (x : V) (k : Int) : Prop := gi x 0 = k ∧ gi x 1 = k + 1 ∧ gi x 2 = k + 1 + 1 ∧ gi x 3 = k + 1 + 1 + 1 ∧ MS c1 M_byte (gl x 4) (k + 1 + 1 + 1 + 1) ∧ MS c1 M_byte (gl x 5) (k + 1 + 1 + 1 + 1 + ((sumL c1 (gl x 4) : Nat) : Int)) ∧ gi x 6 = k + 1 + 1 + 1 + 1 + ((sumL c1 (gl x 4) : Nat) : Int) + ((sumL c1 (gl x 5) : Nat) : Int)
def cnv_Item (x : V) : V := V.agg [(V.int .i64 (gi x 0)), (V.int .i64 (gi x 1)), (V.int .i64 (gi x 2)), (V.int .i64 (gi x 3)), V.inl t_byte ((gl x 4).map cnv_byte), V.inl t_byte ((gl x 5).map cnv_byte), (V.int .i64 (gi x 6))]
theorem cnv_Item_W (x : V) (h : W_Item x) : W_Item (cnv_Item x) := ⟨h.1, h.2.1, h.2.2.1, h.2.2.2.1, LW.map (h := cnv_byte) cnv_byte_W (h.2.2.2.2.1), LW.map (h := cnv_byte) cnv_byte_W (h.2.2.2.2.2.1), h.2.2.2.2.2.2⟩
theorem cnv_Item_z (x : V) : z_Item (cnv_Item x) = z_Item x := by
  simp only [z_Item, show gl (cnv_Item x) 4 = (gl x 4).map cnv_byte from rfl, show gl (cnv_Item x) 5 = (gl x 5).map cnv_byte from rfl, zS_map (h := cnv_byte) cnv_byte_z (gl x 4), zS_map (h := cnv_byte) cnv_byte_z (gl x 5)]
theorem cnv_Item_c (x : V) : c_Item (cnv_Item x) = c_Item x := by
  simp only [c_Item, show gl (cnv_Item x) 4 = (gl x 4).map cnv_byte from rfl, show gl (cnv_Item x) 5 = (gl x 5).map cnv_byte from rfl, sumL_map (h := cnv_byte) cnv_byte_c (gl x 4), sumL_map (h := cnv_byte) cnv_byte_c (gl x 5)]
theorem cnv_Item_ct (x : V) : ct_Item (cnv_Item x) = ct_Item x := by
  simp only [ct_Item, show gl (cnv_Item x) 4 = (gl x 4).map cnv_byte from rfl, show gl (cnv_Item x) 5 = (gl x 5).map cnv_byte from rfl, sumL_map (h := cnv_byte) cnv_byte_c (gl x 4), sumL_map (h := cnv_byte) cnv_byte_c (gl x 5)]
theorem c_Item_cz (x : V) : c_Item x ≤ 5 * (1 + z_Item x) := by
  have h0 : sumL c1 (gl x 4) ≤ 1 * zS z0 (gl x 4) := by rw [sumL_c1, zS_z0]; omega
  have h1 : sumL c1 (gl x 5) ≤ 1 * zS z0 (gl x 5) := by rw [sumL_c1, zS_z0]; omega
  simp only [c_Item, z_Item]; omega
theorem ct_Item_cz (x : V) : ct_Item x ≤ 5 * z_Item x := by
  have h0 : sumL c1 (gl x 4) ≤ 1 * zS z0 (gl x 4) := by rw [sumL_c1, zS_z0]; omega
  have h1 : sumL c1 (gl x 5) ≤ 1 * zS z0 (gl x 5) := by rw [sumL_c1, zS_z0]; omega
  simp only [ct_Item, z_Item]; omega
theorem laws_szTimerS_ok (a : List V) (left : Int) (ha : LW W_Timer a) (h0 : 0 ≤ left) (h1 : left ≤ 1048576) : ∃ r, laws_szTimerS a left = r ∧ (r < 0 ∨ (0 ≤ r ∧ r ≤ 1048576 ∧ r + ((zS z_Timer a : Nat) : Int) = left)) := by
  have hl := ha.1
  unfold laws_szTimerS
  rw [wr64' (by omega) (by omega)]
  by_cases h : left - ((a.length : Nat) : Int) < 0
  · exact ⟨-1, by simp [h], .inl (by omega)⟩
  · exact ⟨left - ((a.length : Nat) : Int), by simp [h], .inr ⟨by omega, by omega, by first | (rw [zS_z0]; omega) | (rw [show zS z_Timer a = zS z0 a from rfl, zS_z0]; omega)⟩⟩
theorem laws_szWheel_ok (x : V) (left : Int) (hx : W_Wheel x) (h0 : 0 ≤ left) (h1 : left ≤ 1048576) : ∃ r, laws_szWheel x left = r ∧ (r < 0 ∨ (0 ≤ r ∧ r ≤ 1048576 ∧ r + ((z_Wheel x : Nat) : Int) = left)) := by
  unfold laws_szWheel
  obtain ⟨r0, e0, q0⟩ := laws_szTimerS_ok (gl x 1) left hx.2 h0 h1
  simp only [e0]
  rcases q0 with q0 | ⟨a0, b0, s0⟩
  · exact ⟨-1, by simp only [show decide (r0 < 0) = true from by simp; omega, cond_true], .inl (by omega)⟩
  simp only [show decide (r0 < 0) = false from by simp; omega, cond_false]
  exact ⟨r0, rfl, .inr ⟨a0, b0, by simp only [z_Wheel]; omega⟩⟩
theorem laws_szDuty_ok (x : V) (left : Int) (hx : W_Duty x) (h0 : 0 ≤ left) (h1 : left ≤ 1048576) : ∃ r, laws_szDuty x left = r ∧ (r < 0 ∨ (0 ≤ r ∧ r ≤ 1048576 ∧ r + ((z_Duty x : Nat) : Int) = left)) := by
  unfold laws_szDuty
  obtain ⟨r0, e0, q0⟩ := laws_szWheel_ok (V.agg [(V.int .i64 (gi x 1)), (V.inl t_laws_Timer (gl x 2))]) left ⟨hx.2.1, hx.2.2⟩ h0 h1
  simp only [e0]
  rcases q0 with q0 | ⟨a0, b0, s0⟩
  · exact ⟨-1, by simp only [show decide (r0 < 0) = true from by simp; omega, cond_true], .inl (by omega)⟩
  simp only [show decide (r0 < 0) = false from by simp; omega, cond_false]
  have s0 : r0 + ((z_Wheel (V.agg [(V.int .i64 (gi x 1)), (V.inl t_laws_Timer (gl x 2))]) : Nat) : Int) = left := s0
  simp only [z_Wheel, gl_c0, gl_cs] at s0
  exact ⟨r0, rfl, .inr ⟨a0, b0, by simp only [z_Duty]; omega⟩⟩
theorem laws_szByteS_ok (a : List V) (left : Int) (ha : LW W_byte a) (h0 : 0 ≤ left) (h1 : left ≤ 1048576) : ∃ r, laws_szByteS a left = r ∧ (r < 0 ∨ (0 ≤ r ∧ r ≤ 1048576 ∧ r + ((zS z0 a : Nat) : Int) = left)) := by
  have hl := ha.1
  unfold laws_szByteS
  rw [wr64' (by omega) (by omega)]
  by_cases h : left - ((a.length : Nat) : Int) < 0
  · exact ⟨-1, by simp [h], .inl (by omega)⟩
  · exact ⟨left - ((a.length : Nat) : Int), by simp [h], .inr ⟨by omega, by omega, by first | (rw [zS_z0]; omega) | (rw [show zS z0 a = zS z0 a from rfl, zS_z0]; omega)⟩⟩
theorem laws_szRow_ok (x : V) (left : Int) (hx : W_Row x) (h0 : 0 ≤ left) (h1 : left ≤ 1048576) : ∃ r, laws_szRow x left = r ∧ (r < 0 ∨ (0 ≤ r ∧ r ≤ 1048576 ∧ r + ((z_Row x : Nat) : Int) = left)) := by
  unfold laws_szRow
  obtain ⟨r0, e0, q0⟩ := laws_szByteS_ok (gl x 0) left hx.1 h0 h1
  simp only [e0]
  rcases q0 with q0 | ⟨a0, b0, s0⟩
  · exact ⟨-1, by simp only [show decide (r0 < 0) = true from by simp; omega, cond_true], .inl (by omega)⟩
  simp only [show decide (r0 < 0) = false from by simp; omega, cond_false]
  obtain ⟨r1, e1, q1⟩ := laws_szByteS_ok (gl x 1) r0 hx.2.1 a0 b0
  simp only [e1]
  rcases q1 with q1 | ⟨a1, b1, s1⟩
  · exact ⟨-1, by simp only [show decide (r1 < 0) = true from by simp; omega, cond_true], .inl (by omega)⟩
  simp only [show decide (r1 < 0) = false from by simp; omega, cond_false]
  exact ⟨r1, rfl, .inr ⟨a1, b1, by simp only [z_Row]; omega⟩⟩
theorem laws_szRowS_ok (a : List V) (left : Int) (ha : LW W_Row a) (h0 : 0 ≤ left) (h1 : left ≤ 1048576) : ∃ r, laws_szRowS a left = some (r) ∧ (r < 0 ∨ (0 ≤ r ∧ r ≤ 1048576 ∧ r + ((zS z_Row a : Nat) : Int) = left)) := by
  have hl := ha.1
  unfold laws_szRowS
  rw [wr64' (by omega) (by omega)]
  by_cases h : left - ((a.length : Nat) : Int) < 0
  · exact ⟨-1, by simp [h], .inl (by omega)⟩
  rw [show decide (left - ((a.length : Nat) : Int) < 0) = false from by simp; omega, cond_false, fuel_eq]
  have key : (fun q : Option (Nat × Int × Int) => ∃ p, q = some p ∧ ((p.1 = 0 ∧ p.2.2 = -1) ∨ (p.1 = 1 ∧ 0 ≤ p.2.1 ∧ p.2.1 ≤ 1048576 ∧ p.2.1 + ((sumL z_Row a : Nat) : Int) = left - ((a.length : Nat) : Int)))) (laws_szRowS_l5 (a.length + 1) a (left - ((a.length : Nat) : Int)) 0) := by
    refine loop_run0 (F := fun m s i => laws_szRowS_l5 m a s i) (fun i s => 0 ≤ s ∧ s ≤ 1048576 ∧ s + ((sumL z_Row (a.take i) : Nat) : Int) = left - ((a.length : Nat) : Int)) (fun q : Option (Nat × Int × Int) => ∃ p, q = some p ∧ ((p.1 = 0 ∧ p.2.2 = -1) ∨ (p.1 = 1 ∧ 0 ≤ p.2.1 ∧ p.2.1 ≤ 1048576 ∧ p.2.1 + ((sumL z_Row a : Nat) : Int) = left - ((a.length : Nat) : Int)))) ?_ ?_ (s := left - ((a.length : Nat) : Int)) ⟨by omega, by omega, by simp [sumL]⟩
    · intro m i s hi hI
      obtain ⟨r, e, hr⟩ := laws_szRow_ok (n_laws_Row (rd a i)) s (ha.rd hi) hI.1 hI.2.1
      simp only [laws_szRowS_l5, lt_nat hi, idxOk_nat hi, Int.toNat_natCast, cond_true, e, wr_succ hi hl]
      rcases hr with hr | ⟨r1, r2, r3⟩
      · exact .inr ⟨_, by rw [show decide (r < 0) = true from by simp [hr], cond_true], .inl ⟨rfl, rfl⟩⟩
      · refine .inl ⟨r, by rw [show decide (r < 0) = false from by simp; omega, cond_false], r1, r2, ?_⟩
        rw [sum_take_succ _ hi]
        have r3 : r + ((z_Row (rd a i) : Nat) : Int) = s := r3
        omega
    · intro m s hI
      refine ⟨(1, s, 0), by simp only [laws_szRowS_l5, lt_self, cond_false], .inr ⟨rfl, hI.1, hI.2.1, ?_⟩⟩
      rw [List.take_length] at hI; exact hI.2.2
  obtain ⟨p, e, hp⟩ := key
  rw [e, Option.bind_some]
  rcases hp with ⟨p1, p2⟩ | ⟨p1, p2, p3, p4⟩
  · exact ⟨_, by rw [p1]; rfl, .inl (by omega)⟩
  · exact ⟨p.2.1, by rw [p1]; rfl, .inr ⟨p2, p3, by simp only [zS]; omega⟩⟩
theorem laws_szTomb_ok (x : V) (left : Int) (hx : W_Tomb x) (h0 : 0 ≤ left) (h1 : left ≤ 1048576) : ∃ r, laws_szTomb x left = r ∧ (r < 0 ∨ (0 ≤ r ∧ r ≤ 1048576 ∧ r + ((z_Tomb x : Nat) : Int) = left)) := by
  unfold laws_szTomb
  obtain ⟨r0, e0, q0⟩ := laws_szByteS_ok (gl x 0) left hx.1 h0 h1
  simp only [e0]
  rcases q0 with q0 | ⟨a0, b0, s0⟩
  · exact ⟨-1, by simp only [show decide (r0 < 0) = true from by simp; omega, cond_true], .inl (by omega)⟩
  simp only [show decide (r0 < 0) = false from by simp; omega, cond_false]
  exact ⟨r0, rfl, .inr ⟨a0, b0, by simp only [z_Tomb]; omega⟩⟩
theorem laws_szTombS_ok (a : List V) (left : Int) (ha : LW W_Tomb a) (h0 : 0 ≤ left) (h1 : left ≤ 1048576) : ∃ r, laws_szTombS a left = some (r) ∧ (r < 0 ∨ (0 ≤ r ∧ r ≤ 1048576 ∧ r + ((zS z_Tomb a : Nat) : Int) = left)) := by
  have hl := ha.1
  unfold laws_szTombS
  rw [wr64' (by omega) (by omega)]
  by_cases h : left - ((a.length : Nat) : Int) < 0
  · exact ⟨-1, by simp [h], .inl (by omega)⟩
  rw [show decide (left - ((a.length : Nat) : Int) < 0) = false from by simp; omega, cond_false, fuel_eq]
  have key : (fun q : Option (Nat × Int × Int) => ∃ p, q = some p ∧ ((p.1 = 0 ∧ p.2.2 = -1) ∨ (p.1 = 1 ∧ 0 ≤ p.2.1 ∧ p.2.1 ≤ 1048576 ∧ p.2.1 + ((sumL z_Tomb a : Nat) : Int) = left - ((a.length : Nat) : Int)))) (laws_szTombS_l5 (a.length + 1) a (left - ((a.length : Nat) : Int)) 0) := by
    refine loop_run0 (F := fun m s i => laws_szTombS_l5 m a s i) (fun i s => 0 ≤ s ∧ s ≤ 1048576 ∧ s + ((sumL z_Tomb (a.take i) : Nat) : Int) = left - ((a.length : Nat) : Int)) (fun q : Option (Nat × Int × Int) => ∃ p, q = some p ∧ ((p.1 = 0 ∧ p.2.2 = -1) ∨ (p.1 = 1 ∧ 0 ≤ p.2.1 ∧ p.2.1 ≤ 1048576 ∧ p.2.1 + ((sumL z_Tomb a : Nat) : Int) = left - ((a.length : Nat) : Int)))) ?_ ?_ (s := left - ((a.length : Nat) : Int)) ⟨by omega, by omega, by simp [sumL]⟩
    · intro m i s hi hI
      obtain ⟨r, e, hr⟩ := laws_szTomb_ok (n_laws_Tomb (rd a i)) s (ha.rd hi) hI.1 hI.2.1
      simp only [laws_szTombS_l5, lt_nat hi, idxOk_nat hi, Int.toNat_natCast, cond_true, e, wr_succ hi hl]
      rcases hr with hr | ⟨r1, r2, r3⟩
      · exact .inr ⟨_, by rw [show decide (r < 0) = true from by simp [hr], cond_true], .inl ⟨rfl, rfl⟩⟩
      · refine .inl ⟨r, by rw [show decide (r < 0) = false from by simp; omega, cond_false], r1, r2, ?_⟩
        rw [sum_take_succ _ hi]
        have r3 : r + ((z_Tomb (rd a i) : Nat) : Int) = s := r3
        omega
    · intro m s hI
      refine ⟨(1, s, 0), by simp only [laws_szTombS_l5, lt_self, cond_false], .inr ⟨rfl, hI.1, hI.2.1, ?_⟩⟩
      rw [List.take_length] at hI; exact hI.2.2
  obtain ⟨p, e, hp⟩ := key
  rw [e, Option.bind_some]
  rcases hp with ⟨p1, p2⟩ | ⟨p1, p2, p3, p4⟩
  · exact ⟨_, by rw [p1]; rfl, .inl (by omega)⟩
  · exact ⟨p.2.1, by rw [p1]; rfl, .inr ⟨p2, p3, by simp only [zS]; omega⟩⟩
theorem laws_szSessionS_ok (a : List V) (left : Int) (ha : LW W_Session a) (h0 : 0 ≤ left) (h1 : left ≤ 1048576) : ∃ r, laws_szSessionS a left = r ∧ (r < 0 ∨ (0 ≤ r ∧ r ≤ 1048576 ∧ r + ((zS z_Session a : Nat) : Int) = left)) := by
  have hl := ha.1
  unfold laws_szSessionS
  rw [wr64' (by omega) (by omega)]
  by_cases h : left - ((a.length : Nat) : Int) < 0
  · exact ⟨-1, by simp [h], .inl (by omega)⟩
  · exact ⟨left - ((a.length : Nat) : Int), by simp [h], .inr ⟨by omega, by omega, by first | (rw [zS_z0]; omega) | (rw [show zS z_Session a = zS z0 a from rfl, zS_z0]; omega)⟩⟩
theorem laws_szLastS_ok (a : List V) (left : Int) (ha : LW W_Last a) (h0 : 0 ≤ left) (h1 : left ≤ 1048576) : ∃ r, laws_szLastS a left = r ∧ (r < 0 ∨ (0 ≤ r ∧ r ≤ 1048576 ∧ r + ((zS z_Last a : Nat) : Int) = left)) := by
  have hl := ha.1
  unfold laws_szLastS
  rw [wr64' (by omega) (by omega)]
  by_cases h : left - ((a.length : Nat) : Int) < 0
  · exact ⟨-1, by simp [h], .inl (by omega)⟩
  · exact ⟨left - ((a.length : Nat) : Int), by simp [h], .inr ⟨by omega, by omega, by first | (rw [zS_z0]; omega) | (rw [show zS z_Last a = zS z0 a from rfl, zS_z0]; omega)⟩⟩
theorem laws_szState_ok (x : V) (left : Int) (hx : W_State x) (h0 : 0 ≤ left) (h1 : left ≤ 1048576) : ∃ r, laws_szState x left = some (r) ∧ (r < 0 ∨ (0 ≤ r ∧ r ≤ 1048576 ∧ r + ((z_State x : Nat) : Int) = left)) := by
  unfold laws_szState
  obtain ⟨r0, e0, q0⟩ := laws_szRowS_ok (gl x 1) left hx.2.1 h0 h1
  simp only [e0, Option.bind_some]
  rcases q0 with q0 | ⟨a0, b0, s0⟩
  · exact ⟨-1, by simp only [show decide (r0 < 0) = true from by simp; omega, cond_true], .inl (by omega)⟩
  simp only [show decide (r0 < 0) = false from by simp; omega, cond_false]
  obtain ⟨r1, e1, q1⟩ := laws_szTombS_ok (gl x 2) r0 hx.2.2.1 a0 b0
  simp only [e1, Option.bind_some]
  rcases q1 with q1 | ⟨a1, b1, s1⟩
  · exact ⟨-1, by simp only [show decide (r1 < 0) = true from by simp; omega, cond_true], .inl (by omega)⟩
  simp only [show decide (r1 < 0) = false from by simp; omega, cond_false]
  obtain ⟨r2, e2, q2⟩ := laws_szSessionS_ok (gl x 4) r1 hx.2.2.2.2.1 a1 b1
  simp only [e2]
  rcases q2 with q2 | ⟨a2, b2, s2⟩
  · exact ⟨-1, by simp only [show decide (r2 < 0) = true from by simp; omega, cond_true], .inl (by omega)⟩
  simp only [show decide (r2 < 0) = false from by simp; omega, cond_false]
  obtain ⟨r3, e3, q3⟩ := laws_szLastS_ok (gl x 5) r2 hx.2.2.2.2.2 a2 b2
  simp only [e3]
  rcases q3 with q3 | ⟨a3, b3, s3⟩
  · exact ⟨-1, by simp only [show decide (r3 < 0) = true from by simp; omega, cond_true], .inl (by omega)⟩
  simp only [show decide (r3 < 0) = false from by simp; omega, cond_false]
  exact ⟨r3, rfl, .inr ⟨a3, b3, by simp only [z_State]; omega⟩⟩
theorem laws_toTimer_ok (x : V) (hx : W_Timer x) (hz : z_Timer x ≤ 1048576) : laws_toTimer x = cnv_Timer x := by
  unfold laws_toTimer
  rfl
theorem laws_toTimerS_ok (a : List V) (ha : LW W_Timer a) (hz : zS z_Timer a ≤ 1048576) : laws_toTimerS a = some (a.map cnv_Timer) := by
  have hl := ha.1
  have hn : a.length ≤ 1048576 := by simp only [zS] at hz; omega
  unfold laws_toTimerS
  rw [fuel_eq, show (((a.length : Nat) : Int)).toNat = a.length from by omega, roomy_of (n := a.length) (by omega) hl]
  simp only [Int.natCast_nonneg, decide_true, Bool.and_self, cond_true]
  have hz' : ∀ i, i < a.length → z_Timer (rd a i) ≤ 1048576 := fun i hi => by
    have := sum_take_succ z_Timer hi
    have := sumL_take_le z_Timer a (i + 1)
    simp only [zS] at hz; omega
  rw [to_loop (F := fun m r i => laws_toTimerS_l3 m a i r) (f := cnv_Timer) ?_ ?_ (by simp)]
  · rfl
  · intro m i r hi hr
    have hr' : i < r.length := by omega
    have e := laws_toTimer_ok (n_impl_Reply (rd a i)) (ha.rd hi) (hz' i hi)
    simp only [laws_toTimerS_l3, lt_nat hi, idxOk_nat hi, idxOk_nat hr', Int.toNat_natCast, Nat.zero_add, cond_true, e, wr_succ hi hl]
    rfl
  · intro m r
    simp only [laws_toTimerS_l3, lt_self, cond_false]
theorem laws_toWheel_ok (x : V) (hx : W_Wheel x) (hz : z_Wheel x ≤ 1048576) : laws_toWheel x = some (cnv_Wheel x) := by
  simp only [z_Wheel] at hz
  unfold laws_toWheel
  rw [laws_toTimerS_ok (gl x 1) hx.2 (by omega)]
  simp only [Option.bind_some]
  rfl
theorem laws_toDuty_ok (x : V) (hx : W_Duty x) (hz : z_Duty x ≤ 1048576) : laws_toDuty x = some (cnv_Duty x) := by
  simp only [z_Duty] at hz
  unfold laws_toDuty
  rw [laws_toWheel_ok (V.agg [(V.int .i64 (gi x 1)), (V.inl t_laws_Timer (gl x 2))]) ⟨hx.2.1, hx.2.2⟩ (by simp only [z_Wheel, gl_c0, gl_cs]; omega)]
  simp only [Option.bind_some]
  rfl
theorem laws_toByteS_ok (a : List V) (ha : LW W_byte a) (hz : zS z0 a ≤ 1048576) : laws_toByteS a = some (a.map cnv_byte) := by
  have hl := ha.1
  have hn : a.length ≤ 1048576 := by simp only [zS] at hz; omega
  unfold laws_toByteS
  rw [fuel_eq, show (((a.length : Nat) : Int)).toNat = a.length from by omega, roomy_of (n := a.length) (by omega) hl]
  simp only [Int.natCast_nonneg, decide_true, Bool.and_self, cond_true]
  rw [to_loop (F := fun m r i => laws_toByteS_l3 m a i r) (f := cnv_byte) ?_ ?_ (by simp)]
  · rfl
  · intro m i r hi hr
    have hr' : i < r.length := by omega
    simp only [laws_toByteS_l3, lt_nat hi, idxOk_nat hi, idxOk_nat hr', Int.toNat_natCast, Nat.zero_add, cond_true, wr_succ hi hl]
    rfl
  · intro m r
    simp only [laws_toByteS_l3, lt_self, cond_false]
theorem laws_toRow_ok (x : V) (hx : W_Row x) (hz : z_Row x ≤ 1048576) : laws_toRow x = some (cnv_Row x) := by
  simp only [z_Row] at hz
  unfold laws_toRow
  rw [laws_toByteS_ok (gl x 0) hx.1 (by omega)]
  simp only [Option.bind_some]
  rw [laws_toByteS_ok (gl x 1) hx.2.1 (by omega)]
  simp only [Option.bind_some]
  rfl
theorem laws_toRowS_ok (a : List V) (ha : LW W_Row a) (hz : zS z_Row a ≤ 1048576) : laws_toRowS a = some (a.map cnv_Row) := by
  have hl := ha.1
  have hn : a.length ≤ 1048576 := by simp only [zS] at hz; omega
  unfold laws_toRowS
  rw [fuel_eq, show (((a.length : Nat) : Int)).toNat = a.length from by omega, roomy_of (n := a.length) (by omega) hl]
  simp only [Int.natCast_nonneg, decide_true, Bool.and_self, cond_true]
  have hz' : ∀ i, i < a.length → z_Row (rd a i) ≤ 1048576 := fun i hi => by
    have := sum_take_succ z_Row hi
    have := sumL_take_le z_Row a (i + 1)
    simp only [zS] at hz; omega
  rw [to_loop (F := fun m r i => laws_toRowS_l3 m a i r) (f := cnv_Row) ?_ ?_ (by simp)]
  · rfl
  · intro m i r hi hr
    have hr' : i < r.length := by omega
    have e := laws_toRow_ok (n_laws_Row (rd a i)) (ha.rd hi) (hz' i hi)
    simp only [laws_toRowS_l3, lt_nat hi, idxOk_nat hi, idxOk_nat hr', Int.toNat_natCast, Nat.zero_add, cond_true, e, Option.bind_some, wr_succ hi hl]
    rfl
  · intro m r
    simp only [laws_toRowS_l3, lt_self, cond_false]
theorem laws_toTomb_ok (x : V) (hx : W_Tomb x) (hz : z_Tomb x ≤ 1048576) : laws_toTomb x = some (cnv_Tomb x) := by
  simp only [z_Tomb] at hz
  unfold laws_toTomb
  rw [laws_toByteS_ok (gl x 0) hx.1 (by omega)]
  simp only [Option.bind_some]
  rfl
theorem laws_toTombS_ok (a : List V) (ha : LW W_Tomb a) (hz : zS z_Tomb a ≤ 1048576) : laws_toTombS a = some (a.map cnv_Tomb) := by
  have hl := ha.1
  have hn : a.length ≤ 1048576 := by simp only [zS] at hz; omega
  unfold laws_toTombS
  rw [fuel_eq, show (((a.length : Nat) : Int)).toNat = a.length from by omega, roomy_of (n := a.length) (by omega) hl]
  simp only [Int.natCast_nonneg, decide_true, Bool.and_self, cond_true]
  have hz' : ∀ i, i < a.length → z_Tomb (rd a i) ≤ 1048576 := fun i hi => by
    have := sum_take_succ z_Tomb hi
    have := sumL_take_le z_Tomb a (i + 1)
    simp only [zS] at hz; omega
  rw [to_loop (F := fun m r i => laws_toTombS_l3 m a i r) (f := cnv_Tomb) ?_ ?_ (by simp)]
  · rfl
  · intro m i r hi hr
    have hr' : i < r.length := by omega
    have e := laws_toTomb_ok (n_laws_Tomb (rd a i)) (ha.rd hi) (hz' i hi)
    simp only [laws_toTombS_l3, lt_nat hi, idxOk_nat hi, idxOk_nat hr', Int.toNat_natCast, Nat.zero_add, cond_true, e, Option.bind_some, wr_succ hi hl]
    rfl
  · intro m r
    simp only [laws_toTombS_l3, lt_self, cond_false]
theorem laws_toSession_ok (x : V) (hx : W_Session x) (hz : z_Session x ≤ 1048576) : laws_toSession x = cnv_Session x := by
  unfold laws_toSession
  rfl
theorem laws_toSessionS_ok (a : List V) (ha : LW W_Session a) (hz : zS z_Session a ≤ 1048576) : laws_toSessionS a = some (a.map cnv_Session) := by
  have hl := ha.1
  have hn : a.length ≤ 1048576 := by simp only [zS] at hz; omega
  unfold laws_toSessionS
  rw [fuel_eq, show (((a.length : Nat) : Int)).toNat = a.length from by omega, roomy_of (n := a.length) (by omega) hl]
  simp only [Int.natCast_nonneg, decide_true, Bool.and_self, cond_true]
  have hz' : ∀ i, i < a.length → z_Session (rd a i) ≤ 1048576 := fun i hi => by
    have := sum_take_succ z_Session hi
    have := sumL_take_le z_Session a (i + 1)
    simp only [zS] at hz; omega
  rw [to_loop (F := fun m r i => laws_toSessionS_l3 m a i r) (f := cnv_Session) ?_ ?_ (by simp)]
  · rfl
  · intro m i r hi hr
    have hr' : i < r.length := by omega
    have e := laws_toSession_ok (n_impl_Session (rd a i)) (ha.rd hi) (hz' i hi)
    simp only [laws_toSessionS_l3, lt_nat hi, idxOk_nat hi, idxOk_nat hr', Int.toNat_natCast, Nat.zero_add, cond_true, e, wr_succ hi hl]
    rfl
  · intro m r
    simp only [laws_toSessionS_l3, lt_self, cond_false]
theorem laws_toReply_ok (x : V) (hx : W_Reply x) (hz : z_Reply x ≤ 1048576) : laws_toReply x = cnv_Reply x := by
  unfold laws_toReply
  rfl
theorem laws_toLast_ok (x : V) (hx : W_Last x) (hz : z_Last x ≤ 1048576) : laws_toLast x = cnv_Last x := by
  unfold laws_toLast
  rfl
theorem laws_toLastS_ok (a : List V) (ha : LW W_Last a) (hz : zS z_Last a ≤ 1048576) : laws_toLastS a = some (a.map cnv_Last) := by
  have hl := ha.1
  have hn : a.length ≤ 1048576 := by simp only [zS] at hz; omega
  unfold laws_toLastS
  rw [fuel_eq, show (((a.length : Nat) : Int)).toNat = a.length from by omega, roomy_of (n := a.length) (by omega) hl]
  simp only [Int.natCast_nonneg, decide_true, Bool.and_self, cond_true]
  have hz' : ∀ i, i < a.length → z_Last (rd a i) ≤ 1048576 := fun i hi => by
    have := sum_take_succ z_Last hi
    have := sumL_take_le z_Last a (i + 1)
    simp only [zS] at hz; omega
  rw [to_loop (F := fun m r i => laws_toLastS_l3 m a i r) (f := cnv_Last) ?_ ?_ (by simp)]
  · rfl
  · intro m i r hi hr
    have hr' : i < r.length := by omega
    have e := laws_toLast_ok (n_impl_Last (rd a i)) (ha.rd hi) (hz' i hi)
    simp only [laws_toLastS_l3, lt_nat hi, idxOk_nat hi, idxOk_nat hr', Int.toNat_natCast, Nat.zero_add, cond_true, e, wr_succ hi hl]
    rfl
  · intro m r
    simp only [laws_toLastS_l3, lt_self, cond_false]
theorem laws_toState_ok (x : V) (hx : W_State x) (hz : z_State x ≤ 1048576) : laws_toState x = some (cnv_State x) := by
  simp only [z_State] at hz
  unfold laws_toState
  rw [laws_toRowS_ok (gl x 1) hx.2.1 (by omega)]
  simp only [Option.bind_some]
  rw [laws_toTombS_ok (gl x 2) hx.2.2.1 (by omega)]
  simp only [Option.bind_some]
  rw [laws_toSessionS_ok (gl x 4) hx.2.2.2.2.1 (by omega)]
  simp only [Option.bind_some]
  rw [laws_toLastS_ok (gl x 5) hx.2.2.2.2.2 (by omega)]
  simp only [Option.bind_some]
  rfl
theorem laws_eqTimer_ok (x : V) (hx : W_Timer x) : laws_eqTimer x x = true := by
  unfold laws_eqTimer
  simp only [decide_true, Bool.not_true, cond_false]
theorem laws_eqTimerS_ok (a : List V) (ha : LW W_Timer a) : laws_eqTimerS a a = some (true) := by
  have hl := ha.1
  unfold laws_eqTimerS
  simp only [decide_true, Bool.not_true, cond_false]
  rw [fuel_eq]
  rw [skip_loop (F := fun m i => laws_eqTimerS_l4 m a a i) (n := a.length) (out := some (1, false)) ?_ ?_]
  · rfl
  · intro m i hi
    have e := laws_eqTimer_ok (n_impl_Reply (rd a i)) (ha.rd hi)
    simp only [laws_eqTimerS_l4, lt_nat hi, idxOk_nat hi, Int.toNat_natCast, cond_true, e, wr_succ hi hl, Bool.not_true, cond_false]
  · intro m
    simp only [laws_eqTimerS_l4, lt_self, cond_false]
theorem laws_eqWheel_ok (x : V) (hx : W_Wheel x) : laws_eqWheel x x = some (true) := by
  unfold laws_eqWheel
  simp only [decide_true, Bool.not_true, cond_false, Option.bind_some, laws_eqTimerS_ok (gl x 1) hx.2]
theorem laws_eqDuty_ok (x : V) (hx : W_Duty x) : laws_eqDuty x x = some (true) := by
  unfold laws_eqDuty
  simp only [decide_true, Bool.not_true, cond_false, Option.bind_some, laws_eqWheel_ok (V.agg [(V.int .i64 (gi x 1)), (V.inl t_impl_Timer (gl x 2))]) ⟨hx.2.1, hx.2.2⟩]
theorem laws_eqByteS_ok (a : List V) (ha : LW W_byte a) : laws_eqByteS a a = some (true) := by
  have hl := ha.1
  unfold laws_eqByteS
  simp only [decide_true, Bool.not_true, cond_false]
  rw [fuel_eq]
  rw [skip_loop (F := fun m i => laws_eqByteS_l4 m a a i) (n := a.length) (out := some (1, false)) ?_ ?_]
  · rfl
  · intro m i hi
    simp only [laws_eqByteS_l4, lt_nat hi, idxOk_nat hi, Int.toNat_natCast, cond_true, wr_succ hi hl, decide_true, Bool.not_true, cond_false]
  · intro m
    simp only [laws_eqByteS_l4, lt_self, cond_false]
theorem laws_eqRow_ok (x : V) (hx : W_Row x) : laws_eqRow x x = some (true) := by
  unfold laws_eqRow
  simp only [decide_true, Bool.not_true, cond_false, Option.bind_some, laws_eqByteS_ok (gl x 0) hx.1, laws_eqByteS_ok (gl x 1) hx.2.1]
theorem laws_eqRowS_ok (a : List V) (ha : LW W_Row a) : laws_eqRowS a a = some (true) := by
  have hl := ha.1
  unfold laws_eqRowS
  simp only [decide_true, Bool.not_true, cond_false]
  rw [fuel_eq]
  rw [skip_loop (F := fun m i => laws_eqRowS_l4 m a a i) (n := a.length) (out := some (1, false)) ?_ ?_]
  · rfl
  · intro m i hi
    have e := laws_eqRow_ok (n_laws_Row (rd a i)) (ha.rd hi)
    simp only [laws_eqRowS_l4, lt_nat hi, idxOk_nat hi, Int.toNat_natCast, cond_true, e, Option.bind_some, wr_succ hi hl, Bool.not_true, cond_false]
  · intro m
    simp only [laws_eqRowS_l4, lt_self, cond_false]
theorem laws_eqTomb_ok (x : V) (hx : W_Tomb x) : laws_eqTomb x x = some (true) := by
  unfold laws_eqTomb
  simp only [decide_true, Bool.not_true, cond_false, Option.bind_some, laws_eqByteS_ok (gl x 0) hx.1]
theorem laws_eqTombS_ok (a : List V) (ha : LW W_Tomb a) : laws_eqTombS a a = some (true) := by
  have hl := ha.1
  unfold laws_eqTombS
  simp only [decide_true, Bool.not_true, cond_false]
  rw [fuel_eq]
  rw [skip_loop (F := fun m i => laws_eqTombS_l4 m a a i) (n := a.length) (out := some (1, false)) ?_ ?_]
  · rfl
  · intro m i hi
    have e := laws_eqTomb_ok (n_laws_Tomb (rd a i)) (ha.rd hi)
    simp only [laws_eqTombS_l4, lt_nat hi, idxOk_nat hi, Int.toNat_natCast, cond_true, e, Option.bind_some, wr_succ hi hl, Bool.not_true, cond_false]
  · intro m
    simp only [laws_eqTombS_l4, lt_self, cond_false]
theorem laws_eqSession_ok (x : V) (hx : W_Session x) : laws_eqSession x x = true := by
  unfold laws_eqSession
  simp only [decide_true, beq_self_eq_true, Bool.not_true, cond_false]
theorem laws_eqSessionS_ok (a : List V) (ha : LW W_Session a) : laws_eqSessionS a a = some (true) := by
  have hl := ha.1
  unfold laws_eqSessionS
  simp only [decide_true, Bool.not_true, cond_false]
  rw [fuel_eq]
  rw [skip_loop (F := fun m i => laws_eqSessionS_l4 m a a i) (n := a.length) (out := some (1, false)) ?_ ?_]
  · rfl
  · intro m i hi
    have e := laws_eqSession_ok (n_impl_Session (rd a i)) (ha.rd hi)
    simp only [laws_eqSessionS_l4, lt_nat hi, idxOk_nat hi, Int.toNat_natCast, cond_true, e, wr_succ hi hl, Bool.not_true, cond_false]
  · intro m
    simp only [laws_eqSessionS_l4, lt_self, cond_false]
theorem laws_eqReply_ok (x : V) (hx : W_Reply x) : laws_eqReply x x = true := by
  unfold laws_eqReply
  simp only [decide_true, Bool.not_true, cond_false]
theorem laws_eqLast_ok (x : V) (hx : W_Last x) : laws_eqLast x x = true := by
  unfold laws_eqLast
  simp only [decide_true, Bool.not_true, cond_false, laws_eqReply_ok (V.agg [(V.int .i64 (gi x 2)), (V.int .i64 (gi x 3))]) ⟨hx.2.2.1, hx.2.2.2⟩]
theorem laws_eqLastS_ok (a : List V) (ha : LW W_Last a) : laws_eqLastS a a = some (true) := by
  have hl := ha.1
  unfold laws_eqLastS
  simp only [decide_true, Bool.not_true, cond_false]
  rw [fuel_eq]
  rw [skip_loop (F := fun m i => laws_eqLastS_l4 m a a i) (n := a.length) (out := some (1, false)) ?_ ?_]
  · rfl
  · intro m i hi
    have e := laws_eqLast_ok (n_impl_Last (rd a i)) (ha.rd hi)
    simp only [laws_eqLastS_l4, lt_nat hi, idxOk_nat hi, Int.toNat_natCast, cond_true, e, wr_succ hi hl, Bool.not_true, cond_false]
  · intro m
    simp only [laws_eqLastS_l4, lt_self, cond_false]
theorem laws_eqState_ok (x : V) (hx : W_State x) : laws_eqState x x = some (true) := by
  unfold laws_eqState
  simp only [decide_true, Bool.not_true, cond_false, Option.bind_some, laws_eqRowS_ok (gl x 1) hx.2.1, laws_eqTombS_ok (gl x 2) hx.2.2.1, laws_eqSessionS_ok (gl x 4) hx.2.2.2.2.1, laws_eqLastS_ok (gl x 5) hx.2.2.2.2.2]
theorem laws_markTimerS_ok (a : List V) (k : Int) (ha : LW W_Timer a) (hk : 0 ≤ k) (hs : k + ((sumL c_Timer a : Nat) : Int) ≤ 9223372036854775807) : ∃ b, laws_markTimerS a k = some (k + ((sumL c_Timer a : Nat) : Int), b) ∧ MS c_Timer M_Timer b k ∧ sumL c_Timer b = sumL c_Timer a := by
  have hl := ha.1
  unfold laws_markTimerS
  rw [fuel_eq]
  obtain ⟨b, e1, e2, e3, e4⟩ := mark_loop (F := fun m k i r => laws_markTimerS_l2 m k i r) (c := c_Timer) (M := M_Timer) (w := W_Timer) (by
    intro x k hx hk hs
    simp only [c_Timer] at hs
    refine ⟨V.agg [V.int .i64 (k), V.int .i64 (k + 1)], ?_, ?_, fun m pre rest hlen => ?_⟩
    · simp only [M_Timer, gi_c0, gi_cs, and_true]
    · simp only [c_Timer]
    · have hi : pre.length < (pre ++ x :: rest).length := by simp
      simp (disch := omega) only [laws_markTimerS_l2, rlet, lt_mid, idxOk_mid, Int.toNat_natCast, Nat.zero_add, set_mid, rd_mid, gi_c0, cond_true, wr_succ hi hlen, wr64']
      congr 1
      simp only [c_Timer]; omega)
    (by intro m k pre; simp only [laws_markTimerS_l2, lt_self, cond_false]) a (a.length + 1) k [] (by omega) (by simpa using hl) ha.2 hk hs
  simp only [List.nil_append, List.length_nil, Int.natCast_zero] at e4
  rw [e4]
  exact ⟨b, rfl, ⟨by omega, e3⟩, e2⟩
theorem laws_markWheel_ok (x : V) (k : Int) (hx : W_Wheel x) (hk : 0 ≤ k) (hs : k + ((ct_Wheel x : Nat) : Int) ≤ 9223372036854775807) : ∃ b0, laws_markWheel x k = some (k + ((ct_Wheel x : Nat) : Int), b0) ∧ MS c_Timer M_Timer b0 (k) ∧ sumL c_Timer b0 = sumL c_Timer (gl x 1) := by
  simp only [ct_Wheel] at hs ⊢
  unfold laws_markWheel
  obtain ⟨b0, f0, g0, s0⟩ := laws_markTimerS_ok (gl x 1) (k) hx.2 (by omega) (by omega)
  simp only [f0, Option.bind_some]
  refine ⟨b0, ?_, ?_, s0⟩
  · first | rfl | (congr 2; omega)
  · first | exact g0 | (refine cast (congrArg _ ?_) g0; omega)
theorem laws_markDuty_ok (x : V) (k : Int) (hx : W_Duty x) (hk : 0 ≤ k) (hs : k + ((ct_Duty x : Nat) : Int) ≤ 9223372036854775807) : ∃ b0, laws_markDuty x k = some (k + ((ct_Duty x : Nat) : Int), b0) ∧ MS c_Timer M_Timer b0 (k) ∧ sumL c_Timer b0 = sumL c_Timer (gl x 2) := by
  simp only [ct_Duty] at hs ⊢
  unfold laws_markDuty
  obtain ⟨b0, f0, g0, s0⟩ := laws_markWheel_ok (V.agg [(V.int .i64 (gi x 1)), (V.inl t_impl_Timer (gl x 2))]) (k) ⟨hx.2.1, hx.2.2⟩ (by omega) (by simp only [ct_Wheel, gl_c0, gl_cs]; omega)
  simp only [ct_Wheel, gl_c0, gl_cs] at f0 g0 s0
  simp only [f0, Option.bind_some]
  refine ⟨b0, ?_, ?_, s0⟩
  · first | rfl | (congr 2; omega)
  · first | exact g0 | (refine cast (congrArg _ ?_) g0; omega)
theorem laws_markByteS_ok (a : List V) (k : Int) (ha : LW W_byte a) (hk : 0 ≤ k) (hs : k + ((sumL c1 a : Nat) : Int) ≤ 9223372036854775807) : ∃ b, laws_markByteS a k = some (k + ((sumL c1 a : Nat) : Int), b) ∧ MS c1 M_byte b k ∧ sumL c1 b = sumL c1 a := by
  have hl := ha.1
  unfold laws_markByteS
  rw [fuel_eq]
  obtain ⟨b, e1, e2, e3, e4⟩ := mark_loop (F := fun m k i r => laws_markByteS_l2 m k i r) (c := c1) (M := M_byte) (w := W_byte) (by
    intro x k hx hk hs
    simp only [c1] at hs
    refine ⟨V.int .u8 (IntKind.u8.wrap k), rfl, rfl, fun m pre rest hlen => ?_⟩
    have hi : pre.length < (pre ++ x :: rest).length := by simp
    simp only [laws_markByteS_l2, lt_mid, idxOk_mid, Int.toNat_natCast, Nat.zero_add, set_mid, cond_true, wr_succ hi hlen]
    rw [wr64' (by omega) (by omega)]
    rfl)
    (by intro m k pre; simp only [laws_markByteS_l2, lt_self, cond_false]) a (a.length + 1) k [] (by omega) (by simpa using hl) ha.2 hk hs
  simp only [List.nil_append, List.length_nil, Int.natCast_zero] at e4
  rw [e4]
  exact ⟨b, rfl, ⟨by omega, e3⟩, e2⟩
theorem laws_markRowS_ok (a : List V) (k : Int) (ha : LW W_Row a) (hk : 0 ≤ k) (hs : k + ((sumL c_Row a : Nat) : Int) ≤ 9223372036854775807) : ∃ b, laws_markRowS a k = some (k + ((sumL c_Row a : Nat) : Int), b) ∧ MS c_Row M_Row b k ∧ sumL c_Row b = sumL c_Row a := by
  have hl := ha.1
  unfold laws_markRowS
  rw [fuel_eq]
  obtain ⟨b, e1, e2, e3, e4⟩ := mark_loop (F := fun m k i r => laws_markRowS_l2 m k i r) (c := c_Row) (M := M_Row) (w := W_Row) (by
    intro x k hx hk hs
    simp only [c_Row] at hs
    obtain ⟨b0, f0, g0, s0⟩ := laws_markByteS_ok (gl x 0) (k) (hx.1) (by omega) (by omega)
    obtain ⟨b1, f1, g1, s1⟩ := laws_markByteS_ok (gl x 1) (k + ((sumL c1 (gl x 0) : Nat) : Int)) (hx.2.1) (by omega) (by omega)
    refine ⟨V.agg [V.inl t_byte b0, V.inl t_byte b1, V.int .i64 (k + ((sumL c1 (gl x 0) : Nat) : Int) + ((sumL c1 (gl x 1) : Nat) : Int)), V.int .i64 (k + ((sumL c1 (gl x 0) : Nat) : Int) + ((sumL c1 (gl x 1) : Nat) : Int) + 1)], ?_, ?_, fun m pre rest hlen => ?_⟩
    · simp only [M_Row, gl_c0, gl_cs, gi_c0, gi_cs, and_true, s0, s1]
      exact ⟨g0, g1⟩
    · simp only [c_Row, gl_c0, gl_cs, s0, s1]
    · have hi : pre.length < (pre ++ x :: rest).length := by simp
      simp (disch := omega) only [laws_markRowS_l2, rlet, lt_mid, idxOk_mid, Int.toNat_natCast, Nat.zero_add, set_mid, rd_mid, gi_c0, gi_cs, gl_c0, gl_cs, cond_true, wr_succ hi hlen, wr64', Option.bind_some, f0, f1]
      congr 1
      simp only [c_Row]; omega)
    (by intro m k pre; simp only [laws_markRowS_l2, lt_self, cond_false]) a (a.length + 1) k [] (by omega) (by simpa using hl) ha.2 hk hs
  simp only [List.nil_append, List.length_nil, Int.natCast_zero] at e4
  rw [e4]
  exact ⟨b, rfl, ⟨by omega, e3⟩, e2⟩
theorem laws_markTombS_ok (a : List V) (k : Int) (ha : LW W_Tomb a) (hk : 0 ≤ k) (hs : k + ((sumL c_Tomb a : Nat) : Int) ≤ 9223372036854775807) : ∃ b, laws_markTombS a k = some (k + ((sumL c_Tomb a : Nat) : Int), b) ∧ MS c_Tomb M_Tomb b k ∧ sumL c_Tomb b = sumL c_Tomb a := by
  have hl := ha.1
  unfold laws_markTombS
  rw [fuel_eq]
  obtain ⟨b, e1, e2, e3, e4⟩ := mark_loop (F := fun m k i r => laws_markTombS_l2 m k i r) (c := c_Tomb) (M := M_Tomb) (w := W_Tomb) (by
    intro x k hx hk hs
    simp only [c_Tomb] at hs
    obtain ⟨b0, f0, g0, s0⟩ := laws_markByteS_ok (gl x 0) (k) (hx.1) (by omega) (by omega)
    refine ⟨V.agg [V.inl t_byte b0, V.int .i64 (k + ((sumL c1 (gl x 0) : Nat) : Int))], ?_, ?_, fun m pre rest hlen => ?_⟩
    · simp only [M_Tomb, gl_c0, gi_c0, gi_cs, and_true, s0]
      exact g0
    · simp only [c_Tomb, gl_c0, s0]
    · have hi : pre.length < (pre ++ x :: rest).length := by simp
      simp (disch := omega) only [laws_markTombS_l2, rlet, lt_mid, idxOk_mid, Int.toNat_natCast, Nat.zero_add, set_mid, rd_mid, gl_c0, cond_true, wr_succ hi hlen, wr64', Option.bind_some, f0]
      congr 1
      simp only [c_Tomb]; omega)
    (by intro m k pre; simp only [laws_markTombS_l2, lt_self, cond_false]) a (a.length + 1) k [] (by omega) (by simpa using hl) ha.2 hk hs
  simp only [List.nil_append, List.length_nil, Int.natCast_zero] at e4
  rw [e4]
  exact ⟨b, rfl, ⟨by omega, e3⟩, e2⟩
theorem laws_markSessionS_ok (a : List V) (k : Int) (ha : LW W_Session a) (hk : 0 ≤ k) (hs : k + ((sumL c_Session a : Nat) : Int) ≤ 9223372036854775807) : ∃ b, laws_markSessionS a k = some (k + ((sumL c_Session a : Nat) : Int), b) ∧ MS c_Session M_Session b k ∧ sumL c_Session b = sumL c_Session a := by
  have hl := ha.1
  unfold laws_markSessionS
  rw [fuel_eq]
  obtain ⟨b, e1, e2, e3, e4⟩ := mark_loop (F := fun m k i r => laws_markSessionS_l2 m k i r) (c := c_Session) (M := M_Session) (w := W_Session) (by
    intro x k hx hk hs
    simp only [c_Session] at hs
    refine ⟨V.agg [V.int .i64 (k), V.bool (decide ((k + 1).tmod 3 = 0))], ?_, ?_, fun m pre rest hlen => ?_⟩
    · simp only [M_Session, gi_c0, gb_c0, gb_cs, and_true]
    · simp only [c_Session]
    · have hi : pre.length < (pre ++ x :: rest).length := by simp
      simp (disch := omega) only [laws_markSessionS_l2, rlet, lt_mid, idxOk_mid, Int.toNat_natCast, Nat.zero_add, set_mid, rd_mid, gi_c0, cond_true, wr_succ hi hlen, wr64']
      congr 1
      simp only [c_Session]; omega)
    (by intro m k pre; simp only [laws_markSessionS_l2, lt_self, cond_false]) a (a.length + 1) k [] (by omega) (by simpa using hl) ha.2 hk hs
  simp only [List.nil_append, List.length_nil, Int.natCast_zero] at e4
  rw [e4]
  exact ⟨b, rfl, ⟨by omega, e3⟩, e2⟩
theorem laws_markLastS_ok (a : List V) (k : Int) (ha : LW W_Last a) (hk : 0 ≤ k) (hs : k + ((sumL c_Last a : Nat) : Int) ≤ 9223372036854775807) : ∃ b, laws_markLastS a k = some (k + ((sumL c_Last a : Nat) : Int), b) ∧ MS c_Last M_Last b k ∧ sumL c_Last b = sumL c_Last a := by
  have hl := ha.1
  unfold laws_markLastS
  rw [fuel_eq]
  obtain ⟨b, e1, e2, e3, e4⟩ := mark_loop (F := fun m k i r => laws_markLastS_l2 m k i r) (c := c_Last) (M := M_Last) (w := W_Last) (by
    intro x k hx hk hs
    simp only [c_Last] at hs
    refine ⟨V.agg [V.int .i64 (k), V.int .i64 (k + 1), V.int .i64 (k + 1 + 1), V.int .i64 (k + 1 + 1 + 1)], ?_, ?_, fun m pre rest hlen => ?_⟩
    · simp only [M_Last, gi_c0, gi_cs, and_true]
    · simp only [c_Last]
    · have hi : pre.length < (pre ++ x :: rest).length := by simp
      simp (disch := omega) only [laws_markLastS_l2, rlet, lt_mid, idxOk_mid, Int.toNat_natCast, Nat.zero_add, set_mid, rd_mid, gi_c0, gi_cs, cond_true, wr_succ hi hlen, wr64']
      congr 1
      simp only [c_Last]; omega)
    (by intro m k pre; simp only [laws_markLastS_l2, lt_self, cond_false]) a (a.length + 1) k [] (by omega) (by simpa using hl) ha.2 hk hs
  simp only [List.nil_append, List.length_nil, Int.natCast_zero] at e4
  rw [e4]
  exact ⟨b, rfl, ⟨by omega, e3⟩, e2⟩
theorem laws_markState_ok (x : V) (k : Int) (hx : W_State x) (hk : 0 ≤ k) (hs : k + ((ct_State x : Nat) : Int) ≤ 9223372036854775807) : ∃ b0 b1 b2 b3, laws_markState x k = some (k + ((ct_State x : Nat) : Int), b0, b1, b2, b3) ∧ MS c_Row M_Row b0 (k) ∧ sumL c_Row b0 = sumL c_Row (gl x 1) ∧ MS c_Tomb M_Tomb b1 (k + ((sumL c_Row (gl x 1) : Nat) : Int)) ∧ sumL c_Tomb b1 = sumL c_Tomb (gl x 2) ∧ MS c_Session M_Session b2 (k + ((sumL c_Row (gl x 1) : Nat) : Int) + ((sumL c_Tomb (gl x 2) : Nat) : Int)) ∧ sumL c_Session b2 = sumL c_Session (gl x 4) ∧ MS c_Last M_Last b3 (k + ((sumL c_Row (gl x 1) : Nat) : Int) + ((sumL c_Tomb (gl x 2) : Nat) : Int) + ((sumL c_Session (gl x 4) : Nat) : Int)) ∧ sumL c_Last b3 = sumL c_Last (gl x 5) := by
  simp only [ct_State] at hs ⊢
  unfold laws_markState
  obtain ⟨b0, f0, g0, s0⟩ := laws_markRowS_ok (gl x 1) (k) hx.2.1 (by omega) (by omega)
  simp only [f0, Option.bind_some]
  obtain ⟨b1, f1, g1, s1⟩ := laws_markTombS_ok (gl x 2) (k + ((sumL c_Row (gl x 1) : Nat) : Int)) hx.2.2.1 (by omega) (by omega)
  simp only [f1, Option.bind_some]
  obtain ⟨b2, f2, g2, s2⟩ := laws_markSessionS_ok (gl x 4) (k + ((sumL c_Row (gl x 1) : Nat) : Int) + ((sumL c_Tomb (gl x 2) : Nat) : Int)) hx.2.2.2.2.1 (by omega) (by omega)
  simp only [f2, Option.bind_some]
  obtain ⟨b3, f3, g3, s3⟩ := laws_markLastS_ok (gl x 5) (k + ((sumL c_Row (gl x 1) : Nat) : Int) + ((sumL c_Tomb (gl x 2) : Nat) : Int) + ((sumL c_Session (gl x 4) : Nat) : Int)) hx.2.2.2.2.2 (by omega) (by omega)
  simp only [f3, Option.bind_some]
  refine ⟨b0, b1, b2, b3, ?_, ?_, s0, ?_, s1, ?_, s2, ?_, s3⟩
  · first | rfl | (congr 2; omega)
  · first | exact g0 | (refine cast (congrArg _ ?_) g0; omega)
  · first | exact g1 | (refine cast (congrArg _ ?_) g1; omega)
  · first | exact g2 | (refine cast (congrArg _ ?_) g2; omega)
  · first | exact g3 | (refine cast (congrArg _ ?_) g3; omega)
theorem laws_heldTimerS_ok (a : List V) (k : Int) (hM : MS c_Timer M_Timer a k) (hk : 0 ≤ k) (hs : k + ((sumL c_Timer a : Nat) : Int) ≤ 9223372036854775807) : laws_heldTimerS a k = some (k + ((sumL c_Timer a : Nat) : Int)) := by
  have hl := hM.1
  unfold laws_heldTimerS
  rw [fuel_eq]
  rw [held_loop (F := fun m k i => laws_heldTimerS_l2 m a k i) (c := c_Timer) (M := M_Timer) (l := a) (out := fun k => some (1, k, 0)) ?_ ?_ hk hs hM]
  · rfl
  · intro m k i hi hk hs hM
    simp only [c_Timer] at hs
    simp only [M_Timer] at hM
    obtain ⟨q0, q1⟩ := hM
    simp (disch := omega) only [laws_heldTimerS_l2, lt_nat hi, idxOk_nat hi, Int.toNat_natCast, wr64', q0, q1, decide_true, Bool.not_true, cond_true, cond_false, wr_succ hi hl]
    congr 1
    simp only [c_Timer]; omega
  · intro m k
    simp only [laws_heldTimerS_l2, lt_self, cond_false]
theorem laws_heldWheel_ok (x : V) (k : Int) (h1 : MS c_Timer M_Timer (gl x 1) (k)) (hk : 0 ≤ k) (hs : k + ((ct_Wheel x : Nat) : Int) ≤ 9223372036854775807) : laws_heldWheel x k = some (k + ((ct_Wheel x : Nat) : Int)) := by
  simp only [ct_Wheel] at hs ⊢
  unfold laws_heldWheel
  rw [laws_heldTimerS_ok (gl x 1) (k) h1 (by omega) (by omega)]
  simp only [Option.bind_some, show decide (k + ((sumL c_Timer (gl x 1) : Nat) : Int) < 0) = false from by simp; omega, cond_false]
  try first | rfl | (congr 1; omega)
theorem laws_heldDuty_ok (x : V) (k : Int) (h2 : MS c_Timer M_Timer (gl x 2) (k)) (hk : 0 ≤ k) (hs : k + ((ct_Duty x : Nat) : Int) ≤ 9223372036854775807) : laws_heldDuty x k = some (k + ((ct_Duty x : Nat) : Int)) := by
  simp only [ct_Duty] at hs ⊢
  unfold laws_heldDuty
  rw [laws_heldWheel_ok (V.agg [(V.int .i64 (gi x 1)), (V.inl t_impl_Timer (gl x 2))]) (k) (by first | exact h2 | (refine cast (congrArg _ ?_) h2; simp only [gl_c0, gl_cs]; omega)) (by omega) (by simp only [ct_Wheel, gl_c0, gl_cs]; omega)]
  simp only [ct_Wheel, gl_c0, gl_cs]
  simp only [Option.bind_some, show decide (k + ((sumL c_Timer (gl x 2) : Nat) : Int) < 0) = false from by simp; omega, cond_false]
  try first | rfl | (congr 1; omega)
end Go.Eng.R
open Go Go.Eng
namespace Go.Eng.R
theorem within_eq (n lo hi : Int) : impl_within n lo hi = decide (lo ≤ n ∧ n ≤ hi) := by
  unfold impl_within
  by_cases h : lo ≤ n <;> simp [h]
theorem within_nt (n lo hi : Int) : impl_within n lo hi = (!decide (n < lo) && !decide (hi < n)) := by
  rw [within_eq]
  by_cases h1 : n < lo
  · rw [decide_eq_true h1, decide_eq_false (by omega)]; rfl
  · by_cases h2 : hi < n
    · rw [decide_eq_true h2, decide_eq_false (by omega)]; simp
    · rw [decide_eq_false h1, decide_eq_false h2, decide_eq_true (by omega)]; rfl
theorem le_nt (a b : Int) : decide (a ≤ b) = !decide (b < a) := by
  by_cases h : a ≤ b
  · rw [decide_eq_true h, decide_eq_false (by omega)]; rfl
  · rw [decide_eq_false h, decide_eq_true (by omega)]; rfl
theorem wr_pred' {k n : Nat} (h0 : ¬ k = 0) (h : k ≤ n) (hn : n ≤ 9223372036854775807) : IntKind.i64.wrap ((k : Int) - 1) = ((k - 1 : Nat) : Int) := by rw [wr64' (by omega) (by omega)]; omega
end Go.Eng.R
open Go Go.Eng
namespace Go.Eng.R
def chB (x : V) : Bool := !decide (gi x 0 < 97) && !decide (122 < gi x 0) || decide (gi x 0 = 47)
theorem all_take_succ {p : V → Bool} {l : List V} {i : Nat} (h : i < l.length) : (l.take (i + 1)).all p = ((l.take i).all p && p (rd l i)) := by
  rw [List.take_add_one, List.all_append]
  have : l[i]? = some (rd l i) := by simp [rd, List.getD, h]
  rw [this]; simp
theorem all_rd_false {p : V → Bool} {l : List V} {i : Nat} (h : i < l.length) (hp : p (rd l i) = false) : l.all p = false := by
  rw [List.all_eq_false]
  refine ⟨rd l i, ?_, by simp [hp]⟩
  have : rd l i = l[i] := by simp [rd, List.getD, h]
  rw [this]; exact List.getElem_mem h
theorem all_loop {ρ : Type} {F : Nat → Int → ρ} {l : List V} {p : V → Bool} {yes no : ρ}
    (h1 : ∀ m (i : Nat), i < l.length → F (m + 1) (i : Int) = bif p (rd l i) then F m ((i + 1 : Nat) : Int) else no) (h0 : ∀ m, F (m + 1) (l.length : Int) = yes) :
    F (l.length + 1) 0 = bif l.all p then yes else no := by
  refine loop_run0 (F := fun m (_ : Unit) i => F m i) (n := l.length) (fun i _ => (l.take i).all p = true) (fun o => o = bif l.all p then yes else no) ?_ ?_ (s := ()) (by simp)
  · intro m i s hi hI
    rw [h1 m i hi]
    cases hp : p (rd l i) with
    | true => exact .inl ⟨(), rfl, by rw [all_take_succ hi, hI, hp]; rfl⟩
    | false => exact .inr (by rw [all_rd_false hi hp]; rfl)
  · intro m s hI
    rw [List.take_length] at hI
    rw [hI]; exact h0 m
def keyB (b : List V) : Bool := decide (1 ≤ b.length) && (decide (b.length ≤ 20) && b.all chB)
theorem spec_l2key_eq {b : List V} (hb : LW W_byte b) : spec_l2key b = some (keyB b) := by
  have hl := hb.1
  unfold spec_l2key keyB
  by_cases h1 : 1 ≤ b.length
  · by_cases h2 : b.length ≤ 20
    · rw [show decide (((b.length : Nat) : Int) < 1) = false from by simp; omega, show decide ((20 : Int) < ((b.length : Nat) : Int)) = false from by simp; omega, cond_false, cond_false, fuel_eq,
        all_loop (F := fun m i => spec_l2key_l4 m b i) (l := b) (p := chB) (yes := some (1, false)) (no := some (0, false)) ?_ ?_]
      · simp only [h1, h2, decide_true, Bool.true_and]
        cases b.all chB <;> rfl
      · intro m i hi
        simp only [spec_l2key_l4, lt_nat hi, idxOk_nat hi, Int.toNat_natCast, cond_true, wr_succ hi hl, chB]
        cases decide (gi (rd b i) 0 < 97) <;> cases decide (122 < gi (rd b i) 0) <;> cases decide (gi (rd b i) 0 = 47) <;> rfl
      · intro m; simp only [spec_l2key_l4, lt_self, cond_false]
    · rw [show decide (((b.length : Nat) : Int) < 1) = false from by simp; omega, show decide ((20 : Int) < ((b.length : Nat) : Int)) = true from by simp; omega]
      simp [h2]
  · rw [show decide (((b.length : Nat) : Int) < 1) = true from by simp; omega]
    simp [h1]
theorem impl_KeyOk_eq {b : List V} (hb : LW W_byte b) : impl_KeyOk b = some (keyB b) := by
  have hl := hb.1
  unfold impl_KeyOk keyB
  rw [fuel_eq, all_loop (F := fun m i => impl_KeyOk_l2 m b b ((b.length : Nat) : Int) i) (l := b) (p := chB) (yes := some (1, b, false)) (no := some (0, b, false)) ?_ ?_]
  · cases b.all chB with
    | true => simp only [cond_true, Option.bind_some, within_eq]; simp [Nat.beq]; by_cases h1 : 1 ≤ b.length <;> by_cases h2 : b.length ≤ 20 <;> simp [h1, h2] <;> omega
    | false => simp [Nat.beq]
  · intro m i hi
    simp only [impl_KeyOk_l2, lt_nat hi, idxOk_nat hi, Int.toNat_natCast, cond_true, wr_succ hi hl, chB]
    cases decide (gi (rd b i) 0 < 97) <;> cases decide (122 < gi (rd b i) 0) <;> cases decide (gi (rd b i) 0 = 47) <;> rfl
  · intro m; simp only [impl_KeyOk_l2, lt_self, cond_false]
end Go.Eng.R
open Go Go.Eng
namespace Go.Eng.R
def fI (l : List V) (id : Int) : Int := match firstI (fun i => decide (gi (rd l i) 0 = id)) 0 l.length with | some j => (j : Int) | none => -1
def fK (l : List V) (k : List V) : Int := match firstI (fun i => neq (gl (rd l i) 0) k) 0 l.length with | some j => (j : Int) | none => -1
theorem spec_l2sess_eq {s : V} (hl : (gl s 4).length ≤ 9223372036854775807) (id : Int) : spec_l2sess (n_impl_State s) id = some (fI (gl s 4) id) := by
  unfold spec_l2sess fI
  simp only [show gl (n_impl_State s) 4 = gl s 4 from rfl, show n_impl_State (n_impl_State s) = n_impl_State s from rfl]
  rw [fuel_eq, show (0 : Int) = ((0 : Nat) : Int) from rfl, find_loop (F := fun m i => spec_l2sess_l2 m id i (n_impl_State s)) (n := (gl s 4).length) (q := fun i => decide (gi (rd (gl s 4) i) 0 = id)) (out := fun j => some (0, j)) (no := some (1, 0)) ?_ ?_ ((gl s 4).length + 1) 0 (by omega) (by omega)]
  · rw [Nat.sub_zero]
    cases firstI (fun i => decide (gi (rd (gl s 4) i) 0 = id)) 0 (gl s 4).length <;> rfl
  · intro m i hi
    simp only [spec_l2sess_l2, show gl (n_impl_State s) 4 = gl s 4 from rfl, show n_impl_State (n_impl_State s) = n_impl_State s from rfl, lt_nat hi, idxOk_nat hi, Int.toNat_natCast, cond_true, wr_succ hi hl]
  · intro m; simp only [spec_l2sess_l2, show gl (n_impl_State s) 4 = gl s 4 from rfl, lt_self, cond_false]
theorem impl_session_eq {s : V} (hl : (gl s 4).length ≤ 9223372036854775807) (id : Int) : impl_State_session (n_impl_State s) id = some (fI (gl s 4) id) := by
  unfold impl_State_session slices_IndexFunc_Session fI
  rw [show gl (n_impl_State s) 4 = gl s 4 from rfl, fuel_eq, show (0 : Int) = ((0 : Nat) : Int) from rfl, find_loop (F := fun m i => slices_IndexFunc_Session_l2 m (gl s 4) (V.agg [(V.int .i64 (gi (V.agg [(V.int .i64 id)]) 0))]) (((gl s 4).length : Nat) : Int) i) (n := (gl s 4).length) (q := fun i => decide (gi (rd (gl s 4) i) 0 = id)) (out := fun j => some (0, j)) (no := some (1, 0)) ?_ ?_ ((gl s 4).length + 1) 0 (by omega) (by omega)]
  · rw [Nat.sub_zero]
    cases firstI (fun i => decide (gi (rd (gl s 4) i) 0 = id)) 0 (gl s 4).length <;> rfl
  · intro m i hi
    simp only [slices_IndexFunc_Session_l2, lt_nat hi, idxOk_nat hi, Int.toNat_natCast, cond_true, wr_succ hi hl]
    rfl
  · intro m; simp only [slices_IndexFunc_Session_l2, lt_self, cond_false]
theorem spec_l2row_eq {s : V} (hl : (gl s 1).length ≤ 9223372036854775807) (k : List V) : spec_l2row (n_impl_State s) k = some (fK (gl s 1) k) := by
  unfold spec_l2row fK
  simp only [show gl (n_impl_State s) 1 = gl s 1 from rfl, show n_impl_State (n_impl_State s) = n_impl_State s from rfl]
  rw [fuel_eq, show (0 : Int) = ((0 : Nat) : Int) from rfl, find_loop (F := fun m i => spec_l2row_l2 m k i (n_impl_State s)) (n := (gl s 1).length) (q := fun i => neq (gl (rd (gl s 1) i) 0) k) (out := fun j => some (0, j)) (no := some (1, 0)) ?_ ?_ ((gl s 1).length + 1) 0 (by omega) (by omega)]
  · rw [Nat.sub_zero]
    cases firstI (fun i => neq (gl (rd (gl s 1) i) 0) k) 0 (gl s 1).length <;> rfl
  · intro m i hi
    simp only [spec_l2row_l2, show gl (n_impl_State s) 1 = gl s 1 from rfl, show n_impl_State (n_impl_State s) = n_impl_State s from rfl, lt_nat hi, idxOk_nat hi, Int.toNat_natCast, cond_true, wr_succ hi hl]
    rfl
  · intro m; simp only [spec_l2row_l2, show gl (n_impl_State s) 1 = gl s 1 from rfl, lt_self, cond_false]
theorem spec_l2tomb_eq {s : V} (hl : (gl s 2).length ≤ 9223372036854775807) (k : List V) : spec_l2tomb (n_impl_State s) k = some (fK (gl s 2) k) := by
  unfold spec_l2tomb fK
  simp only [show gl (n_impl_State s) 2 = gl s 2 from rfl, show n_impl_State (n_impl_State s) = n_impl_State s from rfl]
  rw [fuel_eq, show (0 : Int) = ((0 : Nat) : Int) from rfl, find_loop (F := fun m i => spec_l2tomb_l2 m k i (n_impl_State s)) (n := (gl s 2).length) (q := fun i => neq (gl (rd (gl s 2) i) 0) k) (out := fun j => some (0, j)) (no := some (1, 0)) ?_ ?_ ((gl s 2).length + 1) 0 (by omega) (by omega)]
  · rw [Nat.sub_zero]
    cases firstI (fun i => neq (gl (rd (gl s 2) i) 0) k) 0 (gl s 2).length <;> rfl
  · intro m i hi
    simp only [spec_l2tomb_l2, show gl (n_impl_State s) 2 = gl s 2 from rfl, show n_impl_State (n_impl_State s) = n_impl_State s from rfl, lt_nat hi, idxOk_nat hi, Int.toNat_natCast, cond_true, wr_succ hi hl]
    rfl
  · intro m; simp only [spec_l2tomb_l2, show gl (n_impl_State s) 2 = gl s 2 from rfl, lt_self, cond_false]
theorem impl_tomb_eq {s : V} (hl : (gl s 2).length ≤ 9223372036854775807) (k : List V) : impl_State_tomb (n_impl_State s) k = some (fK (gl s 2) k) := by
  unfold impl_State_tomb slices_IndexFunc_Tomb fK
  rw [show gl (n_impl_State s) 2 = gl s 2 from rfl, fuel_eq, show (0 : Int) = ((0 : Nat) : Int) from rfl, find_loop (F := fun m i => slices_IndexFunc_Tomb_l2 m (gl s 2) (V.agg [(V.inl t_byte (gl (V.agg [(V.inl t_byte k)]) 0))]) (((gl s 2).length : Nat) : Int) i) (n := (gl s 2).length) (q := fun i => neq (gl (rd (gl s 2) i) 0) k) (out := fun j => some (0, j)) (no := some (1, 0)) ?_ ?_ ((gl s 2).length + 1) 0 (by omega) (by omega)]
  · rw [Nat.sub_zero]
    cases firstI (fun i => neq (gl (rd (gl s 2) i) 0) k) 0 (gl s 2).length <;> rfl
  · intro m i hi
    simp only [slices_IndexFunc_Tomb_l2, lt_nat hi, idxOk_nat hi, Int.toNat_natCast, cond_true, wr_succ hi hl]
    rfl
  · intro m; simp only [slices_IndexFunc_Tomb_l2, lt_self, cond_false]
theorem nlt_def (a b : List V) : ltList (a.map normB) (b.map normB) = nlt a b := rfl
theorem neq_def (a b : List V) : eqList (a.map normB) (b.map normB) = neq a b := rfl
theorem bsK_eq {S : List V} (hS : S.length ≤ 4194304) (ha : AscN (fun r => gl r 0) S) (t : List V) : slices_BinarySearchFunc_byte S t = some (((lbN (fun r => gl r 0) S t : Nat) : Int), hasN (fun r => gl r 0) S t) := by
  unfold slices_BinarySearchFunc_byte
  have hle := lbN_le (fun r => gl r 0) S t
  rw [fuel_eq, show (0 : Int) = ((0 : Nat) : Int) from rfl, bs_loop (F := fun m i j => slices_BinarySearchFunc_byte_l3 m S t ((S.length : Nat) : Int) i j) (x := S) (p := fun r => nlt (gl r 0) t) (n0 := lbN (fun r => gl r 0) S t) (out := fun i => some (S, t, ((S.length : Nat) : Int), i)) (by omega) (lbN_spec ha t) ?_ ?_ (S.length + 1) 0 S.length (by omega) hle (by omega) (by omega)]
  · simp only [Option.bind_some]
    unfold hasN
    by_cases hc : lbN (fun r => gl r 0) S t < S.length
    · rw [lt_nat hc, cond_true, idxOk_nat hc, cond_true, Int.toNat_natCast, decide_eq_true hc, Bool.true_and]
      congr 2
      exact cmpV_zero' _ _
    · rw [decide_eq_false (p := ((lbN (fun r => gl r 0) S t : Nat) : Int) < ((S.length : Nat) : Int)) (by omega), decide_eq_false hc]
      rfl
  · intro m i j hij hj
    have hw := wr_mid (i := i) (j := j) (by omega)
    simp only [slices_BinarySearchFunc_byte_l3, hw]
    rw [lt_nat hij, cond_true, idxOk_nat (show (i + j) / 2 < S.length by omega), cond_true, Int.toNat_natCast, wr_succ (n := S.length) (show (i + j) / 2 < S.length by omega) (by omega)]
    rw [show decide (impl_State_row_1 (n_laws_Row (rd S ((i + j) / 2))) t < 0) = nlt (gl (rd S ((i + j) / 2)) 0) t from cmpV_neg _ _]
  · intro m i; simp only [slices_BinarySearchFunc_byte_l3, lt_self, cond_false]
theorem impl_row_eq {s : V} (hS : (gl s 1).length ≤ 4194304) (ha : AscN (fun r => gl r 0) (gl s 1)) (t : List V) : impl_State_row (n_impl_State s) t = some (((lbN (fun r => gl r 0) (gl s 1) t : Nat) : Int), hasN (fun r => gl r 0) (gl s 1) t) := by
  unfold impl_State_row
  rw [show gl (n_impl_State s) 1 = gl s 1 from rfl, bsK_eq hS ha]
  rfl
theorem hasN_fK {l : List V} (h : AscN (fun r => gl r 0) l) (t : List V) : hasN (fun r => gl r 0) l t = decide (0 ≤ fK l t) := by
  have := find_asc h t
  unfold fK
  rw [this]
  cases hasN (fun r => gl r 0) l t with
  | false => rfl
  | true => exact (decide_eq_true (by simp)).symm
def rowB (s : V) (i : Nat) : Bool := keyB (gl (rd (gl s 1) i) 0) && (!decide (20 < (((gl (rd (gl s 1) i) 1).length : Nat) : Int)) && (!decide (gi (rd (gl s 1) i) 2 < 1) && (!decide (gi s 0 < gi (rd (gl s 1) i) 2) &&
  ((decide (gi (rd (gl s 1) i) 3 = 0) || !decide (fI (gl s 4) (gi (rd (gl s 1) i) 3) < 0)) && (decide (i = 0) || nlt (gl (rd (gl s 1) (i - 1)) 0) (gl (rd (gl s 1) i) 0))))))
def tombB (s : V) (i : Nat) : Bool := keyB (gl (rd (gl s 2) i) 0) && (!decide (0 ≤ fK (gl s 1) (gl (rd (gl s 2) i) 0)) && (decide (fK (gl s 2) (gl (rd (gl s 2) i) 0) = (i : Int)) && (!decide (gi (rd (gl s 2) i) 1 < 1) && (!decide (gi s 0 < gi (rd (gl s 2) i) 1) &&
  (!decide (gi (rd (gl s 2) i) 1 < gi s 3) && (decide (i = 0) || !decide (gi (rd (gl s 2) i) 1 < gi (rd (gl s 2) (i - 1)) 1)))))))
def sessB (s : V) (i : Nat) : Bool := !decide (gi (rd (gl s 4) i) 0 < 1) && (!decide (gi s 0 < gi (rd (gl s 4) i) 0) && (decide (i = 0) || decide (gi (rd (gl s 4) (i - 1)) 0 < gi (rd (gl s 4) i) 0)))
def lastB (s : V) (i : Nat) : Bool := decide (0 ≤ gi (rd (gl s 5) i) 0 ∧ gi (rd (gl s 5) i) 0 ≤ 3 ∧ 1 ≤ gi (rd (gl s 5) i) 1 ∧ gi (rd (gl s 5) i) 1 ≤ 1000000 ∧ 0 ≤ gi (rd (gl s 5) i) 2 ∧ gi (rd (gl s 5) i) 2 ≤ 5 ∧ 1 ≤ gi (rd (gl s 5) i) 3 ∧ gi (rd (gl s 5) i) 3 ≤ gi s 0) &&
  (decide (i = 0) || decide (gi (rd (gl s 5) (i - 1)) 0 < gi (rd (gl s 5) i) 0))
def headB (s : V) : Bool := decide (0 ≤ gi s 0 ∧ gi s 0 ≤ 1000000 ∧ 0 ≤ gi s 3 ∧ gi s 3 ≤ gi s 0 ∧ (gl s 1).length ≤ 20 ∧ (gl s 2).length ≤ 10 ∧ (gl s 4).length ≤ 8 ∧ (gl s 5).length ≤ 4)
def stateB (s : V) : Bool := headB s && ((List.range (gl s 1).length).all (rowB s) && ((List.range (gl s 2).length).all (tombB s) && ((List.range (gl s 4).length).all (sessB s) && (List.range (gl s 5).length).all (lastB s))))
theorem rowB_asc {s : V} (h : (List.range (gl s 1).length).all (rowB s) = true) : AscN (fun r => gl r 0) (gl s 1) := by
  intro i hi
  rw [List.all_eq_true] at h
  have := h (i + 1) (List.mem_range.2 hi)
  unfold rowB at this
  simp only [Bool.and_eq_true] at this
  simpa using this.2.2.2.2.2
theorem spec_rows_eq {s : V} (hs : W_State s) : spec_StateOk_l4 ((gl s 1).length + 1) 0 (n_impl_State s) = bif (List.range (gl s 1).length).all (rowB s) then some (1, false, n_impl_State s) else some (0, false, n_impl_State s) := by
  have hl := hs.2.1.1
  have hk := hs.2.2.2.2.1.1
  refine all_loopI (F := fun m i => spec_StateOk_l4 m i (n_impl_State s)) (n := (gl s 1).length) (q := rowB s) (yes := some (1, false, n_impl_State s)) (no := some (0, false, n_impl_State s)) ?_ ?_
  · intro m i hi
    have hw := hs.2.1.rd hi
    simp only [spec_StateOk_l4, show gl (n_impl_State s) 1 = gl s 1 from rfl, show gi (n_impl_State s) 0 = gi s 0 from rfl, show n_impl_State (n_impl_State s) = n_impl_State s from rfl, lt_nat hi, idxOk_nat hi, Int.toNat_natCast, cond_true, wr_succ hi hl, spec_l2key_eq hw.1, Option.bind_some, spec_l2sess_eq hk, spec_l2val, le_nt, Bool.not_not, nlt_def]
    unfold rowB
    cases keyB (gl (rd (gl s 1) i) 0) <;> try rfl
    cases decide ((20 : Int) < (((gl (rd (gl s 1) i) 1).length : Nat) : Int)) <;> try rfl
    cases decide (gi (rd (gl s 1) i) 2 < 1) <;> try rfl
    cases decide (gi s 0 < gi (rd (gl s 1) i) 2) <;> try rfl
    by_cases h0 : i = 0
    · subst h0
      rw [decide_eq_false (p := (0 : Int) < ((0 : Nat) : Int)) (by omega)]
      cases decide (gi (rd (gl s 1) 0) 3 = 0) <;> cases decide (fI (gl s 4) (gi (rd (gl s 1) 0) 3) < 0) <;> rfl
    · rw [decide_eq_true (p := (0 : Int) < (i : Int)) (by omega), wr_pred' h0 (Nat.le_of_lt hi) hl, idxOk_nat (show i - 1 < (gl s 1).length by omega), Int.toNat_natCast, decide_eq_false h0]
      cases decide (gi (rd (gl s 1) i) 3 = 0) <;> cases decide (fI (gl s 4) (gi (rd (gl s 1) i) 3) < 0) <;> cases nlt (gl (rd (gl s 1) (i - 1)) 0) (gl (rd (gl s 1) i) 0) <;> rfl
  · intro m; simp only [spec_StateOk_l4, show gl (n_impl_State s) 1 = gl s 1 from rfl, lt_self, cond_false]; rfl
theorem impl_rows_eq {s : V} (hs : W_State s) : impl_StateOk_l4 ((gl s 1).length + 1) (gl s 1) (((gl s 1).length : Nat) : Int) 0 (n_impl_State s) = bif (List.range (gl s 1).length).all (rowB s) then some (1, false, n_impl_State s) else some (0, false, n_impl_State s) := by
  have hl := hs.2.1.1
  have hk := hs.2.2.2.2.1.1
  refine all_loopI (F := fun m i => impl_StateOk_l4 m (gl s 1) (((gl s 1).length : Nat) : Int) i (n_impl_State s)) (n := (gl s 1).length) (q := rowB s) (yes := some (1, false, n_impl_State s)) (no := some (0, false, n_impl_State s)) ?_ ?_
  · intro m i hi
    have hw := hs.2.1.rd hi
    simp only [impl_StateOk_l4, show gl (n_impl_State s) 1 = gl s 1 from rfl, show gi (n_impl_State s) 0 = gi s 0 from rfl, show n_impl_State (n_impl_State s) = n_impl_State s from rfl, lt_nat hi, idxOk_nat hi, Int.toNat_natCast, cond_true, wr_succ hi hl, impl_KeyOk_eq hw.1, Option.bind_some, impl_session_eq hk, impl_isValue, within_nt, le_nt _ (20 : Int), Bool.not_not, cmpV_nonneg]
    unfold rowB
    cases keyB (gl (rd (gl s 1) i) 0) <;> try rfl
    cases decide ((20 : Int) < (((gl (rd (gl s 1) i) 1).length : Nat) : Int)) <;> try rfl
    cases decide (gi (rd (gl s 1) i) 2 < 1) <;> try rfl
    cases decide (gi s 0 < gi (rd (gl s 1) i) 2) <;> try rfl
    by_cases h0 : i = 0
    · subst h0
      rw [decide_eq_false (p := (0 : Int) < ((0 : Nat) : Int)) (by omega)]
      cases decide (gi (rd (gl s 1) 0) 3 = 0) <;> cases decide (fI (gl s 4) (gi (rd (gl s 1) 0) 3) < 0) <;> rfl
    · rw [decide_eq_true (p := (0 : Int) < (i : Int)) (by omega), wr_pred' h0 (Nat.le_of_lt hi) hl, idxOk_nat (show i - 1 < (gl s 1).length by omega)]
      simp only [Int.toNat_natCast, decide_eq_false h0]
      cases decide (gi (rd (gl s 1) i) 3 = 0) <;> cases decide (fI (gl s 4) (gi (rd (gl s 1) i) 3) < 0) <;> cases nlt (gl (rd (gl s 1) (i - 1)) 0) (gl (rd (gl s 1) i) 0) <;> rfl
  · intro m; simp only [impl_StateOk_l4, lt_self, cond_false]; rfl
theorem spec_tombs_eq {s : V} (hs : W_State s) : spec_StateOk_l10 ((gl s 2).length + 1) 0 (n_impl_State s) = bif (List.range (gl s 2).length).all (tombB s) then some (1, false, n_impl_State s) else some (0, false, n_impl_State s) := by
  have hr := hs.2.1.1
  have hl := hs.2.2.1.1
  refine all_loopI (F := fun m i => spec_StateOk_l10 m i (n_impl_State s)) (n := (gl s 2).length) (q := tombB s) (yes := some (1, false, n_impl_State s)) (no := some (0, false, n_impl_State s)) ?_ ?_
  · intro m i hi
    have hw := hs.2.2.1.rd hi
    simp only [spec_StateOk_l10, show gl (n_impl_State s) 2 = gl s 2 from rfl, show gi (n_impl_State s) 0 = gi s 0 from rfl, show gi (n_impl_State s) 3 = gi s 3 from rfl, show n_impl_State (n_impl_State s) = n_impl_State s from rfl, lt_nat hi, idxOk_nat hi, Int.toNat_natCast, cond_true, wr_succ hi hl, spec_l2key_eq hw.1, Option.bind_some, spec_l2row_eq hr, spec_l2tomb_eq hl]
    unfold tombB
    cases keyB (gl (rd (gl s 2) i) 0) <;> try rfl
    cases decide (0 ≤ fK (gl s 1) (gl (rd (gl s 2) i) 0)) <;> try rfl
    cases decide (fK (gl s 2) (gl (rd (gl s 2) i) 0) = (i : Int)) <;> try rfl
    cases decide (gi (rd (gl s 2) i) 1 < 1) <;> try rfl
    cases decide (gi s 0 < gi (rd (gl s 2) i) 1) <;> try rfl
    cases decide (gi (rd (gl s 2) i) 1 < gi s 3) <;> try rfl
    by_cases h0 : i = 0
    · subst h0
      rw [decide_eq_false (p := (0 : Int) < ((0 : Nat) : Int)) (by omega)]
      rfl
    · rw [decide_eq_true (p := (0 : Int) < (i : Int)) (by omega), wr_pred' h0 (Nat.le_of_lt hi) hl, idxOk_nat (show i - 1 < (gl s 2).length by omega), Int.toNat_natCast, decide_eq_false h0]
      cases decide (gi (rd (gl s 2) i) 1 < gi (rd (gl s 2) (i - 1)) 1) <;> rfl
  · intro m; simp only [spec_StateOk_l10, show gl (n_impl_State s) 2 = gl s 2 from rfl, lt_self, cond_false]; rfl
theorem mx_eq (a b : Int) : mxI a b = max a b := by
  unfold mxI
  by_cases h : a < b <;> simp [h] <;> omega
theorem impl_tombs_eq {s : V} (hs : W_State s) (hS : (gl s 1).length ≤ 4194304) (ha : AscN (fun r => gl r 0) (gl s 1)) : impl_StateOk_l11 ((gl s 2).length + 1) (mxI 1 (gi s 3)) (gl s 2) (((gl s 2).length : Nat) : Int) 0 (n_impl_State s) = bif (List.range (gl s 2).length).all (tombB s) then some (1, false, n_impl_State s) else some (0, false, n_impl_State s) := by
  have hr := hs.2.1.1
  have hl := hs.2.2.1.1
  refine loop_run0 (F := fun m (b : Int) i => impl_StateOk_l11 m b (gl s 2) (((gl s 2).length : Nat) : Int) i (n_impl_State s)) (n := (gl s 2).length) (fun i b => (List.range i).all (tombB s) = true ∧ (b = if i = 0 then max 1 (gi s 3) else gi (rd (gl s 2) (i - 1)) 1) ∧ 1 ≤ b ∧ gi s 3 ≤ b)
    (fun o => o = bif (List.range (gl s 2).length).all (tombB s) then some (1, false, n_impl_State s) else some (0, false, n_impl_State s)) ?_ ?_ ⟨by simp, by rw [mx_eq]; simp, by rw [mx_eq]; omega, by rw [mx_eq]; omega⟩
  · intro m i b hi hI
    obtain ⟨hall, hb, hb1, hb2⟩ := hI
    have hw := hs.2.2.1.rd hi
    have hno : tombB s i = false → (List.range (gl s 2).length).all (tombB s) = false := fun h => by
      rw [List.all_eq_false]
      exact ⟨i, List.mem_range.2 hi, by simp [h]⟩
    simp only [impl_StateOk_l11, show gi (n_impl_State s) 0 = gi s 0 from rfl, show n_impl_State (n_impl_State s) = n_impl_State s from rfl, lt_nat hi, idxOk_nat hi, Int.toNat_natCast, cond_true, wr_succ hi hl, impl_KeyOk_eq hw.1, Option.bind_some, impl_row_eq hS ha, impl_tomb_eq hl, hasN_fK ha, within_eq]
    have ht : tombB s i = (keyB (gl (rd (gl s 2) i) 0) && (!decide (0 ≤ fK (gl s 1) (gl (rd (gl s 2) i) 0)) && (decide (fK (gl s 2) (gl (rd (gl s 2) i) 0) = (i : Int)) && decide (b ≤ gi (rd (gl s 2) i) 1 ∧ gi (rd (gl s 2) i) 1 ≤ gi s 0)))) := by
      have e : (!decide (gi (rd (gl s 2) i) 1 < 1) && (!decide (gi s 0 < gi (rd (gl s 2) i) 1) && (!decide (gi (rd (gl s 2) i) 1 < gi s 3) && (decide (i = 0) || !decide (gi (rd (gl s 2) i) 1 < gi (rd (gl s 2) (i - 1)) 1))))) = decide (b ≤ gi (rd (gl s 2) i) 1 ∧ gi (rd (gl s 2) i) 1 ≤ gi s 0) := by
        rw [Bool.eq_iff_iff]
        simp only [Bool.and_eq_true, Bool.or_eq_true, Bool.not_eq_true', decide_eq_true_eq, decide_eq_false_iff_not]
        by_cases h0 : i = 0
        · subst h0
          simp only [if_true] at hb
          omega
        · rw [if_neg h0] at hb
          omega
      unfold tombB
      rw [e]
    by_cases hq : tombB s i = true
    · refine .inl ⟨gi (rd (gl s 2) i) 1, ?_, by rw [List.range_succ, List.all_append, hall]; simp [hq], by simp, ?_⟩
      · rw [ht] at hq
        simp only [Bool.and_eq_true, Bool.not_eq_true', decide_eq_true_eq] at hq
        obtain ⟨q1, q2, q3, q4⟩ := hq
        simp only [q1, q2, q3, cond_false, Bool.not_true, decide_eq_true q4, decide_true]
      · rw [ht] at hq
        simp only [Bool.and_eq_true, Bool.not_eq_true', decide_eq_true_eq] at hq
        omega
    · have hq : tombB s i = false := by simpa using hq
      refine .inr ?_
      rw [hno hq]
      rw [ht] at hq
      cases h1 : decide (0 ≤ fK (gl s 1) (gl (rd (gl s 2) i) 0)) <;> try rfl
      cases h2 : keyB (gl (rd (gl s 2) i) 0) <;> try rfl
      cases h3 : decide (fK (gl s 2) (gl (rd (gl s 2) i) 0) = (i : Int)) <;> try rfl
      cases h4 : decide (b ≤ gi (rd (gl s 2) i) 1 ∧ gi (rd (gl s 2) i) 1 ≤ gi s 0) <;> try rfl
      rw [h1, h2, h3, h4] at hq
      cases hq
  · intro m b hI
    show impl_StateOk_l11 (m + 1) b (gl s 2) (((gl s 2).length : Nat) : Int) (((gl s 2).length : Nat) : Int) (n_impl_State s) = _
    rw [hI.1]
    simp only [impl_StateOk_l11, lt_self, cond_false]; rfl
theorem spec_sess_eq {s : V} (hs : W_State s) : spec_StateOk_l16 ((gl s 4).length + 1) 0 (n_impl_State s) = bif (List.range (gl s 4).length).all (sessB s) then some (1, false, n_impl_State s) else some (0, false, n_impl_State s) := by
  have hl := hs.2.2.2.2.1.1
  refine all_loopI (F := fun m i => spec_StateOk_l16 m i (n_impl_State s)) (n := (gl s 4).length) (q := sessB s) (yes := some (1, false, n_impl_State s)) (no := some (0, false, n_impl_State s)) ?_ ?_
  · intro m i hi
    simp only [spec_StateOk_l16, show gl (n_impl_State s) 4 = gl s 4 from rfl, show gi (n_impl_State s) 0 = gi s 0 from rfl, show n_impl_State (n_impl_State s) = n_impl_State s from rfl, lt_nat hi, idxOk_nat hi, Int.toNat_natCast, cond_true, wr_succ hi hl]
    unfold sessB
    cases decide (gi (rd (gl s 4) i) 0 < 1) <;> try rfl
    cases decide (gi s 0 < gi (rd (gl s 4) i) 0) <;> try rfl
    by_cases h0 : i = 0
    · subst h0
      rw [decide_eq_false (p := (0 : Int) < ((0 : Nat) : Int)) (by omega)]
      rfl
    · rw [decide_eq_true (p := (0 : Int) < (i : Int)) (by omega), wr_pred' h0 (Nat.le_of_lt hi) hl, idxOk_nat (show i - 1 < (gl s 4).length by omega), Int.toNat_natCast, decide_eq_false h0, le_nt (gi (rd (gl s 4) i) 0)]
      cases decide (gi (rd (gl s 4) (i - 1)) 0 < gi (rd (gl s 4) i) 0) <;> rfl
  · intro m; simp only [spec_StateOk_l16, show gl (n_impl_State s) 4 = gl s 4 from rfl, lt_self, cond_false]; rfl
theorem impl_sess_eq {s : V} (hs : W_State s) : impl_StateOk_l19 ((gl s 4).length + 1) (gl s 4) (((gl s 4).length : Nat) : Int) 0 (n_impl_State s) = bif (List.range (gl s 4).length).all (sessB s) then some (1, false, n_impl_State s) else some (0, false, n_impl_State s) := by
  have hl := hs.2.2.2.2.1.1
  refine all_loopI (F := fun m i => impl_StateOk_l19 m (gl s 4) (((gl s 4).length : Nat) : Int) i (n_impl_State s)) (n := (gl s 4).length) (q := sessB s) (yes := some (1, false, n_impl_State s)) (no := some (0, false, n_impl_State s)) ?_ ?_
  · intro m i hi
    simp only [impl_StateOk_l19, show gl (n_impl_State s) 4 = gl s 4 from rfl, show gi (n_impl_State s) 0 = gi s 0 from rfl, show n_impl_State (n_impl_State s) = n_impl_State s from rfl, lt_nat hi, idxOk_nat hi, Int.toNat_natCast, cond_true, wr_succ hi hl, within_nt]
    unfold sessB
    cases decide (gi (rd (gl s 4) i) 0 < 1) <;> try rfl
    cases decide (gi s 0 < gi (rd (gl s 4) i) 0) <;> try rfl
    by_cases h0 : i = 0
    · subst h0
      rw [decide_eq_false (p := (0 : Int) < ((0 : Nat) : Int)) (by omega)]
      rfl
    · rw [decide_eq_true (p := (0 : Int) < (i : Int)) (by omega), wr_pred' h0 (Nat.le_of_lt hi) hl, idxOk_nat (show i - 1 < (gl s 4).length by omega), Int.toNat_natCast, decide_eq_false h0, le_nt (gi (rd (gl s 4) i) 0)]
      cases decide (gi (rd (gl s 4) (i - 1)) 0 < gi (rd (gl s 4) i) 0) <;> rfl
  · intro m; simp only [impl_StateOk_l19, lt_self, cond_false]; rfl
theorem lasts_cond {s : V} {i : Nat} : lastB s i = (decide (0 ≤ gi (rd (gl s 5) i) 0 ∧ gi (rd (gl s 5) i) 0 ≤ 3 ∧ 1 ≤ gi (rd (gl s 5) i) 1 ∧ gi (rd (gl s 5) i) 1 ≤ 1000000 ∧ 0 ≤ gi (rd (gl s 5) i) 2 ∧ gi (rd (gl s 5) i) 2 ≤ 5 ∧ 1 ≤ gi (rd (gl s 5) i) 3 ∧ gi (rd (gl s 5) i) 3 ≤ gi s 0) &&
  (decide (i = 0) || decide (gi (rd (gl s 5) (i - 1)) 0 < gi (rd (gl s 5) i) 0))) := rfl
theorem spec_lasts_eq {s : V} (hs : W_State s) : spec_StateOk_l21 ((gl s 5).length + 1) 0 (n_impl_State s) = bif (List.range (gl s 5).length).all (lastB s) then some (1, false) else some (0, false) := by
  have hl := hs.2.2.2.2.2.1
  refine all_loopI (F := fun m i => spec_StateOk_l21 m i (n_impl_State s)) (n := (gl s 5).length) (q := lastB s) (yes := some (1, false)) (no := some (0, false)) ?_ ?_
  · intro m i hi
    simp only [spec_StateOk_l21, show gl (n_impl_State s) 5 = gl s 5 from rfl, show gi (n_impl_State s) 0 = gi s 0 from rfl, show n_impl_State (n_impl_State s) = n_impl_State s from rfl, lt_nat hi, idxOk_nat hi, Int.toNat_natCast, cond_true, wr_succ hi hl]
    rw [lasts_cond]
    by_cases hc : 0 ≤ gi (rd (gl s 5) i) 0 ∧ gi (rd (gl s 5) i) 0 ≤ 3 ∧ 1 ≤ gi (rd (gl s 5) i) 1 ∧ gi (rd (gl s 5) i) 1 ≤ 1000000 ∧ 0 ≤ gi (rd (gl s 5) i) 2 ∧ gi (rd (gl s 5) i) 2 ≤ 5 ∧ 1 ≤ gi (rd (gl s 5) i) 3 ∧ gi (rd (gl s 5) i) 3 ≤ gi s 0
    · rw [decide_eq_true hc, decide_eq_false (p := gi (rd (gl s 5) i) 0 < 0) (by omega), decide_eq_false (p := (4 : Int) ≤ gi (rd (gl s 5) i) 0) (by omega), decide_eq_false (p := gi (rd (gl s 5) i) 1 < 1) (by omega), decide_eq_false (p := (1000000 : Int) < gi (rd (gl s 5) i) 1) (by omega), decide_eq_false (p := gi (rd (gl s 5) i) 2 < 0) (by omega), decide_eq_false (p := (5 : Int) < gi (rd (gl s 5) i) 2) (by omega), decide_eq_false (p := gi (rd (gl s 5) i) 3 < 1) (by omega), decide_eq_false (p := gi s 0 < gi (rd (gl s 5) i) 3) (by omega)]
      by_cases h0 : i = 0
      · subst h0
        rw [decide_eq_false (p := (0 : Int) < ((0 : Nat) : Int)) (by omega)]
        rfl
      · rw [decide_eq_true (p := (0 : Int) < (i : Int)) (by omega), wr_pred' h0 (Nat.le_of_lt hi) hl, idxOk_nat (show i - 1 < (gl s 5).length by omega)]
        simp only [Int.toNat_natCast, decide_eq_false h0, le_nt (gi (rd (gl s 5) i) 0)]
        cases decide (gi (rd (gl s 5) (i - 1)) 0 < gi (rd (gl s 5) i) 0) <;> rfl
    · rw [decide_eq_false hc, Bool.false_and, cond_false]
      cases h1 : decide (gi (rd (gl s 5) i) 0 < 0) <;> try rfl
      cases h2 : decide ((4 : Int) ≤ gi (rd (gl s 5) i) 0) <;> try rfl
      cases h3 : decide (gi (rd (gl s 5) i) 1 < 1) <;> try rfl
      cases h4 : decide ((1000000 : Int) < gi (rd (gl s 5) i) 1) <;> try rfl
      cases h5 : decide (gi (rd (gl s 5) i) 2 < 0) <;> try rfl
      cases h6 : decide ((5 : Int) < gi (rd (gl s 5) i) 2) <;> try rfl
      cases h7 : decide (gi (rd (gl s 5) i) 3 < 1) <;> try rfl
      cases h8 : decide (gi s 0 < gi (rd (gl s 5) i) 3) <;> try rfl
      simp only [decide_eq_false_iff_not] at h1 h2 h3 h4 h5 h6 h7 h8
      exact absurd (by omega) hc
  · intro m; simp only [spec_StateOk_l21, show gl (n_impl_State s) 5 = gl s 5 from rfl, lt_self, cond_false]
theorem impl_lasts_eq {s : V} (hs : W_State s) : impl_StateOk_l25 ((gl s 5).length + 1) (gl s 5) (((gl s 5).length : Nat) : Int) 0 (n_impl_State s) = bif (List.range (gl s 5).length).all (lastB s) then some (1, false) else some (0, false) := by
  have hl := hs.2.2.2.2.2.1
  refine all_loopI (F := fun m i => impl_StateOk_l25 m (gl s 5) (((gl s 5).length : Nat) : Int) i (n_impl_State s)) (n := (gl s 5).length) (q := lastB s) (yes := some (1, false)) (no := some (0, false)) ?_ ?_
  · intro m i hi
    simp only [impl_StateOk_l25, show gl (n_impl_State s) 5 = gl s 5 from rfl, show gi (n_impl_State s) 0 = gi s 0 from rfl, show n_impl_State (n_impl_State s) = n_impl_State s from rfl, lt_nat hi, idxOk_nat hi, Int.toNat_natCast, cond_true, wr_succ hi hl, within_eq]
    rw [lasts_cond]
    by_cases hc : 0 ≤ gi (rd (gl s 5) i) 0 ∧ gi (rd (gl s 5) i) 0 ≤ 3 ∧ 1 ≤ gi (rd (gl s 5) i) 1 ∧ gi (rd (gl s 5) i) 1 ≤ 1000000 ∧ 0 ≤ gi (rd (gl s 5) i) 2 ∧ gi (rd (gl s 5) i) 2 ≤ 5 ∧ 1 ≤ gi (rd (gl s 5) i) 3 ∧ gi (rd (gl s 5) i) 3 ≤ gi s 0
    · rw [decide_eq_true hc, decide_eq_true (p := 0 ≤ gi (rd (gl s 5) i) 0 ∧ gi (rd (gl s 5) i) 0 ≤ 3) (by omega), decide_eq_true (p := 1 ≤ gi (rd (gl s 5) i) 1 ∧ gi (rd (gl s 5) i) 1 ≤ 1000000) (by omega), decide_eq_true (p := 0 ≤ gi (rd (gl s 5) i) 2 ∧ gi (rd (gl s 5) i) 2 ≤ 5) (by omega), decide_eq_true (p := 1 ≤ gi (rd (gl s 5) i) 3 ∧ gi (rd (gl s 5) i) 3 ≤ gi s 0) (by omega)]
      by_cases h0 : i = 0
      · subst h0
        rw [decide_eq_false (p := (0 : Int) < ((0 : Nat) : Int)) (by omega)]
        rfl
      · rw [decide_eq_true (p := (0 : Int) < (i : Int)) (by omega), wr_pred' h0 (Nat.le_of_lt hi) hl, idxOk_nat (show i - 1 < (gl s 5).length by omega)]
        simp only [Int.toNat_natCast, decide_eq_false h0, le_nt (gi (rd (gl s 5) i) 0)]
        cases decide (gi (rd (gl s 5) (i - 1)) 0 < gi (rd (gl s 5) i) 0) <;> rfl
    · rw [decide_eq_false hc, Bool.false_and, cond_false]
      cases h1 : decide (0 ≤ gi (rd (gl s 5) i) 0 ∧ gi (rd (gl s 5) i) 0 ≤ 3) <;> try rfl
      cases h2 : decide (1 ≤ gi (rd (gl s 5) i) 1 ∧ gi (rd (gl s 5) i) 1 ≤ 1000000) <;> try rfl
      cases h3 : decide (0 ≤ gi (rd (gl s 5) i) 2 ∧ gi (rd (gl s 5) i) 2 ≤ 5) <;> try rfl
      cases h4 : decide (1 ≤ gi (rd (gl s 5) i) 3 ∧ gi (rd (gl s 5) i) 3 ≤ gi s 0) <;> try rfl
      rw [decide_eq_true_eq] at h1 h2 h3 h4
      exact absurd (by omega) hc
  · intro m; simp only [impl_StateOk_l25, lt_self, cond_false]
theorem bif_same {α : Type} (b : Bool) (x : α) : (bif b then x else x) = x := by cases b <;> rfl
theorem spec_StateOk_eq {s : V} (hs : W_State s) : spec_StateOk (n_impl_State s) = some (stateB s) := by
  unfold spec_StateOk stateB
  simp only [show gl (n_impl_State s) 1 = gl s 1 from rfl, show gl (n_impl_State s) 2 = gl s 2 from rfl, show gl (n_impl_State s) 4 = gl s 4 from rfl, show gl (n_impl_State s) 5 = gl s 5 from rfl, show gi (n_impl_State s) 0 = gi s 0 from rfl, show gi (n_impl_State s) 3 = gi s 3 from rfl, show n_impl_State (n_impl_State s) = n_impl_State s from rfl, fuel_eq]
  have h0 : spec_l2index (gi s 0) = decide (0 ≤ gi s 0 ∧ gi s 0 ≤ 1000000) := by
    unfold spec_l2index
    by_cases h : 0 ≤ gi s 0 <;> simp [h]
  rw [h0]
  by_cases hh : 0 ≤ gi s 0 ∧ gi s 0 ≤ 1000000 ∧ 0 ≤ gi s 3 ∧ gi s 3 ≤ gi s 0 ∧ (gl s 1).length ≤ 20 ∧ (gl s 2).length ≤ 10 ∧ (gl s 4).length ≤ 8 ∧ (gl s 5).length ≤ 4
  · rw [show headB s = true from decide_eq_true hh, decide_eq_true (p := 0 ≤ gi s 0 ∧ gi s 0 ≤ 1000000) (by omega), decide_eq_false (p := (20 : Int) < (((gl s 1).length : Nat) : Int)) (by omega), decide_eq_false (p := (10 : Int) < (((gl s 2).length : Nat) : Int)) (by omega), decide_eq_false (p := gi s 3 < 0) (by omega), decide_eq_false (p := gi s 0 < gi s 3) (by omega), decide_eq_false (p := (8 : Int) < (((gl s 4).length : Nat) : Int)) (by omega), decide_eq_false (p := (4 : Int) < (((gl s 5).length : Nat) : Int)) (by omega)]
    simp only [Bool.not_true, cond_false, Bool.true_and, spec_rows_eq hs]
    cases (List.range (gl s 1).length).all (rowB s) <;> simp only [cond_true, cond_false, Option.bind_some] <;> try rfl
    simp only [show Nat.beq 1 0 = false from rfl, cond_false, show n_impl_State (n_impl_State s) = n_impl_State s from rfl, show gl (n_impl_State s) 2 = gl s 2 from rfl, spec_tombs_eq hs]
    cases (List.range (gl s 2).length).all (tombB s) <;> simp only [cond_true, cond_false, Option.bind_some] <;> try rfl
    simp only [show Nat.beq 1 0 = false from rfl, cond_false, show n_impl_State (n_impl_State s) = n_impl_State s from rfl, show gl (n_impl_State s) 4 = gl s 4 from rfl, spec_sess_eq hs]
    cases (List.range (gl s 4).length).all (sessB s) <;> simp only [cond_true, cond_false, Option.bind_some] <;> try rfl
    simp only [show Nat.beq 1 0 = false from rfl, cond_false, show n_impl_State (n_impl_State s) = n_impl_State s from rfl, show gl (n_impl_State s) 5 = gl s 5 from rfl, spec_lasts_eq hs]
    cases (List.range (gl s 5).length).all (lastB s) <;> rfl
  · rw [show headB s = false from decide_eq_false hh, Bool.false_and]
    cases h1 : decide (0 ≤ gi s 0 ∧ gi s 0 ≤ 1000000) <;> try rfl
    cases h2 : decide ((20 : Int) < (((gl s 1).length : Nat) : Int)) <;> try rfl
    cases h3 : decide ((10 : Int) < (((gl s 2).length : Nat) : Int)) <;> try rfl
    cases h4 : decide (gi s 3 < 0) <;> try rfl
    cases h5 : decide (gi s 0 < gi s 3) <;> try rfl
    cases h6 : decide ((8 : Int) < (((gl s 4).length : Nat) : Int)) <;> try rfl
    cases h7 : decide ((4 : Int) < (((gl s 5).length : Nat) : Int)) <;> try rfl
    simp only [decide_eq_false_iff_not, decide_eq_true_eq] at h1 h2 h3 h4 h5 h6 h7
    exact absurd (by omega) hh
theorem impl_StateOk_eq {s : V} (hs : W_State s) : impl_StateOk (n_impl_State s) = some (stateB s) := by
  unfold impl_StateOk stateB
  simp only [show gl (n_impl_State s) 1 = gl s 1 from rfl, show gl (n_impl_State s) 2 = gl s 2 from rfl, show gl (n_impl_State s) 4 = gl s 4 from rfl, show gl (n_impl_State s) 5 = gl s 5 from rfl, show gi (n_impl_State s) 0 = gi s 0 from rfl, show gi (n_impl_State s) 3 = gi s 3 from rfl, show n_impl_State (n_impl_State s) = n_impl_State s from rfl, fuel_eq, within_eq]
  by_cases hh : 0 ≤ gi s 0 ∧ gi s 0 ≤ 1000000 ∧ 0 ≤ gi s 3 ∧ gi s 3 ≤ gi s 0 ∧ (gl s 1).length ≤ 20 ∧ (gl s 2).length ≤ 10 ∧ (gl s 4).length ≤ 8 ∧ (gl s 5).length ≤ 4
  · rw [show headB s = true from decide_eq_true hh, decide_eq_true (p := 0 ≤ gi s 0 ∧ gi s 0 ≤ 1000000) (by omega), decide_eq_true (p := 0 ≤ gi s 3 ∧ gi s 3 ≤ gi s 0) (by omega), decide_eq_false (p := (20 : Int) < (((gl s 1).length : Nat) : Int)) (by omega), decide_eq_false (p := (10 : Int) < (((gl s 2).length : Nat) : Int)) (by omega), decide_eq_false (p := (8 : Int) < (((gl s 4).length : Nat) : Int)) (by omega), decide_eq_false (p := (4 : Int) < (((gl s 5).length : Nat) : Int)) (by omega)]
    simp only [Bool.not_true, cond_false, Bool.true_and, impl_rows_eq hs]
    cases hr : (List.range (gl s 1).length).all (rowB s) <;> simp only [cond_true, cond_false, Option.bind_some] <;> try rfl
    simp only [show Nat.beq 1 0 = false from rfl, cond_false, show n_impl_State (n_impl_State s) = n_impl_State s from rfl, show gl (n_impl_State s) 2 = gl s 2 from rfl, show gi (n_impl_State s) 3 = gi s 3 from rfl, impl_tombs_eq hs (by omega) (rowB_asc hr)]
    cases (List.range (gl s 2).length).all (tombB s) <;> simp only [cond_true, cond_false, Option.bind_some] <;> try rfl
    simp only [show Nat.beq 1 0 = false from rfl, cond_false, show n_impl_State (n_impl_State s) = n_impl_State s from rfl, show gl (n_impl_State s) 4 = gl s 4 from rfl, impl_sess_eq hs]
    cases (List.range (gl s 4).length).all (sessB s) <;> simp only [cond_true, cond_false, Option.bind_some] <;> try rfl
    simp only [show Nat.beq 1 0 = false from rfl, cond_false, show n_impl_State (n_impl_State s) = n_impl_State s from rfl, show gl (n_impl_State s) 5 = gl s 5 from rfl, impl_lasts_eq hs]
    cases (List.range (gl s 5).length).all (lastB s) <;> rfl
  · rw [show headB s = false from decide_eq_false hh, Bool.false_and]
    cases h1 : decide (0 ≤ gi s 0 ∧ gi s 0 ≤ 1000000) <;> try rfl
    cases h4 : decide (0 ≤ gi s 3 ∧ gi s 3 ≤ gi s 0) <;> try rfl
    cases h2 : decide ((20 : Int) < (((gl s 1).length : Nat) : Int)) <;> try rfl
    cases h3 : decide ((10 : Int) < (((gl s 2).length : Nat) : Int)) <;> try rfl
    cases h6 : decide ((8 : Int) < (((gl s 4).length : Nat) : Int)) <;> try rfl
    cases h7 : decide ((4 : Int) < (((gl s 5).length : Nat) : Int)) <;> try rfl
    simp only [decide_eq_false_iff_not, decide_eq_true_eq] at h1 h2 h3 h4 h6 h7
    exact absurd (by omega) hh
end Go.Eng.R
open Go Go.Eng
namespace Go.Eng.R
def ltT (a b : V) : Bool := decide (gi a 1 < gi b 1 ∨ gi a 1 = gi b 1 ∧ gi a 0 < gi b 0)
theorem ahead_eq (a b : V) : spec_l7ahead a b = ltT a b := by
  unfold spec_l7ahead ltT
  by_cases h1 : gi a 1 < gi b 1 <;> by_cases h2 : gi a 1 = gi b 1 <;> simp [h1, h2]
theorem or_eq (x y : Int) : cmp_Or_int [.int .i64 x, .int .i64 y] = some (bif decide (x = 0) then y else x) := by
  have e : cmp_Or_int [.int .i64 x, .int .i64 y] = Option.bind (cmp_Or_int_l3 3 0 [.int .i64 x, .int .i64 y] 2 0) fun r22 => bif (Nat.beq r22.1 0) then some r22.2.1 else some r22.2.2 := rfl
  rw [e]
  have g0 : gi (rd [V.int .i64 x, V.int .i64 y] 0) 0 = x := rfl
  have g1 : gi (rd [V.int .i64 x, V.int .i64 y] 1) 0 = y := rfl
  have w0 : IntKind.i64.wrap (0 + 1) = 1 := by decide
  have w1 : IntKind.i64.wrap (1 + 1) = 2 := by decide
  have i0 : idxOk 0 [V.int .i64 x, V.int .i64 y].length = true := rfl
  have i1 : idxOk 1 [V.int .i64 x, V.int .i64 y].length = true := rfl
  have d0 : decide ((0 : Int) < 2) = true := rfl
  have d1 : decide ((1 : Int) < 2) = true := rfl
  have d2 : decide ((2 : Int) < 2) = false := rfl
  have t0 : (0 : Int).toNat = 0 := rfl
  have t1 : (1 : Int).toNat = 1 := rfl
  simp only [cmp_Or_int_l3, d0, d1, d2, i0, i1, t0, t1, g0, g1, w0, w1, cond_true, cond_false]
  by_cases hx : x = 0
  · subst hx
    by_cases hy : y = 0
    · subst hy; rfl
    · simp [hy]
  · simp [hx]
theorem cmp_eq (a b : V) : impl_compareTimers a b = some (cfT a b) := by
  have c : ∀ x y : Int, cmp_Compare_int x y = bif decide (x < y) then -1 else bif decide (y < x) then 1 else 0 := fun x y => by
    unfold cmp_Compare_int cmp_isNaN_int
    simp
  unfold impl_compareTimers cfT
  rw [or_eq, c, c]
  simp only [Option.bind_some]
  by_cases h1 : gi a 1 < gi b 1 <;> by_cases h2 : gi b 1 < gi a 1 <;> simp [h1, h2]
theorem cfT_neg (a b : V) : decide ((0 : Int) ≤ cfT a b) = !ltT a b := by
  have := cfT_lt a b
  unfold Go.Proofs.ltOf at this
  have e : ltT a b = decide (cfT a b < 0) := this.symm
  rw [e]
  by_cases h : cfT a b < 0
  · rw [decide_eq_true h, decide_eq_false (by omega)]; rfl
  · rw [decide_eq_false h, decide_eq_true (by omega)]; rfl
def fT (l : List V) (id : Int) : Int := match firstI (fun i => decide (gi (rd l i) 0 = id)) 0 l.length with | some j => (j : Int) | none => -1
theorem fT_cases (l : List V) (id : Int) : (fT l id = -1 ∧ ∀ j, j < l.length → gi (rd l j) 0 ≠ id) ∨ ∃ k : Nat, fT l id = (k : Int) ∧ k < l.length ∧ gi (rd l k) 0 = id ∧ ∀ j : Nat, j < k → gi (rd l j) 0 ≠ id := by
  unfold fT
  cases hf : firstI (fun i => decide (gi (rd l i) 0 = id)) 0 l.length with
  | none =>
    rw [firstI_none] at hf
    exact .inl ⟨rfl, fun j hj => by have := hf j (by omega) (by omega); simpa using this⟩
  | some k =>
    obtain ⟨-, h1, h2, h3⟩ := firstI_some hf
    exact .inr ⟨k, rfl, by omega, by simpa using h2, fun j hj => by have := h3 j (by omega) hj; simpa using this⟩
theorem l7find_eq {l : List V} (hl : l.length ≤ 9223372036854775807) (id : Int) : spec_l7find l id = some (fT l id) := by
  unfold spec_l7find fT
  rw [fuel_eq, show (0 : Int) = ((0 : Nat) : Int) from rfl, find_loop (F := fun m i => spec_l7find_l2 m l id i) (n := l.length) (q := fun i => decide (gi (rd l i) 0 = id)) (out := fun j => some (0, j)) (no := some (1, 0)) ?_ ?_ (l.length + 1) 0 (by omega) (by omega)]
  · rw [Nat.sub_zero]
    cases firstI (fun i => decide (gi (rd l i) 0 = id)) 0 l.length <;> rfl
  · intro m i hi
    simp only [spec_l7find_l2, lt_nat hi, idxOk_nat hi, Int.toNat_natCast, cond_true, wr_succ hi hl]
  · intro m; simp only [spec_l7find_l2, lt_self, cond_false]
theorem timer_eq {w : V} (hl : (gl w 1).length ≤ 9223372036854775807) (id : Int) : impl_Wheel_timer (n_impl_Wheel w) id = some (fT (gl w 1) id) := by
  unfold impl_Wheel_timer slices_IndexFunc_Timer fT
  rw [show gl (n_impl_Wheel w) 1 = gl w 1 from rfl, fuel_eq, show (0 : Int) = ((0 : Nat) : Int) from rfl, find_loop (F := fun m i => slices_IndexFunc_Timer_l2 m (gl w 1) (V.agg [(V.int .i64 (gi (V.agg [(V.int .i64 id)]) 0))]) (((gl w 1).length : Nat) : Int) i) (n := (gl w 1).length) (q := fun i => decide (gi (rd (gl w 1) i) 0 = id)) (out := fun j => some (0, j)) (no := some (1, 0)) ?_ ?_ ((gl w 1).length + 1) 0 (by omega) (by omega)]
  · rw [Nat.sub_zero]
    cases firstI (fun i => decide (gi (rd (gl w 1) i) 0 = id)) 0 (gl w 1).length <;> rfl
  · intro m i hi
    simp only [slices_IndexFunc_Timer_l2, lt_nat hi, idxOk_nat hi, Int.toNat_natCast, cond_true, wr_succ hi hl]
    rfl
  · intro m; simp only [slices_IndexFunc_Timer_l2, lt_self, cond_false]
theorem rd_take {l : List V} {i j : Nat} (h : j < i) : rd (l.take i) j = rd l j := by simp [rd, List.getD, h]
theorem fT_self {l : List V} {i : Nat} (hi : i < l.length) : decide (fT l (gi (rd l i) 0) = (i : Int)) = decide (fT (l.take i) (gi (rd l i) 0) < 0) := by
  have hlen : (l.take i).length = i := by simp; omega
  rcases fT_cases (l.take i) (gi (rd l i) 0) with ⟨e, h⟩ | ⟨k, e, h1, h2, h3⟩
  · rw [e, decide_eq_true (p := (-1 : Int) < 0) (by decide)]
    rcases fT_cases l (gi (rd l i) 0) with ⟨e', h'⟩ | ⟨k', e', k1, k2, k3⟩
    · exact absurd rfl (h' i hi)
    · rw [e', decide_eq_true_eq]
      rcases Nat.lt_trichotomy k' i with c | c | c
      · exact absurd (by rw [rd_take c]; exact k2) (h k' (by omega))
      · omega
      · exact absurd rfl (k3 i c)
  · rw [hlen] at h1
    rw [rd_take h1] at h2
    rw [e, decide_eq_false (p := ((k : Nat) : Int) < 0) (by omega), decide_eq_false_iff_not]
    rcases fT_cases l (gi (rd l i) 0) with ⟨e', h'⟩ | ⟨k', e', k1, k2, k3⟩
    · exact absurd rfl (h' i hi)
    · rw [e']
      intro c
      have c : k' = i := by omega
      exact k3 k (by omega) h2
def okT (w : V) (i : Nat) : Bool := decide (0 ≤ gi (rd (gl w 1) i) 0 ∧ gi (rd (gl w 1) i) 0 ≤ 2147483647 ∧ gi w 0 < gi (rd (gl w 1) i) 1 ∧ gi (rd (gl w 1) i) 1 ≤ 2000000) && ((decide (i = 0) || ltT (rd (gl w 1) (i - 1)) (rd (gl w 1) i)) && decide (fT ((gl w 1).take i) (gi (rd (gl w 1) i) 0) < 0))
def okW (w : V) : Bool := decide (0 ≤ gi w 0 ∧ gi w 0 ≤ 1000000 ∧ (gl w 1).length ≤ 40) && (List.range (gl w 1).length).all (okT w)
theorem wrp {k n : Nat} (h0 : 0 < k) (h : k ≤ n) (hn : n ≤ 9223372036854775807) : IntKind.i64.wrap ((k : Int) - 1) = ((k - 1 : Nat) : Int) := by rw [wr64' (by omega) (by omega)]; omega
theorem spec_WheelOk_eq {w : V} (hw : W_Wheel w) : spec_WheelOk (n_impl_Wheel w) = some (okW w) := by
  have hl := hw.2.1
  unfold spec_WheelOk okW
  simp only [show gl (n_impl_Wheel w) 1 = gl w 1 from rfl, show gi (n_impl_Wheel w) 0 = gi w 0 from rfl, show n_impl_Wheel (n_impl_Wheel w) = n_impl_Wheel w from rfl]
  by_cases h1 : gi w 0 < 0
  · rw [decide_eq_true h1, decide_eq_false (p := 0 ≤ gi w 0 ∧ gi w 0 ≤ 1000000 ∧ (gl w 1).length ≤ 40) (by omega)]; rfl
  by_cases h2 : 1000000 < gi w 0
  · rw [decide_eq_false h1, decide_eq_true h2, decide_eq_false (p := 0 ≤ gi w 0 ∧ gi w 0 ≤ 1000000 ∧ (gl w 1).length ≤ 40) (by omega)]; rfl
  by_cases h3 : (40 : Int) < (((gl w 1).length : Nat) : Int)
  · rw [decide_eq_false h1, decide_eq_false h2, decide_eq_true h3, decide_eq_false (p := 0 ≤ gi w 0 ∧ gi w 0 ≤ 1000000 ∧ (gl w 1).length ≤ 40) (by omega)]; rfl
  rw [decide_eq_false h1, decide_eq_false h2, decide_eq_false h3, decide_eq_true (p := 0 ≤ gi w 0 ∧ gi w 0 ≤ 1000000 ∧ (gl w 1).length ≤ 40) (by omega), Bool.true_and]
  simp only [cond_false]
  rw [fuel_eq, all_loopI (F := fun m i => spec_WheelOk_l4 m i (n_impl_Wheel w)) (n := (gl w 1).length) (q := okT w) (yes := some (1, false)) (no := some (0, false)) ?_ ?_]
  · cases (List.range (gl w 1).length).all (okT w) <;> rfl
  · intro m i hi
    have hi' : i ≤ (gl w 1).length := Nat.le_of_lt hi
    simp only [spec_WheelOk_l4, show gl (n_impl_Wheel w) 1 = gl w 1 from rfl, show gi (n_impl_Wheel w) 0 = gi w 0 from rfl, show n_impl_Wheel (n_impl_Wheel w) = n_impl_Wheel w from rfl, lt_nat hi, idxOk_nat hi, Int.toNat_natCast, cond_true, wr_succ hi hl]
    by_cases g1 : gi (rd (gl w 1) i) 0 < 0
    · rw [decide_eq_true g1, show okT w i = false from by unfold okT; rw [decide_eq_false (by omega)]; rfl]; rfl
    by_cases g2 : 2147483647 < gi (rd (gl w 1) i) 0
    · rw [decide_eq_false g1, decide_eq_true g2, show okT w i = false from by unfold okT; rw [decide_eq_false (by omega)]; rfl]; rfl
    by_cases g3 : gi (rd (gl w 1) i) 1 ≤ gi w 0
    · rw [decide_eq_false g1, decide_eq_false g2, decide_eq_true g3, show okT w i = false from by unfold okT; rw [decide_eq_false (by omega)]; rfl]; rfl
    by_cases g4 : 2000000 < gi (rd (gl w 1) i) 1
    · rw [decide_eq_false g1, decide_eq_false g2, decide_eq_false g3, decide_eq_true g4, show okT w i = false from by unfold okT; rw [decide_eq_false (by omega)]; rfl]; rfl
    rw [decide_eq_false g1, decide_eq_false g2, decide_eq_false g3, decide_eq_false g4, decide_eq_true (p := (0 : Int) ≤ (i : Int)) (by omega), decide_eq_true (p := (i : Int) ≤ (((gl w 1).length : Nat) : Int)) (by omega)]
    rw [show okT w i = ((decide (i = 0) || ltT (rd (gl w 1) (i - 1)) (rd (gl w 1) i)) && decide (fT ((gl w 1).take i) (gi (rd (gl w 1) i) 0) < 0)) from by unfold okT; rw [decide_eq_true (by omega), Bool.true_and]]
    simp only [cond_false, Bool.and_self, cond_true, l7find_eq (l := (gl w 1).take i) (by simp; omega), Option.bind_some]
    by_cases h0 : i = 0
    · subst h0
      rw [decide_eq_false (p := (0 : Int) < ((0 : Nat) : Int)) (by omega)]
      by_cases hf : fT ((gl w 1).take 0) (gi (rd (gl w 1) 0) 0) < 0
      · rw [decide_eq_true hf, decide_eq_false (p := (0 : Int) ≤ fT ((gl w 1).take 0) (gi (rd (gl w 1) 0) 0)) (by omega)]; rfl
      · rw [decide_eq_false hf, decide_eq_true (p := (0 : Int) ≤ fT ((gl w 1).take 0) (gi (rd (gl w 1) 0) 0)) (by omega)]; rfl
    · rw [decide_eq_true (p := (0 : Int) < (i : Int)) (by omega), wrp (by omega) hi' hl, idxOk_nat (show i - 1 < (gl w 1).length by omega), Int.toNat_natCast, decide_eq_false h0, ahead_eq, show ltT (n_impl_Reply (rd (gl w 1) (i - 1))) (n_impl_Reply (rd (gl w 1) i)) = ltT (rd (gl w 1) (i - 1)) (rd (gl w 1) i) from rfl]
      cases ltT (rd (gl w 1) (i - 1)) (rd (gl w 1) i) with
      | false => rfl
      | true =>
        by_cases hf : fT ((gl w 1).take i) (gi (rd (gl w 1) i) 0) < 0
        · rw [decide_eq_true hf, decide_eq_false (p := (0 : Int) ≤ fT ((gl w 1).take i) (gi (rd (gl w 1) i) 0)) (by omega)]; rfl
        · rw [decide_eq_false hf, decide_eq_true (p := (0 : Int) ≤ fT ((gl w 1).take i) (gi (rd (gl w 1) i) 0)) (by omega)]; rfl
  · intro m; simp only [spec_WheelOk_l4, show gl (n_impl_Wheel w) 1 = gl w 1 from rfl, lt_self, cond_false]
theorem impl_WheelOk_eq {w : V} (hw : W_Wheel w) : impl_WheelOk (n_impl_Wheel w) = some (okW w) := by
  have hl := hw.2.1
  unfold impl_WheelOk okW
  simp only [show gl (n_impl_Wheel w) 1 = gl w 1 from rfl, show gi (n_impl_Wheel w) 0 = gi w 0 from rfl, show n_impl_Wheel (n_impl_Wheel w) = n_impl_Wheel w from rfl, within_eq]
  by_cases h1 : 0 ≤ gi w 0 ∧ gi w 0 ≤ 1000000
  case neg => rw [decide_eq_false h1, decide_eq_false (p := 0 ≤ gi w 0 ∧ gi w 0 ≤ 1000000 ∧ (gl w 1).length ≤ 40) (by omega)]; rfl
  by_cases h3 : (40 : Int) < (((gl w 1).length : Nat) : Int)
  · rw [decide_eq_true h1, decide_eq_true h3, decide_eq_false (p := 0 ≤ gi w 0 ∧ gi w 0 ≤ 1000000 ∧ (gl w 1).length ≤ 40) (by omega)]; rfl
  rw [decide_eq_true h1, decide_eq_false h3, decide_eq_true (p := 0 ≤ gi w 0 ∧ gi w 0 ≤ 1000000 ∧ (gl w 1).length ≤ 40) (by omega), Bool.true_and]
  simp only [cond_false, Bool.not_true]
  rw [fuel_eq, all_loopI (F := fun m i => impl_WheelOk_l4 m (gl w 1) (((gl w 1).length : Nat) : Int) i (n_impl_Wheel w)) (n := (gl w 1).length) (q := okT w) (yes := some (1, false)) (no := some (0, false)) ?_ ?_]
  · cases (List.range (gl w 1).length).all (okT w) <;> rfl
  · intro m i hi
    have hi' : i ≤ (gl w 1).length := Nat.le_of_lt hi
    have hwr : IntKind.i64.wrap (gi w 0 + 1) = gi w 0 + 1 := wr64' (by omega) (by omega)
    simp only [impl_WheelOk_l4, impl_isId, within_eq, show gl (n_impl_Wheel w) 1 = gl w 1 from rfl, show gi (n_impl_Wheel w) 0 = gi w 0 from rfl, show n_impl_Wheel (n_impl_Wheel w) = n_impl_Wheel w from rfl, lt_nat hi, idxOk_nat hi, Int.toNat_natCast, cond_true, wr_succ hi hl, timer_eq hl, Option.bind_some, fT_self hi, hwr]
    by_cases g1 : 0 ≤ gi (rd (gl w 1) i) 0 ∧ gi (rd (gl w 1) i) 0 ≤ 2147483647
    case neg => rw [decide_eq_false g1, show okT w i = false from by unfold okT; rw [decide_eq_false (by omega)]; rfl]; rfl
    by_cases hf : fT ((gl w 1).take i) (gi (rd (gl w 1) i) 0) < 0
    case neg => rw [decide_eq_true g1, decide_eq_false hf, show okT w i = false from by unfold okT; rw [decide_eq_false hf]; simp]; rfl
    by_cases g3 : gi w 0 + 1 ≤ gi (rd (gl w 1) i) 1 ∧ gi (rd (gl w 1) i) 1 ≤ 2000000
    case neg => rw [decide_eq_true g1, decide_eq_true hf, decide_eq_false g3, show okT w i = false from by unfold okT; rw [decide_eq_false (by omega)]; rfl]; rfl
    rw [decide_eq_true g1, decide_eq_true hf, decide_eq_true g3]
    rw [show okT w i = (decide (i = 0) || ltT (rd (gl w 1) (i - 1)) (rd (gl w 1) i)) from by unfold okT; rw [decide_eq_true (by omega), decide_eq_true hf, Bool.true_and, Bool.and_true]]
    simp only [cond_false, Bool.not_true]
    by_cases h0 : i = 0
    · subst h0
      rw [decide_eq_false (p := (0 : Int) < ((0 : Nat) : Int)) (by omega)]
      rfl
    · rw [decide_eq_true (p := (0 : Int) < (i : Int)) (by omega), wrp (by omega) hi' hl, idxOk_nat (show i - 1 < (gl w 1).length by omega), Int.toNat_natCast, decide_eq_false h0, cmp_eq]
      simp only [Option.bind_some, cond_true, cfT_neg, show ltT (n_impl_Reply (rd (gl w 1) (i - 1))) (n_impl_Reply (rd (gl w 1) i)) = ltT (rd (gl w 1) (i - 1)) (rd (gl w 1) i) from rfl]
      cases ltT (rd (gl w 1) (i - 1)) (rd (gl w 1) i) <;> rfl
  · intro m; simp only [impl_WheelOk_l4, lt_self, cond_false]
end Go.Eng.R
open Go Go.Eng
namespace Go.Eng.R
theorem ltT_iff (a b : V) : ltT a b = true ↔ (gi a 1 < gi b 1 ∨ gi a 1 = gi b 1 ∧ gi a 0 < gi b 0) := by unfold ltT; rw [decide_eq_true_eq]
theorem ltT_trans {a b c : V} (h1 : ltT a b = true) (h2 : ltT b c = true) : ltT a c = true := by rw [ltT_iff] at *; omega
theorem ltT_asymm {a b : V} (h1 : ltT a b = true) : ltT b a = false := by
  rw [ltT_iff] at h1
  cases h : ltT b a with
  | false => rfl
  | true => rw [ltT_iff] at h; omega
theorem ltT_tri {a b : V} (h1 : ltT a b = false) (h2 : gi a 0 ≠ gi b 0) : ltT b a = true := by
  rw [ltT_iff]
  have : ¬ (gi a 1 < gi b 1 ∨ gi a 1 = gi b 1 ∧ gi a 0 < gi b 0) := by rw [← ltT_iff, h1]; simp
  omega
structure Good (l : List V) : Prop where
  asc : l.Pairwise fun a b => ltT a b = true
  ids : l.Pairwise fun a b => gi a 0 ≠ gi b 0
theorem okW_spec {w : V} (h : okW w = true) : 0 ≤ gi w 0 ∧ gi w 0 ≤ 1000000 ∧ (gl w 1).length ≤ 40 ∧ Good (gl w 1) := by
  unfold okW at h
  simp only [Bool.and_eq_true, decide_eq_true_eq, List.all_eq_true, List.mem_range] at h
  obtain ⟨⟨h1, h2, h3⟩, h4⟩ := h
  have hq : ∀ i, i < (gl w 1).length → (i = 0 ∨ ltT (rd (gl w 1) (i - 1)) (rd (gl w 1) i) = true) ∧ fT ((gl w 1).take i) (gi (rd (gl w 1) i) 0) < 0 := fun i hi => by
    have := h4 i hi
    unfold okT at this
    simp only [Bool.and_eq_true, Bool.or_eq_true, decide_eq_true_eq] at this
    exact this.2
  have hasc : ∀ j i, i < j → j < (gl w 1).length → ltT (rd (gl w 1) i) (rd (gl w 1) j) = true := by
    intro j
    induction j with
    | zero => intro i hi; omega
    | succ j ih =>
      intro i hi hj
      have hs := (hq (j + 1) hj).1
      rcases hs with hs | hs
      · omega
      rcases Nat.eq_or_lt_of_le (Nat.le_of_lt_succ hi) with e | e
      · subst e; exact hs
      · exact ltT_trans (ih i e (by omega)) hs
  refine ⟨h1, h2, h3, ⟨?_, ?_⟩⟩
  · rw [List.pairwise_iff_getElem]
    intro i j hi hj hij
    have := hasc j i hij hj
    rw [rd_eq hi, rd_eq hj] at this
    exact this
  · rw [List.pairwise_iff_getElem]
    intro i j hi hj hij
    have h5 := (hq j hj).2
    have hlen : ((gl w 1).take j).length = j := by simp; omega
    rcases fT_cases ((gl w 1).take j) (gi (rd (gl w 1) j) 0) with ⟨e, h⟩ | ⟨k, e, h1, h2, h3⟩
    · have := h i (by omega)
      rw [rd_take hij, rd_eq hi, rd_eq hj] at this
      exact this
    · omega
theorem Good.sub {l l' : List V} (h : Good l) (hs : l'.Sublist l) : Good l' := ⟨h.asc.sublist hs, h.ids.sublist hs⟩
theorem sort_eq {l s : List V} (hs : s.Pairwise fun a b => ltT a b = true) (hp : l.Perm s) : srtV cfT l = s := by
  have hsp := srtV_perm cfT cfT_swo l
  refine List.Perm.eq_of_pairwise (le := fun a b => ltT b a = false) ?_ ?_ ?_ (hsp.trans hp)
  · intro a b ha hb h1 h2
    have ha : a ∈ s := (hsp.trans hp).mem_iff.1 ha
    obtain ⟨i, hi, rfl⟩ := List.getElem_of_mem ha
    obtain ⟨j, hj, rfl⟩ := List.getElem_of_mem hb
    rw [List.pairwise_iff_getElem] at hs
    rcases Nat.lt_trichotomy i j with c | c | c
    · have := hs i j hi hj c; rw [this] at h2; cases h2
    · subst c; rfl
    · have := hs j i hj hi c; rw [this] at h1; cases h1
  · rw [List.pairwise_iff_getElem]
    intro i j hi hj hij
    have hl : (srtV cfT l).length = l.length := srtV_length cfT cfT_swo l
    have := srtV_sorted cfT cfT_swo l i j hij (by omega)
    rw [show (srtV cfT l).getD j default = (srtV cfT l)[j] from by simp [List.getD, hj], show (srtV cfT l).getD i default = (srtV cfT l)[i] from by simp [List.getD, hi]] at this
    have h2 := cfT_lt (srtV cfT l)[j] (srtV cfT l)[i]
    unfold Go.Proofs.ltOf at h2
    rw [h2] at this
    exact this
  · exact hs.imp fun h => ltT_asymm h
def stopL (l : List V) (id : Int) : List V := match firstI (fun i => decide (gi (rd l i) 0 = id)) 0 l.length with | some k => l.take k ++ l.drop (k + 1) | none => l
theorem stopL_cases (l : List V) (id : Int) : (fT l id = -1 ∧ stopL l id = l ∧ ∀ j, j < l.length → gi (rd l j) 0 ≠ id) ∨ ∃ k : Nat, fT l id = (k : Int) ∧ k < l.length ∧ gi (rd l k) 0 = id ∧ stopL l id = l.take k ++ l.drop (k + 1) := by
  unfold fT stopL
  cases hf : firstI (fun i => decide (gi (rd l i) 0 = id)) 0 l.length with
  | none =>
    rw [firstI_none] at hf
    exact .inl ⟨rfl, rfl, fun j hj => by have := hf j (by omega) (by omega); simpa using this⟩
  | some k =>
    obtain ⟨-, h1, h2, h3⟩ := firstI_some hf
    exact .inr ⟨k, rfl, by omega, by simpa using h2, rfl⟩
theorem stopL_sub (l : List V) (id : Int) : (stopL l id).Sublist l := by
  rcases stopL_cases l id with ⟨_, e, _⟩ | ⟨k, _, _, _, e⟩
  · rw [e]; exact List.Sublist.refl _
  · rw [e]
    have h1 : (l.take k ++ l.drop (k + 1)).Sublist (l.take k ++ l.drop k) := (List.Sublist.refl _).append (by rw [← List.drop_drop]; exact List.drop_sublist _ _)
    rwa [List.take_append_drop] at h1
theorem stopL_no {l : List V} {id : Int} (h : Good l) : ∀ x ∈ stopL l id, gi x 0 ≠ id := by
  rcases stopL_cases l id with ⟨_, e, h2⟩ | ⟨k, _, hk, h2, e⟩
  · rw [e]
    intro x hx
    obtain ⟨j, hj, rfl⟩ := List.getElem_of_mem hx
    have := h2 j hj
    rwa [rd_eq hj] at this
  · rw [e]
    intro x hx hxi
    rw [rd_eq hk] at h2
    have hp := h.ids
    rw [List.pairwise_iff_getElem] at hp
    rcases List.mem_append.1 hx with hx | hx
    · obtain ⟨j, hj, rfl⟩ := List.getElem_of_mem hx
      simp only [List.length_take] at hj
      rw [List.getElem_take] at hxi
      exact hp j k (by omega) hk (by omega) (hxi.trans h2.symm)
    · obtain ⟨j, hj, rfl⟩ := List.getElem_of_mem hx
      simp only [List.length_drop] at hj
      rw [List.getElem_drop] at hxi
      exact hp k (k + 1 + j) hk (by omega) (by omega) (h2.trans hxi.symm)
theorem stopL_len (l : List V) (id : Int) : (stopL l id).length ≤ l.length := (stopL_sub l id).length_le
theorem spec_stop_eq {w : V} (hl : (gl w 2).length ≤ 4194304) (id : Int) : ∃ b, spec_l7stop (n_impl_Duty w) id = some (b, V.agg [V.int .i64 (gi w 0), V.int .i64 (gi w 1), V.inl t_impl_Timer (stopL (gl w 2) id)]) := by
  unfold spec_l7stop
  rw [show gl (n_impl_Duty w) 2 = gl w 2 from rfl, show gi (n_impl_Duty w) 0 = gi w 0 from rfl, show gi (n_impl_Duty w) 1 = gi w 1 from rfl, l7find_eq (by omega)]
  simp only [Option.bind_some]
  rcases stopL_cases (gl w 2) id with ⟨e, e2, _⟩ | ⟨k, e, hk, _, e2⟩
  · rw [e, e2]; exact ⟨false, rfl⟩
  · rw [e, e2, decide_eq_false (p := (k : Int) < 0) (by omega), decide_eq_true (p := (0 : Int) ≤ (k : Int)) (by omega), decide_eq_true (p := (k : Int) ≤ (((gl w 2).length : Nat) : Int)) (by omega), wr_succ hk (by omega), decide_eq_true (p := (0 : Int) ≤ ((k + 1 : Nat) : Int)) (by omega), decide_eq_true (p := ((k + 1 : Nat) : Int) ≤ (((gl w 2).length : Nat) : Int)) (by omega)]
    simp only [cond_false, Bool.and_self, cond_true, Int.toNat_natCast, Nat.zero_add, Bool.and_true]
    rw [roomy_of (n := ((gl w 2).take k).length) (by simp; omega) (by simp; omega), roomy_of (n := ((gl w 2).take k).length + ((gl w 2).drop (k + 1)).length) (by simp; omega) (by simp; omega)]
    exact ⟨true, rfl⟩
theorem impl_stop_eq {w : V} (hl : (gl w 2).length ≤ 4194304) (id : Int) : ∃ b, impl_Wheel_stop (n_impl_Duty w) id = some (b, V.agg [V.int .i64 (gi w 0), V.int .i64 (gi w 1), V.inl t_impl_Timer (stopL (gl w 2) id)]) := by
  have ht : impl_Wheel_timer (V.agg [V.int .i64 (gi w 1), V.inl t_impl_Timer (gl w 2)]) id = some (fT (gl w 2) id) := timer_eq (w := V.agg [V.int .i64 (gi w 1), V.inl t_impl_Timer (gl w 2)]) (by show (gl w 2).length ≤ _; omega) id
  unfold impl_Wheel_stop
  rw [show n_impl_Duty (n_impl_Duty w) = n_impl_Duty w from rfl, show gl (n_impl_Duty w) 2 = gl w 2 from rfl, show gi (n_impl_Duty w) 0 = gi w 0 from rfl, show gi (n_impl_Duty w) 1 = gi w 1 from rfl, ht]
  simp only [Option.bind_some]
  rcases stopL_cases (gl w 2) id with ⟨e, e2, _⟩ | ⟨k, e, hk, _, e2⟩
  · rw [e, e2]; exact ⟨_, rfl⟩
  · rw [e, e2, decide_eq_true (p := (0 : Int) ≤ (k : Int)) (by omega), wr_succ hk (by omega)]
    unfold delV
    rw [decide_eq_true (p := (0 : Int) ≤ (k : Int)) (by omega), decide_eq_true (p := (k : Int) ≤ ((k + 1 : Nat) : Int)) (by omega), decide_eq_true (p := ((k + 1 : Nat) : Int) ≤ (((gl w 2).length : Nat) : Int)) (by omega), decide_eq_true (p := (gl w 2).length ≤ 9223372036854775807) (by omega)]
    simp only [Bool.and_self, cond_true, Int.toNat_natCast, Option.bind_some]
    exact ⟨true, rfl⟩
def putL (l : List V) (t : V) : List V := (l.takeWhile fun x => ltT x t) ++ [t] ++ (l.dropWhile fun x => ltT x t)
theorem putL_good {l : List V} {t : V} (h : Good l) (hno : ∀ x ∈ l, gi x 0 ≠ gi t 0) : (putL l t).Pairwise fun a b => ltT a b = true := by
  have hall : ∀ x ∈ l.takeWhile (fun x => ltT x t), ltT x t = true := fun x hx => by
    have := List.all_takeWhile (p := fun x => ltT x t) (l := l)
    rw [List.all_eq_true] at this
    exact this x hx
  have happ : l.takeWhile (fun x => ltT x t) ++ l.dropWhile (fun x => ltT x t) = l := List.takeWhile_append_dropWhile
  have hasc := h.asc
  rw [← happ, List.pairwise_append] at hasc
  obtain ⟨p1, p2, p3⟩ := hasc
  have hdrop : ∀ y ∈ l.dropWhile (fun x => ltT x t), ltT t y = true := fun y hy => by
    have hsub : ∀ z ∈ l.dropWhile (fun x => ltT x t), z ∈ l := fun z hz => by rw [← happ]; exact List.mem_append_right _ hz
    cases hd : l.dropWhile (fun x => ltT x t) with
    | nil => rw [hd] at hy; cases hy
    | cons z r =>
      have hz : ltT z t = false := by
        have := List.head_dropWhile_not (p := fun x => ltT x t) (l := l) (by rw [hd]; simp)
        simpa [hd] using this
      have htz : ltT t z = true := ltT_tri hz (hno z (hsub z (by rw [hd]; simp)))
      rw [hd] at hy p2
      rcases List.mem_cons.1 hy with rfl | hy
      · exact htz
      · exact ltT_trans htz ((List.pairwise_cons.1 p2).1 y hy)
  unfold putL
  rw [List.append_assoc, List.pairwise_append]
  refine ⟨p1, ?_, fun a ha b hb => ?_⟩
  · simp only [List.singleton_append, List.pairwise_cons]
    exact ⟨hdrop, p2⟩
  · simp only [List.singleton_append, List.mem_cons] at hb
    rcases hb with rfl | hb
    · exact hall a ha
    · exact p3 a ha b hb
theorem putL_perm (l : List V) (t : V) : (l ++ [t]).Perm (putL l t) := by
  unfold putL
  have happ : l.takeWhile (fun x => ltT x t) ++ l.dropWhile (fun x => ltT x t) = l := List.takeWhile_append_dropWhile
  have h1 : (l ++ [t]).Perm (t :: l) := List.perm_append_comm
  have h2 : (l.takeWhile (fun x => ltT x t) ++ [t] ++ l.dropWhile (fun x => ltT x t)).Perm (t :: (l.takeWhile (fun x => ltT x t) ++ l.dropWhile (fun x => ltT x t))) := by
    rw [List.append_assoc]
    exact List.perm_middle
  rw [happ] at h2
  exact h1.trans h2.symm
end Go.Eng.R
open Go Go.Eng
namespace Go.Eng.R
theorem while_loop2 {ρ : Type} {F : Nat → Int → ρ} {n n0 : Nat} {p : Nat → Bool} {out : Int → ρ} (hp : ∀ i, i < n0 → p i = true) (hp0 : n0 < n → p n0 = false) (hn : n0 ≤ n)
    (h1 : ∀ m (i : Nat), i < n → F (m + 1) (i : Int) = bif p i then F m ((i + 1 : Nat) : Int) else out (i : Int)) (h0 : ∀ m, F (m + 1) (n : Int) = out (n : Int)) :
    ∀ m (i : Nat), i ≤ n0 → n - i < m → F m (i : Int) = out (n0 : Int)
  | 0, i, _, h => by omega
  | m + 1, i, hi, hm => by
    rcases Nat.eq_or_lt_of_le hi with h | h
    · subst h
      rcases Nat.eq_or_lt_of_le hn with h | h
      · subst h; exact h0 m
      · rw [h1 m i h, hp0 h]; rfl
    · rw [h1 m i (by omega), hp i h, cond_true]
      exact while_loop2 hp hp0 hn h1 h0 m (i + 1) (by omega) (by omega)
theorem take_tw (p : V → Bool) (l : List V) : l.take (l.takeWhile p).length = l.takeWhile p := by
  have := List.take_left (l₁ := l.takeWhile p) (l₂ := l.dropWhile p)
  rwa [List.takeWhile_append_dropWhile] at this
theorem drop_tw (p : V → Bool) (l : List V) : l.drop (l.takeWhile p).length = l.dropWhile p := by
  have := List.drop_left (l₁ := l.takeWhile p) (l₂ := l.dropWhile p)
  rwa [List.takeWhile_append_dropWhile] at this
def mkT (w : V) (id after : Int) : V := V.agg [V.int .i64 id, V.int .i64 (IntKind.i64.wrap (gi w 1 + after))]
def setW (w : V) (id after : Int) : V := V.agg [V.int .i64 (gi w 0), V.int .i64 (gi w 1), V.inl t_impl_Timer (putL (stopL (gl w 2) id) (mkT w id after))]
theorem ins_loop {w T : V} {r : List V} (hT : n_impl_Reply T = T) (hl : r.length ≤ 4194304) (ttl now : Int) :
    spec_l7set_l6 (r.length + 1) 0 (V.agg [V.int .i64 ttl, V.int .i64 now, V.sl 2 t_impl_Timer 0 none]) T r = some ((((r.takeWhile fun x => ltT x T).length : Nat) : Int), V.agg [V.int .i64 ttl, V.int .i64 now, V.sl 2 t_impl_Timer 0 none], T, r) := by
  obtain ⟨h1, h2, h3⟩ := takeWhile_spec (l := r) (p := fun x => ltT x T)
  have key := while_loop2 (F := fun m i => spec_l7set_l6 m i (V.agg [V.int .i64 ttl, V.int .i64 now, V.sl 2 t_impl_Timer 0 none]) T r) (n := r.length) (n0 := (r.takeWhile fun x => ltT x T).length) (p := fun i => ltT (rd r i) T) (out := fun i => some (i, V.agg [V.int .i64 ttl, V.int .i64 now, V.sl 2 t_impl_Timer 0 none], T, r)) h1 h2 h3 ?_ ?_ (r.length + 1) 0 (by omega) (by omega)
  · exact key
  · intro m i hi
    simp only [spec_l7set_l6, lt_nat hi, idxOk_nat hi, Int.toNat_natCast, cond_true, wr_succ hi (Nat.le_of_lt (by omega)), Nat.zero_add, ahead_eq, hT]
    rfl
  · intro m
    simp only [spec_l7set_l6, lt_self, cond_false, hT]
    rfl
theorem spec_set_eq {w : V} (hl : (gl w 2).length ≤ 4194303) (id after : Int) :
    spec_l7set (n_impl_Duty w) id after = some (bif decide (0 ≤ id ∧ id ≤ 2147483647 ∧ 1 ≤ after ∧ after ≤ 1000000 ∧ (0 ≤ fT (gl w 2) id ∨ (gl w 2).length < 40)) then (true, setW w id after) else (false, n_impl_Duty w)) := by
  have hbody : (Option.bind (spec_l7stop (n_impl_Duty w) id) fun r14 =>
      Option.bind (spec_l7set_l6 (((((gl r14.2 2).length : Nat) : Int) - 0).toNat + 1) 0 (V.agg [(V.int .i64 (gi r14.2 0)), (V.int .i64 (gi r14.2 1)), (V.sl 2 t_impl_Timer 0 none)]) (V.agg [(V.int .i64 id), (V.int .i64 (IntKind.i64.wrap ((gi r14.2 1) + after)))]) (gl r14.2 2)) fun r15 =>
      bif ((decide ((0 : Int) ≤ r15.1)) && (decide (r15.1 ≤ ((r15.2.2.2.length : Nat) : Int)))) then
        bif ((roomy (0 + ((r15.2.2.2.take r15.1.toNat).length)) 16) && true) then
          bif ((roomy (((r15.2.2.2.take r15.1.toNat).length) + 1) 16) && true) then
            bif ((decide ((0 : Int) ≤ r15.1)) && (decide (r15.1 ≤ ((r15.2.2.2.length : Nat) : Int)))) then
              bif ((roomy ((((r15.2.2.2.take r15.1.toNat) ++ [(n_impl_Reply r15.2.2.1)]).length) + ((r15.2.2.2.drop (0 + r15.1.toNat)).length)) 16) && true) then
                some (true, (V.agg [(V.int .i64 (gi r15.2.1 0)), (V.int .i64 (gi r15.2.1 1)), (V.inl t_impl_Timer (((r15.2.2.2.take r15.1.toNat) ++ [(n_impl_Reply r15.2.2.1)]) ++ (r15.2.2.2.drop (0 + r15.1.toNat))))]))
              else none
            else none
          else none
        else none
      else none) = some (true, setW w id after) := by
    obtain ⟨b, hb⟩ := spec_stop_eq (w := w) (by omega) id
    rw [hb]
    simp only [Option.bind_some]
    have hsl := stopL_len (gl w 2) id
    have e0 : gi (V.agg [V.int .i64 (gi w 0), V.int .i64 (gi w 1), V.inl t_impl_Timer (stopL (gl w 2) id)]) 0 = gi w 0 := rfl
    have e2 : gi (V.agg [V.int .i64 (gi w 0), V.int .i64 (gi w 1), V.inl t_impl_Timer (stopL (gl w 2) id)]) 1 = gi w 1 := rfl
    have e1 : gl (V.agg [V.int .i64 (gi w 0), V.int .i64 (gi w 1), V.inl t_impl_Timer (stopL (gl w 2) id)]) 2 = stopL (gl w 2) id := rfl
    rw [e0, e2, e1, fuel_eq, ins_loop (w := w) rfl (by omega)]
    simp only [Option.bind_some]
    have htw := (takeWhile_spec (l := stopL (gl w 2) id) (p := fun x => ltT x (V.agg [(V.int .i64 id), (V.int .i64 (IntKind.i64.wrap ((gi w 1) + after)))]))).2.2
    rw [decide_eq_true (p := (0 : Int) ≤ (((stopL (gl w 2) id).takeWhile fun x => ltT x (V.agg [(V.int .i64 id), (V.int .i64 (IntKind.i64.wrap ((gi w 1) + after)))])).length : Int)) (by omega),
      decide_eq_true (p := ((((stopL (gl w 2) id).takeWhile fun x => ltT x (V.agg [(V.int .i64 id), (V.int .i64 (IntKind.i64.wrap ((gi w 1) + after)))])).length : Nat) : Int) ≤ (((stopL (gl w 2) id).length : Nat) : Int)) (by omega)]
    simp only [Bool.and_self, cond_true, Int.toNat_natCast, Nat.zero_add, Bool.and_true, take_tw, drop_tw]
    have hdl : ((stopL (gl w 2) id).dropWhile fun x => ltT x (V.agg [(V.int .i64 id), (V.int .i64 (IntKind.i64.wrap ((gi w 1) + after)))])).length ≤ (stopL (gl w 2) id).length := (List.dropWhile_suffix _).sublist.length_le
    rw [roomy_of (by omega) (by omega), roomy_of (by omega) (by omega), roomy_of (by simp; omega) (by simp; omega)]
    rfl
  unfold spec_l7set
  simp only [show n_impl_Duty (n_impl_Duty w) = n_impl_Duty w from rfl]
  by_cases h1 : id < 0
  · rw [decide_eq_true h1, decide_eq_false (p := 0 ≤ id ∧ id ≤ 2147483647 ∧ 1 ≤ after ∧ after ≤ 1000000 ∧ (0 ≤ fT (gl w 2) id ∨ (gl w 2).length < 40)) (by omega)]; rfl
  by_cases h2 : 2147483647 < id
  · rw [decide_eq_false h1, decide_eq_true h2, decide_eq_false (p := 0 ≤ id ∧ id ≤ 2147483647 ∧ 1 ≤ after ∧ after ≤ 1000000 ∧ (0 ≤ fT (gl w 2) id ∨ (gl w 2).length < 40)) (by omega)]; rfl
  by_cases h3 : after < 1
  · rw [decide_eq_false h1, decide_eq_false h2, decide_eq_true h3, decide_eq_false (p := 0 ≤ id ∧ id ≤ 2147483647 ∧ 1 ≤ after ∧ after ≤ 1000000 ∧ (0 ≤ fT (gl w 2) id ∨ (gl w 2).length < 40)) (by omega)]; rfl
  by_cases h4 : 1000000 < after
  · rw [decide_eq_false h1, decide_eq_false h2, decide_eq_false h3, decide_eq_true h4, decide_eq_false (p := 0 ≤ id ∧ id ≤ 2147483647 ∧ 1 ≤ after ∧ after ≤ 1000000 ∧ (0 ≤ fT (gl w 2) id ∨ (gl w 2).length < 40)) (by omega)]; rfl
  rw [decide_eq_false h1, decide_eq_false h2, decide_eq_false h3, decide_eq_false h4, show gl (n_impl_Duty w) 2 = gl w 2 from rfl, l7find_eq (by omega)]
  simp only [cond_false, Option.bind_some]
  by_cases h5 : fT (gl w 2) id < 0
  · rw [decide_eq_true h5]
    by_cases h6 : (40 : Int) ≤ (((gl w 2).length : Nat) : Int)
    · rw [decide_eq_true h6, decide_eq_false (p := 0 ≤ id ∧ id ≤ 2147483647 ∧ 1 ≤ after ∧ after ≤ 1000000 ∧ (0 ≤ fT (gl w 2) id ∨ (gl w 2).length < 40)) (by omega)]; rfl
    · rw [decide_eq_false h6, decide_eq_true (p := 0 ≤ id ∧ id ≤ 2147483647 ∧ 1 ≤ after ∧ after ≤ 1000000 ∧ (0 ≤ fT (gl w 2) id ∨ (gl w 2).length < 40)) (by omega)]
      simp only [cond_true, cond_false]
      exact hbody
  · rw [decide_eq_false h5, decide_eq_true (p := 0 ≤ id ∧ id ≤ 2147483647 ∧ 1 ≤ after ∧ after ≤ 1000000 ∧ (0 ≤ fT (gl w 2) id ∨ (gl w 2).length < 40)) (by omega)]
    simp only [cond_true, cond_false]
    exact hbody
theorem impl_set_eq {w : V} (hl : (gl w 2).length ≤ 4194303) (hg : Good (gl w 2)) (id after : Int) : impl_Wheel_set (n_impl_Duty w) id after = some (setW w id after) := by
  obtain ⟨b, hb⟩ := impl_stop_eq (w := w) (by omega) id
  have hsl := stopL_len (gl w 2) id
  unfold impl_Wheel_set
  rw [show n_impl_Duty (n_impl_Duty w) = n_impl_Duty w from rfl, hb]
  simp only [Option.bind_some]
  have e0 : gi (V.agg [V.int .i64 (gi w 0), V.int .i64 (gi w 1), V.inl t_impl_Timer (stopL (gl w 2) id)]) 0 = gi w 0 := rfl
  have e2 : gi (V.agg [V.int .i64 (gi w 0), V.int .i64 (gi w 1), V.inl t_impl_Timer (stopL (gl w 2) id)]) 1 = gi w 1 := rfl
  have e1 : gl (V.agg [V.int .i64 (gi w 0), V.int .i64 (gi w 1), V.inl t_impl_Timer (stopL (gl w 2) id)]) 2 = stopL (gl w 2) id := rfl
  rw [e0, e2, e1, roomy_of (by omega) (by omega)]
  unfold srtO
  rw [decide_eq_true (p := 0 < (stopL (gl w 2) id ++ [V.agg [V.int .i64 id, V.int .i64 (IntKind.i64.wrap (gi w 1 + after))]]).length) (by simp), decide_eq_true (p := (stopL (gl w 2) id ++ [V.agg [V.int .i64 id, V.int .i64 (IntKind.i64.wrap (gi w 1 + after))]]).length < 4611686018427387904) (by simp; omega)]
  simp only [Bool.and_self, cond_true, Option.bind_some]
  rw [show V.agg [V.int .i64 id, V.int .i64 (IntKind.i64.wrap (gi w 1 + after))] = mkT w id after from rfl, sort_eq (putL_good (hg.sub (stopL_sub _ id)) (t := mkT w id after) (stopL_no hg)) (putL_perm _ _)]
  rfl
end Go.Eng.R
open Go Go.Eng
namespace Go.Eng.R
def wlD (d : V) : V := V.agg [V.int .i64 (gi d 1), V.inl t_impl_Timer (gl d 2)]
def lateT (d : V) (i : Nat) : Bool := decide (gi d 0 < IntKind.i64.wrap (gi (rd (gl d 2) i) 1 - gi d 1))
def okD (d : V) : Bool := decide (1 ≤ gi d 0 ∧ gi d 0 ≤ 1000 ∧ (gl d 2).length ≤ 8) && (okW (wlD d) && (List.range (gl d 2).length).all fun i => !lateT d i)
theorem wlD_W {d : V} (h : W_Duty d) : W_Wheel (wlD d) := ⟨h.2.1, h.2.2⟩
theorem okD_spec {d : V} (h : okD d = true) : 1 ≤ gi d 0 ∧ gi d 0 ≤ 1000 ∧ (gl d 2).length ≤ 8 ∧ 0 ≤ gi d 1 ∧ gi d 1 ≤ 1000000 ∧ Good (gl d 2) := by
  unfold okD at h
  simp only [Bool.and_eq_true, decide_eq_true_eq] at h
  obtain ⟨⟨h1, h2, h3⟩, h4, -⟩ := h
  obtain ⟨g1, g2, g3, g4⟩ := okW_spec h4
  exact ⟨h1, h2, h3, g1, g2, g4⟩
theorem spec_DutyOk_eq {d : V} (hd : W_Duty d) : spec_DutyOk (n_impl_Duty d) = some (okD d) := by
  have hl := hd.2.2.1
  unfold spec_DutyOk okD
  simp only [show gl (n_impl_Duty d) 2 = gl d 2 from rfl, show gi (n_impl_Duty d) 0 = gi d 0 from rfl, show gi (n_impl_Duty d) 1 = gi d 1 from rfl, show n_impl_Duty (n_impl_Duty d) = n_impl_Duty d from rfl]
  by_cases h1 : gi d 0 < 1
  · rw [decide_eq_true h1, decide_eq_false (p := 1 ≤ gi d 0 ∧ gi d 0 ≤ 1000 ∧ (gl d 2).length ≤ 8) (by omega)]; rfl
  by_cases h2 : 1000 < gi d 0
  · rw [decide_eq_false h1, decide_eq_true h2, decide_eq_false (p := 1 ≤ gi d 0 ∧ gi d 0 ≤ 1000 ∧ (gl d 2).length ≤ 8) (by omega)]; rfl
  rw [decide_eq_false h1, decide_eq_false h2, show spec_WheelOk (V.agg [V.int .i64 (gi d 1), V.inl t_impl_Timer (gl d 2)]) = some (okW (wlD d)) from spec_WheelOk_eq (w := wlD d) (wlD_W hd)]
  simp only [cond_false, Option.bind_some]
  cases hw : okW (wlD d) with
  | false => simp
  | true =>
    by_cases h3 : (8 : Int) < (((gl d 2).length : Nat) : Int)
    · rw [decide_eq_true h3, decide_eq_false (p := 1 ≤ gi d 0 ∧ gi d 0 ≤ 1000 ∧ (gl d 2).length ≤ 8) (by omega)]; rfl
    rw [decide_eq_false h3, decide_eq_true (p := 1 ≤ gi d 0 ∧ gi d 0 ≤ 1000 ∧ (gl d 2).length ≤ 8) (by omega)]
    simp only [Bool.not_true, cond_false, Bool.true_and]
    rw [fuel_eq, all_loopI (F := fun m i => spec_DutyOk_l4 m i (n_impl_Duty d)) (n := (gl d 2).length) (q := fun i => !lateT d i) (yes := some (1, false)) (no := some (0, false)) ?_ ?_]
    · cases (List.range (gl d 2).length).all fun i => !lateT d i <;> rfl
    · intro m i hi
      simp only [spec_DutyOk_l4, show gl (n_impl_Duty d) 2 = gl d 2 from rfl, show gi (n_impl_Duty d) 0 = gi d 0 from rfl, show gi (n_impl_Duty d) 1 = gi d 1 from rfl, show n_impl_Duty (n_impl_Duty d) = n_impl_Duty d from rfl, lt_nat hi, idxOk_nat hi, Int.toNat_natCast, cond_true, wr_succ hi hl, lateT]
      cases decide (gi d 0 < IntKind.i64.wrap (gi (rd (gl d 2) i) 1 - gi d 1)) <;> rfl
    · intro m; simp only [spec_DutyOk_l4, show gl (n_impl_Duty d) 2 = gl d 2 from rfl, lt_self, cond_false]
theorem firstI_all {q : Nat → Bool} {n : Nat} : decide ((0 : Int) ≤ match firstI q 0 n with | some j => (j : Int) | none => -1) = !((List.range n).all fun i => !q i) := by
  cases hf : firstI q 0 n with
  | none =>
    rw [firstI_none] at hf
    have : ((List.range n).all fun i => !q i) = true := by
      rw [List.all_eq_true]
      intro i hi
      rw [hf i (by omega) (by have := List.mem_range.1 hi; omega)]; rfl
    rw [this]; rfl
  | some j =>
    obtain ⟨-, hj, hq, -⟩ := firstI_some hf
    have : ((List.range n).all fun i => !q i) = false := by
      rw [List.all_eq_false]
      exact ⟨j, List.mem_range.2 (by omega), by simp [hq]⟩
    rw [this]
    exact decide_eq_true (by simp)
theorem impl_DutyOk_eq {d : V} (hd : W_Duty d) : impl_DutyOk (n_impl_Duty d) = some (okD d) := by
  have hl := hd.2.2.1
  unfold impl_DutyOk okD
  simp only [show gl (n_impl_Duty d) 2 = gl d 2 from rfl, show gi (n_impl_Duty d) 0 = gi d 0 from rfl, show gi (n_impl_Duty d) 1 = gi d 1 from rfl, show n_impl_Duty (n_impl_Duty d) = n_impl_Duty d from rfl, within_eq]
  by_cases h1 : 1 ≤ gi d 0 ∧ gi d 0 ≤ 1000
  case neg => rw [decide_eq_false h1, decide_eq_false (p := 1 ≤ gi d 0 ∧ gi d 0 ≤ 1000 ∧ (gl d 2).length ≤ 8) (by omega)]; rfl
  rw [decide_eq_true h1, show impl_WheelOk (V.agg [V.int .i64 (gi d 1), V.inl t_impl_Timer (gl d 2)]) = some (okW (wlD d)) from impl_WheelOk_eq (w := wlD d) (wlD_W hd)]
  simp only [cond_false, Bool.not_true, Option.bind_some]
  cases hw : okW (wlD d) with
  | false => simp
  | true =>
    by_cases h3 : (8 : Int) < (((gl d 2).length : Nat) : Int)
    · rw [decide_eq_true h3, decide_eq_false (p := 1 ≤ gi d 0 ∧ gi d 0 ≤ 1000 ∧ (gl d 2).length ≤ 8) (by omega)]; rfl
    rw [decide_eq_false h3, decide_eq_true (p := 1 ≤ gi d 0 ∧ gi d 0 ≤ 1000 ∧ (gl d 2).length ≤ 8) (by omega)]
    simp only [Bool.not_true, cond_false, Bool.true_and]
    unfold slices_ContainsFunc_Timer slices_IndexFunc_Timer_v1
    simp only [show n_impl_Duty (n_impl_Duty d) = n_impl_Duty d from rfl]
    rw [fuel_eq, show (0 : Int) = ((0 : Nat) : Int) from rfl, find_loop (F := fun m i => slices_IndexFunc_Timer_v1_l2 m (gl d 2) (n_impl_Duty d) (((gl d 2).length : Nat) : Int) i) (n := (gl d 2).length) (q := lateT d) (out := fun j => some (0, j)) (no := some (1, 0)) ?_ ?_ ((gl d 2).length + 1) 0 (by omega) (by omega)]
    · rw [Nat.sub_zero]
      have hf := firstI_all (q := lateT d) (n := (gl d 2).length)
      cases hq : firstI (lateT d) 0 (gl d 2).length with
      | none =>
        rw [hq] at hf
        simp only [Option.bind_some]
        rw [show ((List.range (gl d 2).length).all fun i => !lateT d i) = true from by simpa using hf]
        rfl
      | some j =>
        rw [hq] at hf
        simp only [Option.bind_some]
        rw [show ((List.range (gl d 2).length).all fun i => !lateT d i) = false from by
          have : decide ((0 : Int) ≤ (j : Int)) = true := decide_eq_true (by omega)
          simp only [this] at hf
          simpa using hf.symm]
        rw [show Nat.beq 0 0 = true from rfl, cond_true]
        simp only [Option.bind_some, show decide (((0 : Nat) : Int) ≤ (j : Int)) = true from decide_eq_true (by omega)]
        rfl
    · intro m i hi
      simp only [slices_IndexFunc_Timer_v1_l2, lt_nat hi, idxOk_nat hi, Int.toNat_natCast, cond_true, wr_succ hi hl]
      rfl
    · intro m; simp only [slices_IndexFunc_Timer_v1_l2, lt_self, cond_false]
theorem impl_own_eq {d : V} (h : (gl d 2).length ≤ 4194304) : impl_Duty_own (n_impl_Duty d) = some (n_impl_Duty d) := by
  unfold impl_Duty_own impl_Wheel_own slices_Clone_Timer
  rw [show gl (V.agg [V.int .i64 (gi (n_impl_Duty d) 1), V.inl t_impl_Timer (gl (n_impl_Duty d) 2)]) 1 = gl d 2 from rfl, roomy_of (by omega) (by omega)]
  rfl
theorem spec_own_eq {d : V} (h : (gl d 2).length ≤ 4194304) : spec_l15own (n_impl_Duty d) = some (n_impl_Duty d) := by
  unfold spec_l15own spec_l7own
  rw [show gl (V.agg [V.int .i64 (gi (n_impl_Duty d) 1), V.inl t_impl_Timer (gl (n_impl_Duty d) 2)]) 1 = gl d 2 from rfl, roomy_of (by omega) (by omega)]
  rfl
theorem setW_W {w : V} (hw : W_Duty w) (hl : (gl w 2).length ≤ 4194303) {id : Int} (hid : I64 id) {after : Int} (ha : I64 (gi w 1 + after)) : W_Duty (setW w id after) ∧ (gl (setW w id after) 2).length ≤ (gl w 2).length + 1 := by
  have hp := putL_perm (stopL (gl w 2) id) (mkT w id after)
  have hlen : (putL (stopL (gl w 2) id) (mkT w id after)).length = (stopL (gl w 2) id).length + 1 := by rw [← hp.length_eq]; simp
  have hsl := stopL_len (gl w 2) id
  refine ⟨⟨hw.1, hw.2.1, ⟨?_, fun x hx => ?_⟩⟩, ?_⟩
  · show (putL (stopL (gl w 2) id) (mkT w id after)).length ≤ _
    omega
  · have hx : x ∈ putL (stopL (gl w 2) id) (mkT w id after) := hx
    rcases List.mem_append.1 (hp.mem_iff.2 hx) with h | h
    · exact hw.2.2.2 x ((stopL_sub _ _).mem h)
    · simp only [List.mem_singleton] at h
      subst h
      exact ⟨hid, by show I64 (IntKind.i64.wrap (gi w 1 + after)); rw [wr64 ha]; exact ha⟩
  · show (putL (stopL (gl w 2) id) (mkT w id after)).length ≤ _
    omega
def zeroD : V := V.agg [V.int .i64 0, V.int .i64 0, V.inl t_impl_Timer []]
theorem zeroD_W : W_Duty zeroD := ⟨⟨by decide, by decide⟩, ⟨by decide, by decide⟩, LW.nil⟩
theorem z_len (d : V) : z_Duty d = (gl d 2).length := by show zS z_Timer (gl d 2) = _; rw [show zS z_Timer (gl d 2) = zS z0 (gl d 2) from rfl, zS_z0]
end Go.Eng.R
open Go Go.Eng
namespace Go.Eng.R
def liveT (s x : V) : Bool := !decide (fI (gl s 4) (gi x 0) < 0)
theorem stopL_mid {pre rest : List V} {x : V} (h : ∀ y ∈ pre, gi y 0 ≠ gi x 0) : stopL (pre ++ x :: rest) (gi x 0) = pre ++ rest := by
  rcases stopL_cases (pre ++ x :: rest) (gi x 0) with ⟨e, _, h2⟩ | ⟨k, e, hk, h2, e2⟩
  · exact absurd (by rw [rd_mid]) (h2 pre.length (by simp))
  · rcases fT_cases (pre ++ x :: rest) (gi x 0) with ⟨e', _⟩ | ⟨k', e', hk', h2', h3'⟩
    · omega
    · have hkk : k = k' := by omega
      subst hkk
      have hkp : k = pre.length := by
        rcases Nat.lt_trichotomy k pre.length with c | c | c
        · exfalso
          have hm : rd (pre ++ x :: rest) k = pre[k] := by rw [rd_eq hk]; exact List.getElem_append_left c
          rw [hm] at h2
          exact h _ (List.getElem_mem c) h2
        · exact c
        · exact absurd (by rw [rd_mid]) (h3' pre.length c)
      subst hkp
      rw [e2]; simp
theorem Good.no {pre rest : List V} {x : V} (h : Good (pre ++ x :: rest)) : ∀ y ∈ pre, gi y 0 ≠ gi x 0 := by
  have := h.ids
  rw [List.pairwise_append] at this
  exact fun y hy => this.2.2 y hy x (by simp)
theorem Good.cut {pre rest : List V} {x : V} (h : Good (pre ++ x :: rest)) : Good (pre ++ rest) := h.sub ((List.Sublist.refl pre).append (List.sublist_cons_self x rest))
theorem spec_strike {s : V} (hk : (gl s 4).length ≤ 9223372036854775807) (ttl now : Int) : ∀ (rest pre : List V) (m : Nat) (any : Bool), rest.length < m → Good (pre ++ rest) → (pre ++ rest).length ≤ 4194304 →
    spec_l15sync_l3 m any (pre.length : Int) (V.agg [V.int .i64 ttl, V.int .i64 now, V.sl 2 t_impl_Timer 0 none]) (n_impl_State s) (pre ++ rest) =
      some (any || !decide ((rest.filter (liveT s)).length = rest.length), V.agg [V.int .i64 ttl, V.int .i64 now, V.sl 2 t_impl_Timer 0 none], n_impl_State s, pre ++ rest.filter (liveT s))
  | rest, pre, 0, any, h, _, _ => by simp at h
  | [], pre, m + 1, any, _, _, _ => by
    simp only [spec_l15sync_l3, List.append_nil, lt_self, cond_false, gi_c0, gi_cs, show n_impl_State (n_impl_State s) = n_impl_State s from rfl]
    simp
  | x :: rest, pre, m + 1, any, hm, hg, hl => by
    have hlen : pre.length < (pre ++ x :: rest).length := by simp
    simp only [spec_l15sync_l3, lt_nat hlen, cond_true, idxOk_nat hlen, Int.toNat_natCast, Nat.zero_add, rd_mid, spec_l2sess_eq hk, show n_impl_State (n_impl_State s) = n_impl_State s from rfl, Option.bind_some, gi_c0, gi_cs]
    by_cases hx : fI (gl s 4) (gi x 0) < 0
    · obtain ⟨b, hb⟩ := spec_stop_eq (w := V.agg [V.int .i64 ttl, V.int .i64 now, V.inl t_impl_Timer (pre ++ x :: rest)]) hl (gi x 0)
      have hb : spec_l7stop (V.agg [V.int .i64 ttl, V.int .i64 now, V.inl t_impl_Timer (pre ++ x :: rest)]) (gi x 0) = some (b, V.agg [V.int .i64 ttl, V.int .i64 now, V.inl t_impl_Timer (stopL (pre ++ x :: rest) (gi x 0))]) := hb
      rw [stopL_mid hg.no] at hb
      have ih := spec_strike hk ttl now rest pre m true (by simpa using hm) hg.cut (by simp at hl ⊢; omega)
      have hw : IntKind.i64.wrap (IntKind.i64.wrap ((pre.length : Int) - 1) + 1) = (pre.length : Int) := by
        simp only [List.length_append, List.length_cons] at hl
        rw [wr64' (n := (pre.length : Int) - 1) (by omega) (by omega), wr64' (by omega) (by omega)]; omega
      have hlv : liveT s x = false := by unfold liveT; rw [decide_eq_true hx]; rfl
      have hfl := List.length_filter_le (liveT s) rest
      simp only [decide_eq_true hx, cond_true, hb, Option.bind_some, hw, gi_c0, gi_cs, gl_c0, gl_cs, ih, List.filter_cons, hlv, Bool.false_eq_true, if_false, Bool.true_or, List.length_cons]
      rw [decide_eq_false (p := (rest.filter (liveT s)).length = rest.length + 1) (by omega)]
      simp
    · have hlv : liveT s x = true := by unfold liveT; rw [decide_eq_false hx]; rfl
      have ih := spec_strike hk ttl now rest (pre ++ [x]) m any (by simpa using hm) (by simpa using hg) (by simpa using hl)
      simp only [List.append_assoc, List.singleton_append, List.length_append, List.length_cons, List.length_nil, Nat.zero_add] at ih
      simp only [decide_eq_false hx, cond_false, wr_succ hlen (Nat.le_trans hl (by omega)), ih, List.filter_cons, hlv, if_true, List.length_cons, Option.some.injEq, Prod.mk.injEq, and_true]
      congr 2
      rw [decide_eq_decide]; omega
theorem impl_live_eq {s : V} (hk : (gl s 4).length ≤ 9223372036854775807) (x : V) : impl_Duty_sync_1 (n_impl_Reply x) (n_impl_State s) = some (!liveT s x) := by
  unfold impl_Duty_sync_1 liveT
  rw [show n_impl_State (n_impl_State s) = n_impl_State s from rfl, impl_session_eq hk]
  simp [show gi (n_impl_Reply x) 0 = gi x 0 from rfl]
theorem del_loop {s : V} (hk : (gl s 4).length ≤ 9223372036854775807) : ∀ (rest A B : List V) (m : Nat), rest.length < m → 0 < B.length → (A ++ B ++ rest).length ≤ 4194304 →
    ∃ r', slices_DeleteFunc_Timer_l5 m (n_impl_State s) (A.length : Int) ((A.length + B.length : Nat) : Int) (A ++ B ++ rest) = some (((A.length + (rest.filter (liveT s)).length : Nat) : Int), r') ∧ r'.length = (A ++ B ++ rest).length ∧ r'.take (A.length + (rest.filter (liveT s)).length) = A ++ (rest.filter (liveT s)).map n_impl_Reply
  | rest, A, B, 0, h, _, _ => by simp at h
  | [], A, B, m + 1, _, hB, _ => by
    refine ⟨A ++ B, ?_, by simp, by simp⟩
    simp only [slices_DeleteFunc_Timer_l5, List.append_nil, List.filter_nil, List.length_nil, Nat.add_zero]
    rw [show ((A ++ B).length : Nat) = A.length + B.length from by simp, lt_self]; rfl
  | x :: rest, A, b :: B, m + 1, hm, hB, hl => by
    have hr : rd (A ++ b :: B ++ x :: rest) (A.length + (b :: B).length) = x := by
      have := rd_mid (A ++ b :: B) x rest
      rwa [List.length_append] at this
    have hlen : A.length + (b :: B).length < (A ++ b :: B ++ x :: rest).length := by first | (simp; done) | (simp; omega)
    have hlen0 : A.length < (A ++ b :: B ++ x :: rest).length := by first | (simp; done) | (simp; omega)
    simp only [slices_DeleteFunc_Timer_l5, lt_nat hlen, cond_true, idxOk_nat hlen, idxOk_nat hlen0, Int.toNat_natCast, Nat.zero_add, hr, impl_live_eq hk, Option.bind_some, Bool.not_not, wr_succ hlen (Nat.le_trans hl (by omega)), wr_succ hlen0 (Nat.le_trans hl (by omega)), show n_impl_State (n_impl_State s) = n_impl_State s from rfl]
    cases hx : liveT s x with
    | true =>
      have hset : (A ++ b :: B ++ x :: rest).set A.length (n_impl_Reply x) = (A ++ [n_impl_Reply x]) ++ (B ++ [x]) ++ rest := by simp
      obtain ⟨r', e1, e2, e3⟩ := del_loop hk rest (A ++ [n_impl_Reply x]) (B ++ [x]) m (by simpa using hm) (by simp) (by simp at hl ⊢; omega)
      have hf : (x :: rest).filter (liveT s) = x :: rest.filter (liveT s) := by simp [hx]
      refine ⟨r', ?_, by rw [e2]; simp, ?_⟩
      · rw [hset, hf, cond_true]
        have h1 : ((A.length + 1 : Nat) : Int) = ((A ++ [n_impl_Reply x]).length : Nat) := by simp
        have h2 : ((A.length + (b :: B).length + 1 : Nat) : Int) = (((A ++ [n_impl_Reply x]).length + (B ++ [x]).length : Nat) : Int) := by simp; omega
        rw [h1, h2, e1]
        simp; omega
      · rw [hf]
        have h3 : A.length + (x :: rest.filter (liveT s)).length = (A ++ [n_impl_Reply x]).length + (rest.filter (liveT s)).length := by simp; omega
        rw [h3, e3]; simp
    | false =>
      obtain ⟨r', e1, e2, e3⟩ := del_loop hk rest A ((b :: B) ++ [x]) m (by simpa using hm) (by simp) (by simp at hl ⊢; omega)
      have hf : (x :: rest).filter (liveT s) = rest.filter (liveT s) := by simp [hx]
      refine ⟨r', ?_, by rw [e2]; simp, by rw [hf]; exact e3⟩
      rw [hf, cond_false]
      have h2 : ((A.length + (b :: B).length + 1 : Nat) : Int) = ((A.length + ((b :: B) ++ [x]).length : Nat) : Int) := by simp; omega
      have h4 : A ++ b :: B ++ x :: rest = A ++ ((b :: B) ++ [x]) ++ rest := by simp
      rw [h2, h4]; exact e1
  | x :: rest, A, [], m + 1, hm, hB, hl => by simp at hB
def flatT (l : List V) : Prop := ∀ x ∈ l, n_impl_Reply x = x
theorem map_flat {l : List V} (h : flatT l) : l.map n_impl_Reply = l := by
  conv => rhs; rw [← List.map_id l]
  exact List.map_congr_left fun x hx => h x hx
theorem deleteFunc_eq {s : V} (hk : (gl s 4).length ≤ 9223372036854775807) {l : List V} (hl : l.length ≤ 4194304) (hf : flatT l) : slices_DeleteFunc_Timer l (n_impl_State s) = some (l.filter (liveT s)) := by
  have hidx : slices_IndexFunc_Timer_v2 l (n_impl_State s) = some (match firstI (fun i => !liveT s (rd l i)) 0 l.length with | some j => (j : Int) | none => -1) := by
    unfold slices_IndexFunc_Timer_v2
    simp only [show n_impl_State (n_impl_State s) = n_impl_State s from rfl]
    rw [fuel_eq, show (0 : Int) = ((0 : Nat) : Int) from rfl, find_loop (F := fun m i => slices_IndexFunc_Timer_v2_l2 m l (n_impl_State s) ((l.length : Nat) : Int) i) (n := l.length) (q := fun i => !liveT s (rd l i)) (out := fun j => some (0, j)) (no := some (1, 0)) ?_ ?_ (l.length + 1) 0 (by omega) (by omega)]
    · rw [Nat.sub_zero]
      cases firstI (fun i => !liveT s (rd l i)) 0 l.length <;> rfl
    · intro m i hi
      simp only [slices_IndexFunc_Timer_v2_l2, lt_nat hi, idxOk_nat hi, Int.toNat_natCast, cond_true, wr_succ hi (Nat.le_trans hl (by omega)), impl_live_eq hk, Option.bind_some, show n_impl_State (n_impl_State s) = n_impl_State s from rfl]
    · intro m; simp only [slices_IndexFunc_Timer_v2_l2, lt_self, cond_false]
  unfold slices_DeleteFunc_Timer
  simp only [show n_impl_State (n_impl_State s) = n_impl_State s from rfl, hidx, Option.bind_some]
  cases hq : firstI (fun i => !liveT s (rd l i)) 0 l.length with
  | none =>
    rw [firstI_none] at hq
    have : l.filter (liveT s) = l := by
      rw [List.filter_eq_self]
      intro x hx
      obtain ⟨i, hi, rfl⟩ := List.getElem_of_mem hx
      have := hq i (by omega) (by omega)
      rw [rd_eq hi] at this
      simpa using this
    rw [this]; rfl
  | some k =>
    obtain ⟨-, hk1, hk2, hk3⟩ := firstI_some hq
    have hkl : k < l.length := by omega
    have hpre : (l.take k).filter (liveT s) = l.take k := by
      rw [List.filter_eq_self]
      intro x hx
      obtain ⟨i, hi, rfl⟩ := List.getElem_of_mem hx
      have hi' : i < k := by simp at hi; omega
      have := hk3 i (by omega) hi'
      rw [rd_eq (by omega)] at this
      rw [List.getElem_take]
      simpa using this
    have hsplit : l = l.take k ++ [l[k]] ++ l.drop (k + 1) := by
      rw [List.append_assoc, List.singleton_append, ← List.drop_eq_getElem_cons hkl, List.take_append_drop]
    have hlive : liveT s l[k] = false := by rw [rd_eq hkl] at hk2; simpa using hk2
    have hfil : l.filter (liveT s) = l.take k ++ (l.drop (k + 1)).filter (liveT s) := by
      conv => lhs; rw [hsplit]
      rw [List.filter_append, List.filter_append, hpre]
      simp [hlive]
    have hA : (l.take k).length = k := by simp; omega
    obtain ⟨r', e1, e2, e3⟩ := del_loop hk (l.drop (k + 1)) (l.take k) [l[k]] (l.length - (k + 1) + 1) (by simp) (by simp) (by rw [← hsplit]; exact hl)
    rw [← hsplit, hA, show ((k + [l[k]].length : Nat) : Int) = ((k + 1 : Nat) : Int) from rfl] at e1
    rw [hA] at e3
    rw [← hsplit] at e2
    have hfd : flatT ((l.drop (k + 1)).filter (liveT s)) := fun x hx => hf x (List.mem_of_mem_drop (List.mem_filter.1 hx).1)
    rw [map_flat hfd, ← hfil] at e3
    have hfl : ((l.drop (k + 1)).filter (liveT s)).length ≤ l.length - (k + 1) := by
      have := List.length_filter_le (liveT s) (l.drop (k + 1))
      simpa using this
    obtain ⟨N, hN⟩ : ∃ N, N = k + ((l.drop (k + 1)).filter (liveT s)).length := ⟨_, rfl⟩
    rw [← hN] at e1 e3
    simp only [decide_eq_false (p := (k : Int) = -1) (by omega), cond_false, wr_succ hkl (Nat.le_trans hl (by omega))]
    rw [show (((l.length : Nat) : Int) - ((k + 1 : Nat) : Int)).toNat + 1 = l.length - (k + 1) + 1 from by omega, e1]
    simp only [Option.bind_some, Int.toNat_natCast, Nat.zero_add]
    rw [decide_eq_true (p := (0 : Int) ≤ (N : Int)) (by omega), decide_eq_true (p := (N : Int) ≤ ((r'.length : Nat) : Int)) (by omega), decide_eq_true (p := (N : Int) ≤ _) (by simp; omega)]
    simp only [Bool.and_self, cond_true, Option.some.injEq]
    rw [List.append_assoc, List.take_append_of_le_length (by simp; omega), List.take_take, Nat.min_self, e3]
end Go.Eng.R
open Go Go.Eng
namespace Go.Eng.R
def dT (ttl now : Int) (r : List V) : V := V.agg [V.int .i64 ttl, V.int .i64 now, V.inl t_impl_Timer r]
theorem setW_good {w : V} {id after : Int} (hg : Good (gl w 2)) : Good (gl (setW w id after) 2) := by
  have h1 := putL_good (hg.sub (stopL_sub _ id)) (t := mkT w id after) (stopL_no hg)
  refine ⟨h1, ?_⟩
  have hp := putL_perm (stopL (gl w 2) id) (mkT w id after)
  have : (putL (stopL (gl w 2) id) (mkT w id after)).Pairwise fun a b => gi a 0 ≠ gi b 0 := by
    rw [← hp.pairwise_iff (fun h e => h e.symm)]
    rw [List.pairwise_append]
    exact ⟨(hg.sub (stopL_sub _ id)).ids, by simp, fun a ha b hb => by simp at hb; subst hb; exact stopL_no hg a ha⟩
  exact this
structure Inv (s : V) (ttl now : Int) (n i : Nat) (r : List V) : Prop where
  good : Good r
  len : r.length ≤ n + i
  w : LW W_Timer r
  flat : flatT r
theorem set_inv {s : V} {ttl now : Int} {n i : Nat} {r : List V} (h : Inv s ttl now n i r) (hn : n + i ≤ 1000) (ht : 1 ≤ ttl ∧ ttl ≤ 1000) (hnow : 0 ≤ now ∧ now ≤ 1000000) {id : Int} (hid : 1 ≤ id ∧ id ≤ 1000000) : Inv s ttl now n (i + 1) (gl (setW (dT ttl now r) id ttl) 2) := by
  have hl := h.len
  have hw : W_Duty (dT ttl now r) := ⟨⟨by show _ ≤ ttl; omega, by show ttl ≤ _; omega⟩, ⟨by show _ ≤ now; omega, by show now ≤ _; omega⟩, h.w⟩
  obtain ⟨k1, k2⟩ := setW_W hw (by show r.length ≤ _; omega) (id := id) ⟨by omega, by omega⟩ (after := ttl) (show I64 (now + ttl) from ⟨by omega, by omega⟩)
  have k2 : (gl (setW (dT ttl now r) id ttl) 2).length ≤ r.length + 1 := k2
  refine ⟨setW_good (w := dT ttl now r) h.good, by omega, k1.2.2, fun x hx => ?_⟩
  have hp := putL_perm (stopL r id) (mkT (dT ttl now r) id ttl)
  have hx : x ∈ putL (stopL r id) (mkT (dT ttl now r) id ttl) := hx
  rcases List.mem_append.1 (hp.mem_iff.2 hx) with hx | hx
  · exact h.flat x ((stopL_sub _ _).mem hx)
  · simp only [List.mem_singleton] at hx
    subst hx; rfl
theorem sess_loops {s : V} (hs : W_State s) (hk : (gl s 4).length ≤ 8) (hall : ∀ i, i < (gl s 4).length → 1 ≤ gi (rd (gl s 4) i) 0 ∧ gi (rd (gl s 4) i) 0 ≤ 1000000) {ttl now : Int} (ht : 1 ≤ ttl ∧ ttl ≤ 1000) (hnow : 0 ≤ now ∧ now ≤ 1000000) {n : Nat} (hn : n ≤ 8) :
    ∀ (k m : Nat) (i : Nat) (any : Bool) (r : List V), (gl s 4).length - i = k → k < m → i ≤ (gl s 4).length → Inv s ttl now n i r →
      ∃ any' r', spec_l15sync_l10 m any (i : Int) (V.agg [V.int .i64 ttl, V.int .i64 now, V.sl 2 t_impl_Timer 0 none]) (n_impl_State s) r = some (any', V.agg [V.int .i64 ttl, V.int .i64 now, V.sl 1 t_impl_Timer 0 none], r') ∧
        impl_Duty_sync_l5 m any (gl s 4) (((gl s 4).length : Nat) : Int) (i : Int) (V.agg [V.int .i64 ttl, V.int .i64 now, V.sl 1 t_impl_Timer 0 none]) r = some (any', V.agg [V.int .i64 ttl, V.int .i64 now, V.sl 1 t_impl_Timer 0 none], r') ∧
        Inv s ttl now n (gl s 4).length r'
  | k, 0, i, any, r, _, h, _, _ => by omega
  | 0, m + 1, i, any, r, hk0, _, hi, hI => by
    obtain rfl : i = (gl s 4).length := by omega
    refine ⟨any, r, ?_, ?_, hI⟩
    · simp only [spec_l15sync_l10, show gl (n_impl_State s) 4 = gl s 4 from rfl, lt_self, cond_false, gi_c0, gi_cs]
    · simp only [impl_Duty_sync_l5, lt_self, cond_false, gi_c0, gi_cs]
  | k + 1, m + 1, i, any, r, hk0, hm, hi, hI => by
    have hlt : i < (gl s 4).length := by omega
    have hl := hI.len
    have hb := hall i hlt
    have htm : impl_Wheel_timer (V.agg [V.int .i64 now, V.inl t_impl_Timer r]) (gi (rd (gl s 4) i) 0) = some (fT r (gi (rd (gl s 4) i) 0)) := timer_eq (w := wlD (dT ttl now r)) (by show r.length ≤ _; omega) _
    have hset := spec_set_eq (w := dT ttl now r) (by show r.length ≤ _; omega) (gi (rd (gl s 4) i) 0) ttl
    have hset : spec_l7set (V.agg [V.int .i64 ttl, V.int .i64 now, V.inl t_impl_Timer r]) (gi (rd (gl s 4) i) 0) ttl = _ := hset
    have hset2 := impl_set_eq (w := dT ttl now r) (by show r.length ≤ _; omega) hI.good (gi (rd (gl s 4) i) 0) ttl
    have hset2 : impl_Wheel_set (V.agg [V.int .i64 ttl, V.int .i64 now, V.inl t_impl_Timer r]) (gi (rd (gl s 4) i) 0) ttl = _ := hset2
    rw [decide_eq_true (p := 0 ≤ gi (rd (gl s 4) i) 0 ∧ gi (rd (gl s 4) i) 0 ≤ 2147483647 ∧ 1 ≤ ttl ∧ ttl ≤ 1000000 ∧ (0 ≤ fT (gl (dT ttl now r) 2) (gi (rd (gl s 4) i) 0) ∨ (gl (dT ttl now r) 2).length < 40)) ⟨by omega, by omega, by omega, by omega, .inr (by show r.length < 40; omega)⟩, cond_true] at hset
    have e0 : gi (setW (dT ttl now r) (gi (rd (gl s 4) i) 0) ttl) 0 = ttl := rfl
    have e1 : gi (setW (dT ttl now r) (gi (rd (gl s 4) i) 0) ttl) 1 = now := rfl
    have hlen64 : (gl s 4).length ≤ 9223372036854775807 := by omega
    simp only [spec_l15sync_l10, impl_Duty_sync_l5, show gl (n_impl_State s) 4 = gl s 4 from rfl, show n_impl_State (n_impl_State s) = n_impl_State s from rfl, lt_nat hlt, cond_true, idxOk_nat hlt, Int.toNat_natCast, gi_c0, gi_cs, l7find_eq (l := r) (by omega), htm, hset, hset2, Option.bind_some, wr_succ hlt hlen64, e0, e1]
    by_cases hf : fT r (gi (rd (gl s 4) i) 0) < 0
    · simp only [decide_eq_true hf, cond_true]
      exact sess_loops hs hk hall ht hnow hn k m (i + 1) true _ (by omega) (by omega) (by omega) (set_inv hI (by omega) ht hnow hb)
    · simp only [decide_eq_false hf, cond_false]
      exact sess_loops hs hk hall ht hnow hn k m (i + 1) any r (by omega) (by omega) (by omega) ⟨hI.good, by omega, hI.w, hI.flat⟩
theorem stateB_sess {s : V} (h : stateB s = true) : (gl s 4).length ≤ 8 ∧ ∀ i, i < (gl s 4).length → 1 ≤ gi (rd (gl s 4) i) 0 ∧ gi (rd (gl s 4) i) 0 ≤ 1000000 := by
  unfold stateB headB at h
  simp only [Bool.and_eq_true, decide_eq_true_eq, List.all_eq_true, List.mem_range] at h
  refine ⟨h.1.2.2.2.2.2.2.1, fun i hi => ?_⟩
  have := h.2.2.2.1 i hi
  unfold sessB at this
  simp only [Bool.and_eq_true, Bool.not_eq_true', decide_eq_false_iff_not] at this
  have h2 := h.1.2.1
  omega
theorem sync_eq {d s : V} (hd : W_Duty d) (hs : W_State s) (hok : okD d = true) (hst : stateB s = true) (hf : flatT (gl d 2)) :
    ∃ any r, impl_Duty_sync (n_impl_Duty d) (n_impl_State s) = some (any, dT (gi d 0) (gi d 1) r) ∧ spec_l15sync (n_impl_Duty d) (n_impl_State s) = some (any, dT (gi d 0) (gi d 1) r) ∧ Inv s (gi d 0) (gi d 1) 8 (gl s 4).length r := by
  obtain ⟨g1, g2, g3, g4, g5, g6⟩ := okD_spec hok
  obtain ⟨s1, s2⟩ := stateB_sess hst
  have hk : (gl s 4).length ≤ 9223372036854775807 := by omega
  have hfl := List.length_filter_le (liveT s) (gl d 2)
  have hI : Inv s (gi d 0) (gi d 1) 8 0 ((gl d 2).filter (liveT s)) := ⟨g6.sub List.filter_sublist, by omega, ⟨by omega, fun x hx => hd.2.2.2 x (List.mem_filter.1 hx).1⟩, fun x hx => hf x (List.mem_filter.1 hx).1⟩
  obtain ⟨any, r, e1, e2, e3⟩ := sess_loops hs s1 s2 ⟨g1, g2⟩ ⟨g4, g5⟩ (n := 8) (by omega) ((gl s 4).length - 0) ((gl s 4).length + 1) 0 (!decide (((gl d 2).filter (liveT s)).length = (gl d 2).length)) ((gl d 2).filter (liveT s)) rfl (by omega) (by omega) hI
  refine ⟨any, r, ?_, ?_, e3⟩
  · unfold impl_Duty_sync
    rw [show gl (n_impl_Duty d) 2 = gl d 2 from rfl, show n_impl_State (n_impl_State s) = n_impl_State s from rfl, deleteFunc_eq hk (by omega) hf]
    simp only [Option.bind_some, show gl (n_impl_State s) 4 = gl s 4 from rfl, fuel_eq, show gi (n_impl_Duty d) 0 = gi d 0 from rfl, show gi (n_impl_Duty d) 1 = gi d 1 from rfl]
    have hcast : decide ((((gl d 2).filter (liveT s)).length : Int) = (((gl d 2).length : Nat) : Int)) = decide (((gl d 2).filter (liveT s)).length = (gl d 2).length) := by rw [decide_eq_decide]; omega
    rw [hcast, show (0 : Int) = ((0 : Nat) : Int) from rfl, e2]
    rfl
  · unfold spec_l15sync
    have h1 := spec_strike hk (gi d 0) (gi d 1) (gl d 2) [] ((gl d 2).length + 1) false (by omega) (by simpa using g6) (by simp; omega)
    simp only [List.nil_append, List.length_nil, Bool.false_or] at h1
    simp only [show gl (n_impl_Duty d) 2 = gl d 2 from rfl, fuel_eq, show gi (n_impl_Duty d) 0 = gi d 0 from rfl, show gi (n_impl_Duty d) 1 = gi d 1 from rfl, show n_impl_State (n_impl_State s) = n_impl_State s from rfl]
    rw [show (0 : Int) = ((0 : Nat) : Int) from rfl, h1]
    simp only [Option.bind_some, show gl (n_impl_State s) 4 = gl s 4 from rfl, show n_impl_State (n_impl_State s) = n_impl_State s from rfl, gi_c0, gi_cs]
    rw [e1]
    rfl
theorem sync_full {d s : V} (hd : W_Duty d) (hz : z_Duty d ≤ 1048576) (hs : W_State s) (hf : flatT (gl d 2)) :
    ∃ g b, impl_DutySync (n_impl_Duty d) (n_impl_State s) = some (g, b) ∧ spec_DutySync (n_impl_Duty d) (n_impl_State s) = some (g, b) ∧ W_Duty g ∧ z_Duty g ≤ 1048577 ∧ n_impl_Duty g = g := by
  rw [z_len] at hz
  unfold impl_DutySync spec_DutySync
  simp only [show n_impl_Duty (n_impl_Duty d) = n_impl_Duty d from rfl, show n_impl_State (n_impl_State s) = n_impl_State s from rfl, spec_DutyOk_eq hd, impl_DutyOk_eq hd, spec_StateOk_eq hs, impl_StateOk_eq hs, Option.bind_some]
  cases hok : okD d with
  | false => exact ⟨zeroD, false, rfl, rfl, zeroD_W, by decide, rfl⟩
  | true =>
    cases hst : stateB s with
    | false => exact ⟨zeroD, false, rfl, rfl, zeroD_W, by decide, rfl⟩
    | true =>
      obtain ⟨g1, g2, g3, g4, g5, g6⟩ := okD_spec hok
      obtain ⟨s1, s2⟩ := stateB_sess hst
      obtain ⟨any, r, e1, e2, e3⟩ := sync_eq hd hs hok hst hf
      have hlen := e3.len
      simp only [Bool.not_true, cond_false, impl_own_eq (d := d) (by omega), spec_own_eq (d := d) (by omega), Option.bind_some, show n_impl_Duty (n_impl_Duty d) = n_impl_Duty d from rfl, e1, e2]
      refine ⟨dT (gi d 0) (gi d 1) r, any, rfl, rfl, ⟨hd.1, hd.2.1, e3.w⟩, ?_, rfl⟩
      rw [z_len]
      show r.length ≤ _
      omega
end Go.Eng.R
open Go Go.Eng
namespace Go.Eng.R
theorem law_DutySync {n m : V} (hn : W_Duty n) (hm : W_State m) : laws_FnExactDutySync n m = some true := by
  unfold laws_FnExactDutySync
  obtain ⟨r, e, hr⟩ := laws_szDuty_ok (n_laws_Duty n) 1048576 hn (by omega) (by omega)
  rw [e]
  rcases hr with hr | ⟨r0, r1, hz⟩
  · rw [decide_eq_true hr]; rfl
  rw [decide_eq_false (p := r < 0) (by omega)]
  have hz : r + ((z_Duty n : Nat) : Int) = 1048576 := hz
  obtain ⟨r', e', hr'⟩ := laws_szState_ok (n_laws_State m) r hm (by omega) (by omega)
  simp only [cond_false, e', Option.bind_some]
  rcases hr' with hr' | ⟨r0', r1', hz'⟩
  · rw [decide_eq_true hr']; rfl
  rw [decide_eq_false (p := r' < 0) (by omega)]
  have hz' : r' + ((z_State m : Nat) : Int) = r := hz'
  have hto : laws_toDuty (n_laws_Duty n) = some (cnv_Duty n) := laws_toDuty_ok (n_laws_Duty n) hn (by show z_Duty n ≤ _; omega)
  have htm : laws_toState (n_laws_State m) = some (cnv_State m) := laws_toState_ok (n_laws_State m) hm (by show z_State m ≤ _; omega)
  have hy : W_Duty (cnv_Duty n) := cnv_Duty_W n hn
  have hym : W_State (cnv_State m) := cnv_State_W m hm
  have hyz : z_Duty (cnv_Duty n) ≤ 1048576 := by rw [cnv_Duty_z]; omega
  have hymz : z_State (cnv_State m) ≤ 1048576 := by rw [cnv_State_z]; omega
  have hflat : flatT (gl (cnv_Duty n) 2) := fun x hx => by
    have hx : x ∈ (gl n 2).map cnv_Timer := hx
    obtain ⟨y, -, rfl⟩ := List.mem_map.1 hx
    rfl
  obtain ⟨g, b, g1, g2, g3, g4, g5⟩ := sync_full (d := cnv_Duty n) (s := cnv_State m) hy hyz hym hflat
  have hct := ct_Duty_cz (cnv_Duty n)
  have hcm := ct_State_cz (cnv_State m)
  have hcg := ct_Duty_cz g
  obtain ⟨b0, f1, -⟩ := laws_markDuty_ok (n_impl_Duty (cnv_Duty n)) 1 hy (by omega) (by show (1 : Int) + ((ct_Duty (cnv_Duty n) : Nat) : Int) ≤ _; omega)
  simp only [show ct_Duty (n_impl_Duty (cnv_Duty n)) = ct_Duty (cnv_Duty n) from rfl] at f1
  have hmk := laws_markState_ok (n_impl_State (cnv_State m)) (1 + ((ct_Duty (cnv_Duty n) : Nat) : Int)) hym (by omega) (by show (1 : Int) + ((ct_Duty (cnv_Duty n) : Nat) : Int) + ((ct_State (cnv_State m) : Nat) : Int) ≤ _; omega)
  obtain ⟨b1, b2, b3, b4, f2, -⟩ := hmk
  simp only [show ct_State (n_impl_State (cnv_State m)) = ct_State (cnv_State m) from rfl] at f2
  obtain ⟨d0, f3, q0, s0⟩ := laws_markDuty_ok (n_impl_Duty g) 1 g3 (by omega) (by show (1 : Int) + ((ct_Duty g : Nat) : Int) ≤ _; omega)
  simp only [show ct_Duty (n_impl_Duty g) = ct_Duty g from rfl] at f3
  have s0 : sumL c_Timer d0 = sumL c_Timer (gl g 2) := s0
  have hc : ct_Duty (V.agg [(V.int .i64 (gi g 0)), (V.int .i64 (gi g 1)), (V.inl t_impl_Timer d0)]) = ct_Duty g := by
    show sumL c_Timer d0 = sumL c_Timer (gl g 2)
    rw [s0]
  have hh := laws_heldDuty_ok (V.agg [(V.int .i64 (gi g 0)), (V.int .i64 (gi g 1)), (V.inl t_impl_Timer d0)]) 1 q0 (by omega) (by rw [hc]; omega)
  rw [hc] at hh
  have eq1 := laws_eqDuty_ok (n_impl_Duty g) g3
  have eq2 := laws_eqDuty_ok (n_impl_Duty (cnv_Duty n)) hy
  have eq3 := laws_eqState_ok (n_impl_State (cnv_State m)) hym
  simp only [hto, htm, g1, g2, eq1, eq2, eq3, f1, f2, f3, hh, Option.bind_some, cond_false, Bool.not_true, beq_self_eq_true]
  rw [decide_eq_false (p := (1 : Int) + ((ct_Duty (cnv_Duty n) : Nat) : Int) + ((ct_State (cnv_State m) : Nat) : Int) < 0) (by omega), decide_eq_false (p := (1 : Int) + ((ct_Duty g : Nat) : Int) < 0) (by omega)]
  simp
end Go.Eng.R
open Go Go.Eng
namespace Go.Eng.R
theorem wt_laws_Timer {x : V} (h : WtT tab t_laws_Timer x) : W_Timer x := ⟨wt_i64 (h.cell 0 rfl), wt_i64 (h.cell 1 rfl)⟩
theorem wt_laws_Duty {x : V} (h : WtT tab t_laws_Duty x) : W_Duty x := ⟨wt_i64 (h.cell 0 rfl), wt_i64 (h.cell 1 rfl), wt_sl (h.cell 2 rfl) fun _ => wt_laws_Timer⟩
theorem wt_byte {x : V} (h : WtT tab t_byte x) : W_byte x := wt_u8 (h.cell 0 rfl)
theorem wt_laws_Row {x : V} (h : WtT tab t_laws_Row x) : W_Row x := ⟨wt_sl (h.cell 0 rfl) fun _ => wt_byte, wt_sl (h.cell 1 rfl) fun _ => wt_byte, wt_i64 (h.cell 2 rfl), wt_i64 (h.cell 3 rfl)⟩
theorem wt_laws_Tomb {x : V} (h : WtT tab t_laws_Tomb x) : W_Tomb x := ⟨wt_sl (h.cell 0 rfl) fun _ => wt_byte, wt_i64 (h.cell 1 rfl)⟩
theorem wt_laws_Session {x : V} (h : WtT tab t_laws_Session x) : W_Session x := ⟨wt_i64 (h.cell 0 rfl), trivial⟩
theorem wt_laws_Last {x : V} (h : WtT tab t_laws_Last x) : W_Last x := ⟨wt_i64 (h.cell 0 rfl), wt_i64 (h.cell 1 rfl), wt_i64 (h.cell 2 rfl), wt_i64 (h.cell 3 rfl)⟩
theorem wt_laws_State {x : V} (h : WtT tab t_laws_State x) : W_State x := ⟨wt_i64 (h.cell 0 rfl), wt_sl (h.cell 1 rfl) fun _ => wt_laws_Row, wt_sl (h.cell 2 rfl) fun _ => wt_laws_Tomb, wt_i64 (h.cell 3 rfl), wt_sl (h.cell 4 rfl) fun _ => wt_laws_Session, wt_sl (h.cell 5 rfl) fun _ => wt_laws_Last⟩
def readable : List TypeId := [3, 4, 5, 22, 23, 24, 25, 27, 28, 80, 82, 84, 167, 170, 185, 187, 189, 241]
end Go.Eng.R
