/-
  What the types of the program are, as the evaluator asks. Written by a program.
-/
import Derived.Test.YtojaohcpgelhmaaDoorEnvF
import Derived.Test.YtojaohcpgelhmaaDoorEvWalk
set_option maxRecDepth 100000
namespace Go.Proofs.YtojaohcpgelhmaaDoor
namespace Ev

def offOf (P : Program) (t : TypeId) (i : Nat) : Option (Nat × Nat) := match P.underlying t with
  | some (.struct fields) => (fields.toList[i]?).map fun f => (f.offset, P.cellsOf f.type)
  | _ => none
def structOK (P : Program) (t : TypeId) : Bool := match P.underlying t with
  | some (.struct fields) => fields.toList.all fun f => (P.info? f.type).isSome
  | _ => false
theorem aBuild_struct {P : Program} {t : TypeId} {z : A} {parts : List (Nat × A)} (hs : structOK P t = true) (hz : zeroA P t = some z) : aBuild P t parts = (fillA (cellsA z) (parts.map fun p => (offOf P t p.1, p.2))).map .agg := by
  unfold structOK at hs
  unfold aBuild offOf
  rw [hz]
  cases hu : P.underlying t with
  | none => rw [hu] at hs; cases hs
  | some d =>
    rw [hu] at hs
    cases d <;> first | cases hs | skip
    simp only at hs ⊢
    rw [if_pos hs]
theorem aBuild_array {P : Program} {t e : TypeId} {n c : Nat} {z : A} {parts : List (Nat × A)} (hu : P.underlying t = some (.array n e)) (hz : zeroA P t = some z) (hi : (P.info? e).isSome = true) (hc : P.cellsOf e = c) : aBuild P t parts = (fillA (cellsA z) (parts.map fun p => (some (p.1 * c, c), p.2))).map .agg := by
  unfold aBuild
  rw [hz, hu]
  simp only [hi, if_true, hc]
theorem aConv_int {P : Program} {h : H} {t u : TypeId} {K K1 K2 : IntKind} {n : Int} (h1 : P.underlying t = some (.int K1)) (h2 : P.underlying u = some (.int K2)) : aConvert P h t u (.d (.int K n)) = some (.d (.int K2 (K2.wrap n)), h) := by
  simp only [aConvert, h1, h2]

theorem ty_u_int64 : env.P.underlying 2 = some (.int .i64) := by kernel_rfl
theorem ty_el_int64 : elemT env.P 2 = none := by kernel_rfl
theorem ty_c_int64 : env.P.cellsOf 2 = 1 := by kernel_rfl
theorem ty_e_int64 : elemOk env.P 2 = true := by kernel_rfl
theorem ty_ag_int64 : isAggT env.P 2 = some false := by kernel_rfl
theorem ty_z_int64 : zeroA env.P 2 = some (.d (.int .i64 0)) := by kernel_rfl
theorem ty_i_int64 : (env.P.info? 2).isSome = true := by kernel_rfl
theorem ty_u_int : env.P.underlying 3 = some (.int .i64) := by kernel_rfl
theorem ty_el_int : elemT env.P 3 = none := by kernel_rfl
theorem ty_c_int : env.P.cellsOf 3 = 1 := by kernel_rfl
theorem ty_e_int : elemOk env.P 3 = true := by kernel_rfl
theorem ty_ag_int : isAggT env.P 3 = some false := by kernel_rfl
theorem ty_z_int : zeroA env.P 3 = some (.d (.int .i64 0)) := by kernel_rfl
theorem ty_i_int : (env.P.info? 3).isSome = true := by kernel_rfl
theorem ty_u_bool : env.P.underlying 4 = some .bool := by kernel_rfl
theorem ty_el_bool : elemT env.P 4 = none := by kernel_rfl
theorem ty_c_bool : env.P.cellsOf 4 = 1 := by kernel_rfl
theorem ty_e_bool : elemOk env.P 4 = true := by kernel_rfl
theorem ty_ag_bool : isAggT env.P 4 = some false := by kernel_rfl
theorem ty_z_bool : zeroA env.P 4 = some (.d (.bool false)) := by kernel_rfl
theorem ty_i_bool : (env.P.info? 4).isSome = true := by kernel_rfl
theorem ty_u_uint8 : env.P.underlying 5 = some (.int .u8) := by kernel_rfl
theorem ty_el_uint8 : elemT env.P 5 = none := by kernel_rfl
theorem ty_c_uint8 : env.P.cellsOf 5 = 1 := by kernel_rfl
theorem ty_e_uint8 : elemOk env.P 5 = true := by kernel_rfl
theorem ty_ag_uint8 : isAggT env.P 5 = some false := by kernel_rfl
theorem ty_z_uint8 : zeroA env.P 5 = some (.d (.int .u8 0)) := by kernel_rfl
theorem ty_i_uint8 : (env.P.info? 5).isSome = true := by kernel_rfl
theorem ty_u_string : env.P.underlying 9 = some .string := by kernel_rfl
theorem ty_el_string : elemT env.P 9 = none := by kernel_rfl
theorem ty_c_string : env.P.cellsOf 9 = 1 := by kernel_rfl
theorem ty_e_string : elemOk env.P 9 = true := by kernel_rfl
theorem ty_ag_string : isAggT env.P 9 = some false := by kernel_rfl
theorem ty_z_string : zeroA env.P 9 = some (.d (.str [])) := by kernel_rfl
theorem ty_i_string : (env.P.info? 9).isSome = true := by kernel_rfl
theorem ty_u_uintptr : env.P.underlying 12 = some (.int .u64) := by kernel_rfl
theorem ty_el_uintptr : elemT env.P 12 = none := by kernel_rfl
theorem ty_c_uintptr : env.P.cellsOf 12 = 1 := by kernel_rfl
theorem ty_e_uintptr : elemOk env.P 12 = true := by kernel_rfl
theorem ty_ag_uintptr : isAggT env.P 12 = some false := by kernel_rfl
theorem ty_z_uintptr : zeroA env.P 12 = some (.d (.int .u64 0)) := by kernel_rfl
theorem ty_i_uintptr : (env.P.info? 12).isSome = true := by kernel_rfl
theorem ty_st_struct_msg_string_addr_uintptr : structOK env.P 13 = true := by kernel_rfl
theorem ty_fo_struct_msg_string_addr_uintptr_0 : fieldOff env.P 13 0 = some (0, 9) := by kernel_rfl
theorem ty_oo_struct_msg_string_addr_uintptr_0 : offOf env.P 13 0 = some (0, 1) := by kernel_rfl
theorem ty_fo_struct_msg_string_addr_uintptr_1 : fieldOff env.P 13 1 = some (1, 12) := by kernel_rfl
theorem ty_oo_struct_msg_string_addr_uintptr_1 : offOf env.P 13 1 = some (1, 1) := by kernel_rfl
theorem ty_el_struct_msg_string_addr_uintptr : elemT env.P 13 = none := by kernel_rfl
theorem ty_c_struct_msg_string_addr_uintptr : env.P.cellsOf 13 = 2 := by kernel_rfl
theorem ty_e_struct_msg_string_addr_uintptr : elemOk env.P 13 = true := by kernel_rfl
theorem ty_ag_struct_msg_string_addr_uintptr : isAggT env.P 13 = some true := by kernel_rfl
theorem ty_z_struct_msg_string_addr_uintptr : zeroA env.P 13 = some (.agg [.d (.str []), .d (.int .u64 0)]) := by kernel_rfl
theorem ty_i_struct_msg_string_addr_uintptr : (env.P.info? 13).isSome = true := by kernel_rfl
theorem ty_el_interface : elemT env.P 20 = none := by kernel_rfl
theorem ty_c_interface : env.P.cellsOf 20 = 1 := by kernel_rfl
theorem ty_e_interface : elemOk env.P 20 = true := by kernel_rfl
theorem ty_ag_interface : isAggT env.P 20 = some false := by kernel_rfl
theorem ty_z_interface : zeroA env.P 20 = some (.d (.nili)) := by kernel_rfl
theorem ty_i_interface : (env.P.info? 20).isSome = true := by kernel_rfl
theorem ty_u_int32 : env.P.underlying 21 = some (.int .i32) := by kernel_rfl
theorem ty_el_int32 : elemT env.P 21 = none := by kernel_rfl
theorem ty_c_int32 : env.P.cellsOf 21 = 1 := by kernel_rfl
theorem ty_e_int32 : elemOk env.P 21 = true := by kernel_rfl
theorem ty_ag_int32 : isAggT env.P 21 = some false := by kernel_rfl
theorem ty_z_int32 : zeroA env.P 21 = some (.d (.int .i32 0)) := by kernel_rfl
theorem ty_i_int32 : (env.P.info? 21).isSome = true := by kernel_rfl
theorem ty_u_sl_uint8 : env.P.underlying 22 = some (.slice 5) := by kernel_rfl
theorem ty_el_sl_uint8 : elemT env.P 22 = some 5 := by simp only [elemT, ty_u_sl_uint8]
theorem ty_c_sl_uint8 : env.P.cellsOf 22 = 1 := by kernel_rfl
theorem ty_e_sl_uint8 : elemOk env.P 22 = true := by kernel_rfl
theorem ty_ag_sl_uint8 : isAggT env.P 22 = some false := by kernel_rfl
theorem ty_z_sl_uint8 : zeroA env.P 22 = some (.d (.nils)) := by kernel_rfl
theorem ty_i_sl_uint8 : (env.P.info? 22).isSome = true := by kernel_rfl
theorem ty_u_sl_impl_Edge : env.P.underlying 23 = some (.slice 38) := by kernel_rfl
theorem ty_el_sl_impl_Edge : elemT env.P 23 = some 38 := by simp only [elemT, ty_u_sl_impl_Edge]
theorem ty_c_sl_impl_Edge : env.P.cellsOf 23 = 1 := by kernel_rfl
theorem ty_e_sl_impl_Edge : elemOk env.P 23 = true := by kernel_rfl
theorem ty_ag_sl_impl_Edge : isAggT env.P 23 = some false := by kernel_rfl
theorem ty_z_sl_impl_Edge : zeroA env.P 23 = some (.d (.nils)) := by kernel_rfl
theorem ty_i_sl_impl_Edge : (env.P.info? 23).isSome = true := by kernel_rfl
theorem ty_st_struct_Alphabet_int_States_int_Edges_sl_impl_Edge : structOK env.P 24 = true := by kernel_rfl
theorem ty_fo_struct_Alphabet_int_States_int_Edges_sl_impl_Edge_0 : fieldOff env.P 24 0 = some (0, 3) := by kernel_rfl
theorem ty_oo_struct_Alphabet_int_States_int_Edges_sl_impl_Edge_0 : offOf env.P 24 0 = some (0, 1) := by kernel_rfl
theorem ty_fo_struct_Alphabet_int_States_int_Edges_sl_impl_Edge_1 : fieldOff env.P 24 1 = some (1, 3) := by kernel_rfl
theorem ty_oo_struct_Alphabet_int_States_int_Edges_sl_impl_Edge_1 : offOf env.P 24 1 = some (1, 1) := by kernel_rfl
theorem ty_fo_struct_Alphabet_int_States_int_Edges_sl_impl_Edge_2 : fieldOff env.P 24 2 = some (2, 23) := by kernel_rfl
theorem ty_oo_struct_Alphabet_int_States_int_Edges_sl_impl_Edge_2 : offOf env.P 24 2 = some (2, 1) := by kernel_rfl
theorem ty_el_struct_Alphabet_int_States_int_Edges_sl_impl_Edge : elemT env.P 24 = none := by kernel_rfl
theorem ty_c_struct_Alphabet_int_States_int_Edges_sl_impl_Edge : env.P.cellsOf 24 = 3 := by kernel_rfl
theorem ty_e_struct_Alphabet_int_States_int_Edges_sl_impl_Edge : elemOk env.P 24 = true := by kernel_rfl
theorem ty_ag_struct_Alphabet_int_States_int_Edges_sl_impl_Edge : isAggT env.P 24 = some true := by kernel_rfl
theorem ty_z_struct_Alphabet_int_States_int_Edges_sl_impl_Edge : zeroA env.P 24 = some (.agg [.d (.int .i64 0), .d (.int .i64 0), .d (.nils)]) := by kernel_rfl
theorem ty_i_struct_Alphabet_int_States_int_Edges_sl_impl_Edge : (env.P.info? 24).isSome = true := by kernel_rfl
theorem ty_st_impl_System : structOK env.P 25 = true := by kernel_rfl
theorem ty_fo_impl_System_0 : fieldOff env.P 25 0 = some (0, 3) := by kernel_rfl
theorem ty_oo_impl_System_0 : offOf env.P 25 0 = some (0, 1) := by kernel_rfl
theorem ty_fo_impl_System_1 : fieldOff env.P 25 1 = some (1, 3) := by kernel_rfl
theorem ty_oo_impl_System_1 : offOf env.P 25 1 = some (1, 1) := by kernel_rfl
theorem ty_fo_impl_System_2 : fieldOff env.P 25 2 = some (2, 23) := by kernel_rfl
theorem ty_oo_impl_System_2 : offOf env.P 25 2 = some (2, 1) := by kernel_rfl
theorem ty_el_impl_System : elemT env.P 25 = none := by kernel_rfl
theorem ty_c_impl_System : env.P.cellsOf 25 = 3 := by kernel_rfl
theorem ty_e_impl_System : elemOk env.P 25 = true := by kernel_rfl
theorem ty_ag_impl_System : isAggT env.P 25 = some true := by kernel_rfl
theorem ty_z_impl_System : zeroA env.P 25 = some (.agg [.d (.int .i64 0), .d (.int .i64 0), .d (.nils)]) := by kernel_rfl
theorem ty_i_impl_System : (env.P.info? 25).isSome = true := by kernel_rfl
theorem ty_st_struct_From_int_Letter_int_To_int : structOK env.P 37 = true := by kernel_rfl
theorem ty_fo_struct_From_int_Letter_int_To_int_0 : fieldOff env.P 37 0 = some (0, 3) := by kernel_rfl
theorem ty_oo_struct_From_int_Letter_int_To_int_0 : offOf env.P 37 0 = some (0, 1) := by kernel_rfl
theorem ty_fo_struct_From_int_Letter_int_To_int_1 : fieldOff env.P 37 1 = some (1, 3) := by kernel_rfl
theorem ty_oo_struct_From_int_Letter_int_To_int_1 : offOf env.P 37 1 = some (1, 1) := by kernel_rfl
theorem ty_fo_struct_From_int_Letter_int_To_int_2 : fieldOff env.P 37 2 = some (2, 3) := by kernel_rfl
theorem ty_oo_struct_From_int_Letter_int_To_int_2 : offOf env.P 37 2 = some (2, 1) := by kernel_rfl
theorem ty_el_struct_From_int_Letter_int_To_int : elemT env.P 37 = none := by kernel_rfl
theorem ty_c_struct_From_int_Letter_int_To_int : env.P.cellsOf 37 = 3 := by kernel_rfl
theorem ty_e_struct_From_int_Letter_int_To_int : elemOk env.P 37 = true := by kernel_rfl
theorem ty_ag_struct_From_int_Letter_int_To_int : isAggT env.P 37 = some true := by kernel_rfl
theorem ty_z_struct_From_int_Letter_int_To_int : zeroA env.P 37 = some (.agg [.d (.int .i64 0), .d (.int .i64 0), .d (.int .i64 0)]) := by kernel_rfl
theorem ty_i_struct_From_int_Letter_int_To_int : (env.P.info? 37).isSome = true := by kernel_rfl
theorem ty_st_impl_Edge : structOK env.P 38 = true := by kernel_rfl
theorem ty_fo_impl_Edge_0 : fieldOff env.P 38 0 = some (0, 3) := by kernel_rfl
theorem ty_oo_impl_Edge_0 : offOf env.P 38 0 = some (0, 1) := by kernel_rfl
theorem ty_fo_impl_Edge_1 : fieldOff env.P 38 1 = some (1, 3) := by kernel_rfl
theorem ty_oo_impl_Edge_1 : offOf env.P 38 1 = some (1, 1) := by kernel_rfl
theorem ty_fo_impl_Edge_2 : fieldOff env.P 38 2 = some (2, 3) := by kernel_rfl
theorem ty_oo_impl_Edge_2 : offOf env.P 38 2 = some (2, 1) := by kernel_rfl
theorem ty_el_impl_Edge : elemT env.P 38 = none := by kernel_rfl
theorem ty_c_impl_Edge : env.P.cellsOf 38 = 3 := by kernel_rfl
theorem ty_e_impl_Edge : elemOk env.P 38 = true := by kernel_rfl
theorem ty_ag_impl_Edge : isAggT env.P 38 = some true := by kernel_rfl
theorem ty_z_impl_Edge : zeroA env.P 38 = some (.agg [.d (.int .i64 0), .d (.int .i64 0), .d (.int .i64 0)]) := by kernel_rfl
theorem ty_i_impl_Edge : (env.P.info? 38).isSome = true := by kernel_rfl
theorem ty_u_ptr_spec_l19Rd : env.P.underlying 42 = some (.pointer 75) := by kernel_rfl
theorem ty_el_ptr_spec_l19Rd : elemT env.P 42 = none := by kernel_rfl
theorem ty_c_ptr_spec_l19Rd : env.P.cellsOf 42 = 1 := by kernel_rfl
theorem ty_e_ptr_spec_l19Rd : elemOk env.P 42 = true := by kernel_rfl
theorem ty_ag_ptr_spec_l19Rd : isAggT env.P 42 = some false := by kernel_rfl
theorem ty_z_ptr_spec_l19Rd : zeroA env.P 42 = some (.d (.nilp)) := by kernel_rfl
theorem ty_i_ptr_spec_l19Rd : (env.P.info? 42).isSome = true := by kernel_rfl
theorem ty_u_sl_int : env.P.underlying 52 = some (.slice 3) := by kernel_rfl
theorem ty_el_sl_int : elemT env.P 52 = some 3 := by simp only [elemT, ty_u_sl_int]
theorem ty_c_sl_int : env.P.cellsOf 52 = 1 := by kernel_rfl
theorem ty_e_sl_int : elemOk env.P 52 = true := by kernel_rfl
theorem ty_ag_sl_int : isAggT env.P 52 = some false := by kernel_rfl
theorem ty_z_sl_int : zeroA env.P 52 = some (.d (.nils)) := by kernel_rfl
theorem ty_i_sl_int : (env.P.info? 52).isSome = true := by kernel_rfl
theorem ty_u_ptr_impl_moves : env.P.underlying 57 = some (.pointer 86) := by kernel_rfl
theorem ty_el_ptr_impl_moves : elemT env.P 57 = none := by kernel_rfl
theorem ty_c_ptr_impl_moves : env.P.cellsOf 57 = 1 := by kernel_rfl
theorem ty_e_ptr_impl_moves : elemOk env.P 57 = true := by kernel_rfl
theorem ty_ag_ptr_impl_moves : isAggT env.P 57 = some false := by kernel_rfl
theorem ty_z_ptr_impl_moves : zeroA env.P 57 = some (.d (.nilp)) := by kernel_rfl
theorem ty_i_ptr_impl_moves : (env.P.info? 57).isSome = true := by kernel_rfl
theorem ty_st_struct_b_sl_uint8_p_int : structOK env.P 74 = true := by kernel_rfl
theorem ty_fo_struct_b_sl_uint8_p_int_0 : fieldOff env.P 74 0 = some (0, 22) := by kernel_rfl
theorem ty_oo_struct_b_sl_uint8_p_int_0 : offOf env.P 74 0 = some (0, 1) := by kernel_rfl
theorem ty_fo_struct_b_sl_uint8_p_int_1 : fieldOff env.P 74 1 = some (1, 3) := by kernel_rfl
theorem ty_oo_struct_b_sl_uint8_p_int_1 : offOf env.P 74 1 = some (1, 1) := by kernel_rfl
theorem ty_el_struct_b_sl_uint8_p_int : elemT env.P 74 = none := by kernel_rfl
theorem ty_c_struct_b_sl_uint8_p_int : env.P.cellsOf 74 = 2 := by kernel_rfl
theorem ty_e_struct_b_sl_uint8_p_int : elemOk env.P 74 = true := by kernel_rfl
theorem ty_ag_struct_b_sl_uint8_p_int : isAggT env.P 74 = some true := by kernel_rfl
theorem ty_z_struct_b_sl_uint8_p_int : zeroA env.P 74 = some (.agg [.d (.nils), .d (.int .i64 0)]) := by kernel_rfl
theorem ty_i_struct_b_sl_uint8_p_int : (env.P.info? 74).isSome = true := by kernel_rfl
theorem ty_st_spec_l19Rd : structOK env.P 75 = true := by kernel_rfl
theorem ty_fo_spec_l19Rd_0 : fieldOff env.P 75 0 = some (0, 22) := by kernel_rfl
theorem ty_oo_spec_l19Rd_0 : offOf env.P 75 0 = some (0, 1) := by kernel_rfl
theorem ty_fo_spec_l19Rd_1 : fieldOff env.P 75 1 = some (1, 3) := by kernel_rfl
theorem ty_oo_spec_l19Rd_1 : offOf env.P 75 1 = some (1, 1) := by kernel_rfl
theorem ty_el_spec_l19Rd : elemT env.P 75 = none := by kernel_rfl
theorem ty_c_spec_l19Rd : env.P.cellsOf 75 = 2 := by kernel_rfl
theorem ty_e_spec_l19Rd : elemOk env.P 75 = true := by kernel_rfl
theorem ty_ag_spec_l19Rd : isAggT env.P 75 = some true := by kernel_rfl
theorem ty_z_spec_l19Rd : zeroA env.P 75 = some (.agg [.d (.nils), .d (.int .i64 0)]) := by kernel_rfl
theorem ty_i_spec_l19Rd : (env.P.info? 75).isSome = true := by kernel_rfl
theorem ty_u_uint : env.P.underlying 81 = some (.int .u64) := by kernel_rfl
theorem ty_el_uint : elemT env.P 81 = none := by kernel_rfl
theorem ty_c_uint : env.P.cellsOf 81 = 1 := by kernel_rfl
theorem ty_e_uint : elemOk env.P 81 = true := by kernel_rfl
theorem ty_ag_uint : isAggT env.P 81 = some false := by kernel_rfl
theorem ty_z_uint : zeroA env.P 81 = some (.d (.int .u64 0)) := by kernel_rfl
theorem ty_i_uint : (env.P.info? 81).isSome = true := by kernel_rfl
theorem ty_u_ar6_int : env.P.underlying 84 = some (.array 6 3) := by kernel_rfl
theorem ty_el_ar6_int : elemT env.P 84 = none := by kernel_rfl
theorem ty_c_ar6_int : env.P.cellsOf 84 = 6 := by kernel_rfl
theorem ty_e_ar6_int : elemOk env.P 84 = true := by kernel_rfl
theorem ty_ag_ar6_int : isAggT env.P 84 = some true := by kernel_rfl
theorem ty_z_ar6_int : zeroA env.P 84 = some (.agg [.d (.int .i64 0), .d (.int .i64 0), .d (.int .i64 0), .d (.int .i64 0), .d (.int .i64 0), .d (.int .i64 0)]) := by kernel_rfl
theorem ty_i_ar6_int : (env.P.info? 84).isSome = true := by kernel_rfl
theorem ty_u_ar16_ar6_int : env.P.underlying 85 = some (.array 16 84) := by kernel_rfl
theorem ty_el_ar16_ar6_int : elemT env.P 85 = none := by kernel_rfl
theorem ty_c_ar16_ar6_int : env.P.cellsOf 85 = 96 := by kernel_rfl
theorem ty_e_ar16_ar6_int : elemOk env.P 85 = true := by kernel_rfl
theorem ty_ag_ar16_ar6_int : isAggT env.P 85 = some true := by kernel_rfl
theorem ty_z_ar16_ar6_int : zeroA env.P 85 = some (.agg (List.replicate 96 (.d (.int .i64 0)))) := by kernel_rfl
theorem ty_i_ar16_ar6_int : (env.P.info? 85).isSome = true := by kernel_rfl
theorem ty_u_impl_moves : env.P.underlying 86 = some (.array 16 84) := by kernel_rfl
theorem ty_el_impl_moves : elemT env.P 86 = none := by kernel_rfl
theorem ty_c_impl_moves : env.P.cellsOf 86 = 96 := by kernel_rfl
theorem ty_e_impl_moves : elemOk env.P 86 = true := by kernel_rfl
theorem ty_ag_impl_moves : isAggT env.P 86 = some true := by kernel_rfl
theorem ty_z_impl_moves : zeroA env.P 86 = some (.agg (List.replicate 96 (.d (.int .i64 0)))) := by kernel_rfl
theorem ty_i_impl_moves : (env.P.info? 86).isSome = true := by kernel_rfl
theorem ty_u_sl_string : env.P.underlying 94 = some (.slice 9) := by kernel_rfl
theorem ty_el_sl_string : elemT env.P 94 = some 9 := by simp only [elemT, ty_u_sl_string]
theorem ty_c_sl_string : env.P.cellsOf 94 = 1 := by kernel_rfl
theorem ty_e_sl_string : elemOk env.P 94 = true := by kernel_rfl
theorem ty_ag_sl_string : isAggT env.P 94 = some false := by kernel_rfl
theorem ty_z_sl_string : zeroA env.P 94 = some (.d (.nils)) := by kernel_rfl
theorem ty_i_sl_string : (env.P.info? 94).isSome = true := by kernel_rfl
theorem ty_u_slices_sortedHint : env.P.underlying 98 = some (.int .i64) := by kernel_rfl
theorem ty_el_slices_sortedHint : elemT env.P 98 = none := by kernel_rfl
theorem ty_c_slices_sortedHint : env.P.cellsOf 98 = 1 := by kernel_rfl
theorem ty_e_slices_sortedHint : elemOk env.P 98 = true := by kernel_rfl
theorem ty_ag_slices_sortedHint : isAggT env.P 98 = some false := by kernel_rfl
theorem ty_z_slices_sortedHint : zeroA env.P 98 = some (.d (.int .i64 0)) := by kernel_rfl
theorem ty_i_slices_sortedHint : (env.P.info? 98).isSome = true := by kernel_rfl
theorem ty_u_uint32 : env.P.underlying 105 = some (.int .u32) := by kernel_rfl
theorem ty_el_uint32 : elemT env.P 105 = none := by kernel_rfl
theorem ty_c_uint32 : env.P.cellsOf 105 = 1 := by kernel_rfl
theorem ty_e_uint32 : elemOk env.P 105 = true := by kernel_rfl
theorem ty_ag_uint32 : isAggT env.P 105 = some false := by kernel_rfl
theorem ty_z_uint32 : zeroA env.P 105 = some (.d (.int .u32 0)) := by kernel_rfl
theorem ty_i_uint32 : (env.P.info? 105).isSome = true := by kernel_rfl
theorem ty_u_uint64 : env.P.underlying 107 = some (.int .u64) := by kernel_rfl
theorem ty_el_uint64 : elemT env.P 107 = none := by kernel_rfl
theorem ty_c_uint64 : env.P.cellsOf 107 = 1 := by kernel_rfl
theorem ty_e_uint64 : elemOk env.P 107 = true := by kernel_rfl
theorem ty_ag_uint64 : isAggT env.P 107 = some false := by kernel_rfl
theorem ty_z_uint64 : zeroA env.P 107 = some (.d (.int .u64 0)) := by kernel_rfl
theorem ty_i_uint64 : (env.P.info? 107).isSome = true := by kernel_rfl
theorem ty_u_sl_bool : env.P.underlying 108 = some (.slice 4) := by kernel_rfl
theorem ty_el_sl_bool : elemT env.P 108 = some 4 := by simp only [elemT, ty_u_sl_bool]
theorem ty_c_sl_bool : env.P.cellsOf 108 = 1 := by kernel_rfl
theorem ty_e_sl_bool : elemOk env.P 108 = true := by kernel_rfl
theorem ty_ag_sl_bool : isAggT env.P 108 = some false := by kernel_rfl
theorem ty_z_sl_bool : zeroA env.P 108 = some (.d (.nils)) := by kernel_rfl
theorem ty_i_sl_bool : (env.P.info? 108).isSome = true := by kernel_rfl
theorem ty_u_sl_impl_searchStep : env.P.underlying 109 = some (.slice 111) := by kernel_rfl
theorem ty_el_sl_impl_searchStep : elemT env.P 109 = some 111 := by simp only [elemT, ty_u_sl_impl_searchStep]
theorem ty_c_sl_impl_searchStep : env.P.cellsOf 109 = 1 := by kernel_rfl
theorem ty_e_sl_impl_searchStep : elemOk env.P 109 = true := by kernel_rfl
theorem ty_ag_sl_impl_searchStep : isAggT env.P 109 = some false := by kernel_rfl
theorem ty_z_sl_impl_searchStep : zeroA env.P 109 = some (.d (.nils)) := by kernel_rfl
theorem ty_i_sl_impl_searchStep : (env.P.info? 109).isSome = true := by kernel_rfl
theorem ty_st_struct_parent_int_letter_int_nodes_sl_int : structOK env.P 110 = true := by kernel_rfl
theorem ty_fo_struct_parent_int_letter_int_nodes_sl_int_0 : fieldOff env.P 110 0 = some (0, 3) := by kernel_rfl
theorem ty_oo_struct_parent_int_letter_int_nodes_sl_int_0 : offOf env.P 110 0 = some (0, 1) := by kernel_rfl
theorem ty_fo_struct_parent_int_letter_int_nodes_sl_int_1 : fieldOff env.P 110 1 = some (1, 3) := by kernel_rfl
theorem ty_oo_struct_parent_int_letter_int_nodes_sl_int_1 : offOf env.P 110 1 = some (1, 1) := by kernel_rfl
theorem ty_fo_struct_parent_int_letter_int_nodes_sl_int_2 : fieldOff env.P 110 2 = some (2, 52) := by kernel_rfl
theorem ty_oo_struct_parent_int_letter_int_nodes_sl_int_2 : offOf env.P 110 2 = some (2, 1) := by kernel_rfl
theorem ty_el_struct_parent_int_letter_int_nodes_sl_int : elemT env.P 110 = none := by kernel_rfl
theorem ty_c_struct_parent_int_letter_int_nodes_sl_int : env.P.cellsOf 110 = 3 := by kernel_rfl
theorem ty_e_struct_parent_int_letter_int_nodes_sl_int : elemOk env.P 110 = true := by kernel_rfl
theorem ty_ag_struct_parent_int_letter_int_nodes_sl_int : isAggT env.P 110 = some true := by kernel_rfl
theorem ty_z_struct_parent_int_letter_int_nodes_sl_int : zeroA env.P 110 = some (.agg [.d (.int .i64 0), .d (.int .i64 0), .d (.nils)]) := by kernel_rfl
theorem ty_i_struct_parent_int_letter_int_nodes_sl_int : (env.P.info? 110).isSome = true := by kernel_rfl
theorem ty_st_impl_searchStep : structOK env.P 111 = true := by kernel_rfl
theorem ty_fo_impl_searchStep_0 : fieldOff env.P 111 0 = some (0, 3) := by kernel_rfl
theorem ty_oo_impl_searchStep_0 : offOf env.P 111 0 = some (0, 1) := by kernel_rfl
theorem ty_fo_impl_searchStep_1 : fieldOff env.P 111 1 = some (1, 3) := by kernel_rfl
theorem ty_oo_impl_searchStep_1 : offOf env.P 111 1 = some (1, 1) := by kernel_rfl
theorem ty_fo_impl_searchStep_2 : fieldOff env.P 111 2 = some (2, 52) := by kernel_rfl
theorem ty_oo_impl_searchStep_2 : offOf env.P 111 2 = some (2, 1) := by kernel_rfl
theorem ty_el_impl_searchStep : elemT env.P 111 = none := by kernel_rfl
theorem ty_c_impl_searchStep : env.P.cellsOf 111 = 3 := by kernel_rfl
theorem ty_e_impl_searchStep : elemOk env.P 111 = true := by kernel_rfl
theorem ty_ag_impl_searchStep : isAggT env.P 111 = some true := by kernel_rfl
theorem ty_z_impl_searchStep : zeroA env.P 111 = some (.agg [.d (.int .i64 0), .d (.int .i64 0), .d (.nils)]) := by kernel_rfl
theorem ty_i_impl_searchStep : (env.P.info? 111).isSome = true := by kernel_rfl
theorem ty_u_slices_xorshift : env.P.underlying 119 = some (.int .u64) := by kernel_rfl
theorem ty_el_slices_xorshift : elemT env.P 119 = none := by kernel_rfl
theorem ty_c_slices_xorshift : env.P.cellsOf 119 = 1 := by kernel_rfl
theorem ty_e_slices_xorshift : elemOk env.P 119 = true := by kernel_rfl
theorem ty_ag_slices_xorshift : isAggT env.P 119 = some false := by kernel_rfl
theorem ty_z_slices_xorshift : zeroA env.P 119 = some (.d (.int .u64 0)) := by kernel_rfl
theorem ty_i_slices_xorshift : (env.P.info? 119).isSome = true := by kernel_rfl
theorem ty_u_ptr_int : env.P.underlying 123 = some (.pointer 3) := by kernel_rfl
theorem ty_el_ptr_int : elemT env.P 123 = none := by kernel_rfl
theorem ty_c_ptr_int : env.P.cellsOf 123 = 1 := by kernel_rfl
theorem ty_e_ptr_int : elemOk env.P 123 = true := by kernel_rfl
theorem ty_ag_ptr_int : isAggT env.P 123 = some false := by kernel_rfl
theorem ty_z_ptr_int : zeroA env.P 123 = some (.d (.nilp)) := by kernel_rfl
theorem ty_i_ptr_int : (env.P.info? 123).isSome = true := by kernel_rfl
theorem ty_u_ar32_uint8 : env.P.underlying 125 = some (.array 32 5) := by kernel_rfl
theorem ty_el_ar32_uint8 : elemT env.P 125 = none := by kernel_rfl
theorem ty_c_ar32_uint8 : env.P.cellsOf 125 = 32 := by kernel_rfl
theorem ty_e_ar32_uint8 : elemOk env.P 125 = true := by kernel_rfl
theorem ty_ag_ar32_uint8 : isAggT env.P 125 = some true := by kernel_rfl
theorem ty_z_ar32_uint8 : zeroA env.P 125 = some (.agg (List.replicate 32 (.d (.int .u8 0)))) := by kernel_rfl
theorem ty_i_ar32_uint8 : (env.P.info? 125).isSome = true := by kernel_rfl
theorem ty_u_ar64_uint8 : env.P.underlying 126 = some (.array 64 5) := by kernel_rfl
theorem ty_el_ar64_uint8 : elemT env.P 126 = none := by kernel_rfl
theorem ty_c_ar64_uint8 : env.P.cellsOf 126 = 64 := by kernel_rfl
theorem ty_e_ar64_uint8 : elemOk env.P 126 = true := by kernel_rfl
theorem ty_ag_ar64_uint8 : isAggT env.P 126 = some true := by kernel_rfl
theorem ty_z_ar64_uint8 : zeroA env.P 126 = some (.agg (List.replicate 64 (.d (.int .u8 0)))) := by kernel_rfl
theorem ty_i_ar64_uint8 : (env.P.info? 126).isSome = true := by kernel_rfl
theorem ty_u_ptr_slices_xorshift : env.P.underlying 129 = some (.pointer 119) := by kernel_rfl
theorem ty_el_ptr_slices_xorshift : elemT env.P 129 = none := by kernel_rfl
theorem ty_c_ptr_slices_xorshift : env.P.cellsOf 129 = 1 := by kernel_rfl
theorem ty_e_ptr_slices_xorshift : elemOk env.P 129 = true := by kernel_rfl
theorem ty_ag_ptr_slices_xorshift : isAggT env.P 129 = some false := by kernel_rfl
theorem ty_z_ptr_slices_xorshift : zeroA env.P 129 = some (.d (.nilp)) := by kernel_rfl
theorem ty_i_ptr_slices_xorshift : (env.P.info? 129).isSome = true := by kernel_rfl
theorem ty_u_ptr_uint8 : env.P.underlying 141 = some (.pointer 5) := by kernel_rfl
theorem ty_el_ptr_uint8 : elemT env.P 141 = none := by kernel_rfl
theorem ty_c_ptr_uint8 : env.P.cellsOf 141 = 1 := by kernel_rfl
theorem ty_e_ptr_uint8 : elemOk env.P 141 = true := by kernel_rfl
theorem ty_ag_ptr_uint8 : isAggT env.P 141 = some false := by kernel_rfl
theorem ty_z_ptr_uint8 : zeroA env.P 141 = some (.d (.nilp)) := by kernel_rfl
theorem ty_i_ptr_uint8 : (env.P.info? 141).isSome = true := by kernel_rfl
theorem ty_el_unsafe_Pointer : elemT env.P 146 = none := by kernel_rfl
theorem ty_c_unsafe_Pointer : env.P.cellsOf 146 = 1 := by kernel_rfl
theorem ty_e_unsafe_Pointer : elemOk env.P 146 = true := by kernel_rfl
theorem ty_ag_unsafe_Pointer : isAggT env.P 146 = some false := by kernel_rfl
theorem ty_z_unsafe_Pointer : zeroA env.P 146 = some (.d (.nilp)) := by kernel_rfl
theorem ty_i_unsafe_Pointer : (env.P.info? 146).isSome = true := by kernel_rfl
theorem ty_bl_struct_msg_string_addr_uintptr : ∀ parts, aBuild env.P 13 parts = (fillA (cellsA (.agg [.d (.str []), .d (.int .u64 0)])) (parts.map fun p => (offOf env.P 13 p.1, p.2))).map .agg := fun _ => aBuild_struct ty_st_struct_msg_string_addr_uintptr ty_z_struct_msg_string_addr_uintptr
theorem ty_bl_struct_Alphabet_int_States_int_Edges_sl_impl_Edge : ∀ parts, aBuild env.P 24 parts = (fillA (cellsA (.agg [.d (.int .i64 0), .d (.int .i64 0), .d (.nils)])) (parts.map fun p => (offOf env.P 24 p.1, p.2))).map .agg := fun _ => aBuild_struct ty_st_struct_Alphabet_int_States_int_Edges_sl_impl_Edge ty_z_struct_Alphabet_int_States_int_Edges_sl_impl_Edge
theorem ty_bl_impl_System : ∀ parts, aBuild env.P 25 parts = (fillA (cellsA (.agg [.d (.int .i64 0), .d (.int .i64 0), .d (.nils)])) (parts.map fun p => (offOf env.P 25 p.1, p.2))).map .agg := fun _ => aBuild_struct ty_st_impl_System ty_z_impl_System
theorem ty_bl_struct_From_int_Letter_int_To_int : ∀ parts, aBuild env.P 37 parts = (fillA (cellsA (.agg [.d (.int .i64 0), .d (.int .i64 0), .d (.int .i64 0)])) (parts.map fun p => (offOf env.P 37 p.1, p.2))).map .agg := fun _ => aBuild_struct ty_st_struct_From_int_Letter_int_To_int ty_z_struct_From_int_Letter_int_To_int
theorem ty_bl_impl_Edge : ∀ parts, aBuild env.P 38 parts = (fillA (cellsA (.agg [.d (.int .i64 0), .d (.int .i64 0), .d (.int .i64 0)])) (parts.map fun p => (offOf env.P 38 p.1, p.2))).map .agg := fun _ => aBuild_struct ty_st_impl_Edge ty_z_impl_Edge
theorem ty_bl_struct_b_sl_uint8_p_int : ∀ parts, aBuild env.P 74 parts = (fillA (cellsA (.agg [.d (.nils), .d (.int .i64 0)])) (parts.map fun p => (offOf env.P 74 p.1, p.2))).map .agg := fun _ => aBuild_struct ty_st_struct_b_sl_uint8_p_int ty_z_struct_b_sl_uint8_p_int
theorem ty_bl_spec_l19Rd : ∀ parts, aBuild env.P 75 parts = (fillA (cellsA (.agg [.d (.nils), .d (.int .i64 0)])) (parts.map fun p => (offOf env.P 75 p.1, p.2))).map .agg := fun _ => aBuild_struct ty_st_spec_l19Rd ty_z_spec_l19Rd
theorem ty_bl_ar6_int : ∀ parts, aBuild env.P 84 parts = (fillA (cellsA (.agg [.d (.int .i64 0), .d (.int .i64 0), .d (.int .i64 0), .d (.int .i64 0), .d (.int .i64 0), .d (.int .i64 0)])) (parts.map fun p => (some (p.1 * 1, 1), p.2))).map .agg := fun _ => aBuild_array ty_u_ar6_int ty_z_ar6_int ty_i_int ty_c_int
theorem ty_bl_ar16_ar6_int : ∀ parts, aBuild env.P 85 parts = (fillA (cellsA (.agg (List.replicate 96 (.d (.int .i64 0))))) (parts.map fun p => (some (p.1 * 6, 6), p.2))).map .agg := fun _ => aBuild_array ty_u_ar16_ar6_int ty_z_ar16_ar6_int ty_i_ar6_int ty_c_ar6_int
theorem ty_bl_impl_moves : ∀ parts, aBuild env.P 86 parts = (fillA (cellsA (.agg (List.replicate 96 (.d (.int .i64 0))))) (parts.map fun p => (some (p.1 * 6, 6), p.2))).map .agg := fun _ => aBuild_array ty_u_impl_moves ty_z_impl_moves ty_i_ar6_int ty_c_ar6_int
theorem ty_bl_struct_parent_int_letter_int_nodes_sl_int : ∀ parts, aBuild env.P 110 parts = (fillA (cellsA (.agg [.d (.int .i64 0), .d (.int .i64 0), .d (.nils)])) (parts.map fun p => (offOf env.P 110 p.1, p.2))).map .agg := fun _ => aBuild_struct ty_st_struct_parent_int_letter_int_nodes_sl_int ty_z_struct_parent_int_letter_int_nodes_sl_int
theorem ty_bl_impl_searchStep : ∀ parts, aBuild env.P 111 parts = (fillA (cellsA (.agg [.d (.int .i64 0), .d (.int .i64 0), .d (.nils)])) (parts.map fun p => (offOf env.P 111 p.1, p.2))).map .agg := fun _ => aBuild_struct ty_st_impl_searchStep ty_z_impl_searchStep
theorem ty_bl_ar32_uint8 : ∀ parts, aBuild env.P 125 parts = (fillA (cellsA (.agg (List.replicate 32 (.d (.int .u8 0))))) (parts.map fun p => (some (p.1 * 1, 1), p.2))).map .agg := fun _ => aBuild_array ty_u_ar32_uint8 ty_z_ar32_uint8 ty_i_uint8 ty_c_uint8
theorem ty_bl_ar64_uint8 : ∀ parts, aBuild env.P 126 parts = (fillA (cellsA (.agg (List.replicate 64 (.d (.int .u8 0))))) (parts.map fun p => (some (p.1 * 1, 1), p.2))).map .agg := fun _ => aBuild_array ty_u_ar64_uint8 ty_z_ar64_uint8 ty_i_uint8 ty_c_uint8
theorem ty_cv_int_int {h : H} {n : Int} {K : IntKind} : aConvert env.P h 3 3 (.d (.int K n)) = some (.d (.int .i64 (IntKind.wrap .i64 n)), h) := aConv_int ty_u_int ty_u_int
theorem ty_cv_int_uint8 {h : H} {n : Int} {K : IntKind} : aConvert env.P h 3 5 (.d (.int K n)) = some (.d (.int .u8 (IntKind.wrap .u8 n)), h) := aConv_int ty_u_int ty_u_uint8
theorem ty_cv_int_uint {h : H} {n : Int} {K : IntKind} : aConvert env.P h 3 81 (.d (.int K n)) = some (.d (.int .u64 (IntKind.wrap .u64 n)), h) := aConv_int ty_u_int ty_u_uint
theorem ty_cv_uint8_int {h : H} {n : Int} {K : IntKind} : aConvert env.P h 5 3 (.d (.int K n)) = some (.d (.int .i64 (IntKind.wrap .i64 n)), h) := aConv_int ty_u_uint8 ty_u_int
theorem ty_cv_uint8_uint8 {h : H} {n : Int} {K : IntKind} : aConvert env.P h 5 5 (.d (.int K n)) = some (.d (.int .u8 (IntKind.wrap .u8 n)), h) := aConv_int ty_u_uint8 ty_u_uint8
theorem ty_cv_uint8_uint {h : H} {n : Int} {K : IntKind} : aConvert env.P h 5 81 (.d (.int K n)) = some (.d (.int .u64 (IntKind.wrap .u64 n)), h) := aConv_int ty_u_uint8 ty_u_uint
theorem ty_cv_uint_int {h : H} {n : Int} {K : IntKind} : aConvert env.P h 81 3 (.d (.int K n)) = some (.d (.int .i64 (IntKind.wrap .i64 n)), h) := aConv_int ty_u_uint ty_u_int
theorem ty_cv_uint_uint8 {h : H} {n : Int} {K : IntKind} : aConvert env.P h 81 5 (.d (.int K n)) = some (.d (.int .u8 (IntKind.wrap .u8 n)), h) := aConv_int ty_u_uint ty_u_uint8
theorem ty_cv_uint_uint {h : H} {n : Int} {K : IntKind} : aConvert env.P h 81 81 (.d (.int K n)) = some (.d (.int .u64 (IntKind.wrap .u64 n)), h) := aConv_int ty_u_uint ty_u_uint
theorem TY0 : type_of% (And.intro @ty_u_int64 (And.intro @ty_el_int64 (And.intro @ty_c_int64 (And.intro @ty_e_int64 (And.intro @ty_ag_int64 (And.intro @ty_z_int64 (And.intro @ty_i_int64 (And.intro @ty_u_int (And.intro @ty_el_int (And.intro @ty_c_int (And.intro @ty_e_int (And.intro @ty_ag_int (And.intro @ty_z_int (And.intro @ty_i_int (And.intro @ty_u_bool (And.intro @ty_el_bool (And.intro @ty_c_bool (And.intro @ty_e_bool (And.intro @ty_ag_bool (And.intro @ty_z_bool (And.intro @ty_i_bool (And.intro @ty_u_uint8 (And.intro @ty_el_uint8 (And.intro @ty_c_uint8 (And.intro @ty_e_uint8 (And.intro @ty_ag_uint8 (And.intro @ty_z_uint8 (And.intro @ty_i_uint8 (And.intro @ty_u_string (And.intro @ty_el_string (And.intro @ty_c_string (And.intro @ty_e_string (And.intro @ty_ag_string (And.intro @ty_z_string (And.intro @ty_i_string (And.intro @ty_u_uintptr (And.intro @ty_el_uintptr (And.intro @ty_c_uintptr (And.intro @ty_e_uintptr @ty_ag_uintptr))))))))))))))))))))))))))))))))))))))) := (And.intro @ty_u_int64 (And.intro @ty_el_int64 (And.intro @ty_c_int64 (And.intro @ty_e_int64 (And.intro @ty_ag_int64 (And.intro @ty_z_int64 (And.intro @ty_i_int64 (And.intro @ty_u_int (And.intro @ty_el_int (And.intro @ty_c_int (And.intro @ty_e_int (And.intro @ty_ag_int (And.intro @ty_z_int (And.intro @ty_i_int (And.intro @ty_u_bool (And.intro @ty_el_bool (And.intro @ty_c_bool (And.intro @ty_e_bool (And.intro @ty_ag_bool (And.intro @ty_z_bool (And.intro @ty_i_bool (And.intro @ty_u_uint8 (And.intro @ty_el_uint8 (And.intro @ty_c_uint8 (And.intro @ty_e_uint8 (And.intro @ty_ag_uint8 (And.intro @ty_z_uint8 (And.intro @ty_i_uint8 (And.intro @ty_u_string (And.intro @ty_el_string (And.intro @ty_c_string (And.intro @ty_e_string (And.intro @ty_ag_string (And.intro @ty_z_string (And.intro @ty_i_string (And.intro @ty_u_uintptr (And.intro @ty_el_uintptr (And.intro @ty_c_uintptr (And.intro @ty_e_uintptr @ty_ag_uintptr)))))))))))))))))))))))))))))))))))))))
theorem TY1 : type_of% (And.intro @ty_z_uintptr (And.intro @ty_i_uintptr (And.intro @ty_st_struct_msg_string_addr_uintptr (And.intro @ty_fo_struct_msg_string_addr_uintptr_0 (And.intro @ty_oo_struct_msg_string_addr_uintptr_0 (And.intro @ty_fo_struct_msg_string_addr_uintptr_1 (And.intro @ty_oo_struct_msg_string_addr_uintptr_1 (And.intro @ty_el_struct_msg_string_addr_uintptr (And.intro @ty_c_struct_msg_string_addr_uintptr (And.intro @ty_e_struct_msg_string_addr_uintptr (And.intro @ty_ag_struct_msg_string_addr_uintptr (And.intro @ty_z_struct_msg_string_addr_uintptr (And.intro @ty_bl_struct_msg_string_addr_uintptr (And.intro @ty_i_struct_msg_string_addr_uintptr (And.intro @ty_el_interface (And.intro @ty_c_interface (And.intro @ty_e_interface (And.intro @ty_ag_interface (And.intro @ty_z_interface (And.intro @ty_i_interface (And.intro @ty_u_int32 (And.intro @ty_el_int32 (And.intro @ty_c_int32 (And.intro @ty_e_int32 (And.intro @ty_ag_int32 (And.intro @ty_z_int32 (And.intro @ty_i_int32 (And.intro @ty_u_sl_uint8 (And.intro @ty_el_sl_uint8 (And.intro @ty_c_sl_uint8 (And.intro @ty_e_sl_uint8 (And.intro @ty_ag_sl_uint8 (And.intro @ty_z_sl_uint8 (And.intro @ty_i_sl_uint8 (And.intro @ty_u_sl_impl_Edge (And.intro @ty_el_sl_impl_Edge (And.intro @ty_c_sl_impl_Edge (And.intro @ty_e_sl_impl_Edge (And.intro @ty_ag_sl_impl_Edge @ty_z_sl_impl_Edge))))))))))))))))))))))))))))))))))))))) := (And.intro @ty_z_uintptr (And.intro @ty_i_uintptr (And.intro @ty_st_struct_msg_string_addr_uintptr (And.intro @ty_fo_struct_msg_string_addr_uintptr_0 (And.intro @ty_oo_struct_msg_string_addr_uintptr_0 (And.intro @ty_fo_struct_msg_string_addr_uintptr_1 (And.intro @ty_oo_struct_msg_string_addr_uintptr_1 (And.intro @ty_el_struct_msg_string_addr_uintptr (And.intro @ty_c_struct_msg_string_addr_uintptr (And.intro @ty_e_struct_msg_string_addr_uintptr (And.intro @ty_ag_struct_msg_string_addr_uintptr (And.intro @ty_z_struct_msg_string_addr_uintptr (And.intro @ty_bl_struct_msg_string_addr_uintptr (And.intro @ty_i_struct_msg_string_addr_uintptr (And.intro @ty_el_interface (And.intro @ty_c_interface (And.intro @ty_e_interface (And.intro @ty_ag_interface (And.intro @ty_z_interface (And.intro @ty_i_interface (And.intro @ty_u_int32 (And.intro @ty_el_int32 (And.intro @ty_c_int32 (And.intro @ty_e_int32 (And.intro @ty_ag_int32 (And.intro @ty_z_int32 (And.intro @ty_i_int32 (And.intro @ty_u_sl_uint8 (And.intro @ty_el_sl_uint8 (And.intro @ty_c_sl_uint8 (And.intro @ty_e_sl_uint8 (And.intro @ty_ag_sl_uint8 (And.intro @ty_z_sl_uint8 (And.intro @ty_i_sl_uint8 (And.intro @ty_u_sl_impl_Edge (And.intro @ty_el_sl_impl_Edge (And.intro @ty_c_sl_impl_Edge (And.intro @ty_e_sl_impl_Edge (And.intro @ty_ag_sl_impl_Edge @ty_z_sl_impl_Edge)))))))))))))))))))))))))))))))))))))))
theorem TY2 : type_of% (And.intro @ty_i_sl_impl_Edge (And.intro @ty_st_struct_Alphabet_int_States_int_Edges_sl_impl_Edge (And.intro @ty_fo_struct_Alphabet_int_States_int_Edges_sl_impl_Edge_0 (And.intro @ty_oo_struct_Alphabet_int_States_int_Edges_sl_impl_Edge_0 (And.intro @ty_fo_struct_Alphabet_int_States_int_Edges_sl_impl_Edge_1 (And.intro @ty_oo_struct_Alphabet_int_States_int_Edges_sl_impl_Edge_1 (And.intro @ty_fo_struct_Alphabet_int_States_int_Edges_sl_impl_Edge_2 (And.intro @ty_oo_struct_Alphabet_int_States_int_Edges_sl_impl_Edge_2 (And.intro @ty_el_struct_Alphabet_int_States_int_Edges_sl_impl_Edge (And.intro @ty_c_struct_Alphabet_int_States_int_Edges_sl_impl_Edge (And.intro @ty_e_struct_Alphabet_int_States_int_Edges_sl_impl_Edge (And.intro @ty_ag_struct_Alphabet_int_States_int_Edges_sl_impl_Edge (And.intro @ty_z_struct_Alphabet_int_States_int_Edges_sl_impl_Edge (And.intro @ty_bl_struct_Alphabet_int_States_int_Edges_sl_impl_Edge (And.intro @ty_i_struct_Alphabet_int_States_int_Edges_sl_impl_Edge (And.intro @ty_st_impl_System (And.intro @ty_fo_impl_System_0 (And.intro @ty_oo_impl_System_0 (And.intro @ty_fo_impl_System_1 (And.intro @ty_oo_impl_System_1 (And.intro @ty_fo_impl_System_2 (And.intro @ty_oo_impl_System_2 (And.intro @ty_el_impl_System (And.intro @ty_c_impl_System (And.intro @ty_e_impl_System (And.intro @ty_ag_impl_System (And.intro @ty_z_impl_System (And.intro @ty_bl_impl_System (And.intro @ty_i_impl_System (And.intro @ty_st_struct_From_int_Letter_int_To_int (And.intro @ty_fo_struct_From_int_Letter_int_To_int_0 (And.intro @ty_oo_struct_From_int_Letter_int_To_int_0 (And.intro @ty_fo_struct_From_int_Letter_int_To_int_1 (And.intro @ty_oo_struct_From_int_Letter_int_To_int_1 (And.intro @ty_fo_struct_From_int_Letter_int_To_int_2 (And.intro @ty_oo_struct_From_int_Letter_int_To_int_2 (And.intro @ty_el_struct_From_int_Letter_int_To_int (And.intro @ty_c_struct_From_int_Letter_int_To_int (And.intro @ty_e_struct_From_int_Letter_int_To_int @ty_ag_struct_From_int_Letter_int_To_int))))))))))))))))))))))))))))))))))))))) := (And.intro @ty_i_sl_impl_Edge (And.intro @ty_st_struct_Alphabet_int_States_int_Edges_sl_impl_Edge (And.intro @ty_fo_struct_Alphabet_int_States_int_Edges_sl_impl_Edge_0 (And.intro @ty_oo_struct_Alphabet_int_States_int_Edges_sl_impl_Edge_0 (And.intro @ty_fo_struct_Alphabet_int_States_int_Edges_sl_impl_Edge_1 (And.intro @ty_oo_struct_Alphabet_int_States_int_Edges_sl_impl_Edge_1 (And.intro @ty_fo_struct_Alphabet_int_States_int_Edges_sl_impl_Edge_2 (And.intro @ty_oo_struct_Alphabet_int_States_int_Edges_sl_impl_Edge_2 (And.intro @ty_el_struct_Alphabet_int_States_int_Edges_sl_impl_Edge (And.intro @ty_c_struct_Alphabet_int_States_int_Edges_sl_impl_Edge (And.intro @ty_e_struct_Alphabet_int_States_int_Edges_sl_impl_Edge (And.intro @ty_ag_struct_Alphabet_int_States_int_Edges_sl_impl_Edge (And.intro @ty_z_struct_Alphabet_int_States_int_Edges_sl_impl_Edge (And.intro @ty_bl_struct_Alphabet_int_States_int_Edges_sl_impl_Edge (And.intro @ty_i_struct_Alphabet_int_States_int_Edges_sl_impl_Edge (And.intro @ty_st_impl_System (And.intro @ty_fo_impl_System_0 (And.intro @ty_oo_impl_System_0 (And.intro @ty_fo_impl_System_1 (And.intro @ty_oo_impl_System_1 (And.intro @ty_fo_impl_System_2 (And.intro @ty_oo_impl_System_2 (And.intro @ty_el_impl_System (And.intro @ty_c_impl_System (And.intro @ty_e_impl_System (And.intro @ty_ag_impl_System (And.intro @ty_z_impl_System (And.intro @ty_bl_impl_System (And.intro @ty_i_impl_System (And.intro @ty_st_struct_From_int_Letter_int_To_int (And.intro @ty_fo_struct_From_int_Letter_int_To_int_0 (And.intro @ty_oo_struct_From_int_Letter_int_To_int_0 (And.intro @ty_fo_struct_From_int_Letter_int_To_int_1 (And.intro @ty_oo_struct_From_int_Letter_int_To_int_1 (And.intro @ty_fo_struct_From_int_Letter_int_To_int_2 (And.intro @ty_oo_struct_From_int_Letter_int_To_int_2 (And.intro @ty_el_struct_From_int_Letter_int_To_int (And.intro @ty_c_struct_From_int_Letter_int_To_int (And.intro @ty_e_struct_From_int_Letter_int_To_int @ty_ag_struct_From_int_Letter_int_To_int)))))))))))))))))))))))))))))))))))))))
theorem TY3 : type_of% (And.intro @ty_z_struct_From_int_Letter_int_To_int (And.intro @ty_bl_struct_From_int_Letter_int_To_int (And.intro @ty_i_struct_From_int_Letter_int_To_int (And.intro @ty_st_impl_Edge (And.intro @ty_fo_impl_Edge_0 (And.intro @ty_oo_impl_Edge_0 (And.intro @ty_fo_impl_Edge_1 (And.intro @ty_oo_impl_Edge_1 (And.intro @ty_fo_impl_Edge_2 (And.intro @ty_oo_impl_Edge_2 (And.intro @ty_el_impl_Edge (And.intro @ty_c_impl_Edge (And.intro @ty_e_impl_Edge (And.intro @ty_ag_impl_Edge (And.intro @ty_z_impl_Edge (And.intro @ty_bl_impl_Edge (And.intro @ty_i_impl_Edge (And.intro @ty_u_ptr_spec_l19Rd (And.intro @ty_el_ptr_spec_l19Rd (And.intro @ty_c_ptr_spec_l19Rd (And.intro @ty_e_ptr_spec_l19Rd (And.intro @ty_ag_ptr_spec_l19Rd (And.intro @ty_z_ptr_spec_l19Rd (And.intro @ty_i_ptr_spec_l19Rd (And.intro @ty_u_sl_int (And.intro @ty_el_sl_int (And.intro @ty_c_sl_int (And.intro @ty_e_sl_int (And.intro @ty_ag_sl_int (And.intro @ty_z_sl_int (And.intro @ty_i_sl_int (And.intro @ty_u_ptr_impl_moves (And.intro @ty_el_ptr_impl_moves (And.intro @ty_c_ptr_impl_moves (And.intro @ty_e_ptr_impl_moves (And.intro @ty_ag_ptr_impl_moves (And.intro @ty_z_ptr_impl_moves (And.intro @ty_i_ptr_impl_moves (And.intro @ty_st_struct_b_sl_uint8_p_int @ty_fo_struct_b_sl_uint8_p_int_0))))))))))))))))))))))))))))))))))))))) := (And.intro @ty_z_struct_From_int_Letter_int_To_int (And.intro @ty_bl_struct_From_int_Letter_int_To_int (And.intro @ty_i_struct_From_int_Letter_int_To_int (And.intro @ty_st_impl_Edge (And.intro @ty_fo_impl_Edge_0 (And.intro @ty_oo_impl_Edge_0 (And.intro @ty_fo_impl_Edge_1 (And.intro @ty_oo_impl_Edge_1 (And.intro @ty_fo_impl_Edge_2 (And.intro @ty_oo_impl_Edge_2 (And.intro @ty_el_impl_Edge (And.intro @ty_c_impl_Edge (And.intro @ty_e_impl_Edge (And.intro @ty_ag_impl_Edge (And.intro @ty_z_impl_Edge (And.intro @ty_bl_impl_Edge (And.intro @ty_i_impl_Edge (And.intro @ty_u_ptr_spec_l19Rd (And.intro @ty_el_ptr_spec_l19Rd (And.intro @ty_c_ptr_spec_l19Rd (And.intro @ty_e_ptr_spec_l19Rd (And.intro @ty_ag_ptr_spec_l19Rd (And.intro @ty_z_ptr_spec_l19Rd (And.intro @ty_i_ptr_spec_l19Rd (And.intro @ty_u_sl_int (And.intro @ty_el_sl_int (And.intro @ty_c_sl_int (And.intro @ty_e_sl_int (And.intro @ty_ag_sl_int (And.intro @ty_z_sl_int (And.intro @ty_i_sl_int (And.intro @ty_u_ptr_impl_moves (And.intro @ty_el_ptr_impl_moves (And.intro @ty_c_ptr_impl_moves (And.intro @ty_e_ptr_impl_moves (And.intro @ty_ag_ptr_impl_moves (And.intro @ty_z_ptr_impl_moves (And.intro @ty_i_ptr_impl_moves (And.intro @ty_st_struct_b_sl_uint8_p_int @ty_fo_struct_b_sl_uint8_p_int_0)))))))))))))))))))))))))))))))))))))))
theorem TY4 : type_of% (And.intro @ty_oo_struct_b_sl_uint8_p_int_0 (And.intro @ty_fo_struct_b_sl_uint8_p_int_1 (And.intro @ty_oo_struct_b_sl_uint8_p_int_1 (And.intro @ty_el_struct_b_sl_uint8_p_int (And.intro @ty_c_struct_b_sl_uint8_p_int (And.intro @ty_e_struct_b_sl_uint8_p_int (And.intro @ty_ag_struct_b_sl_uint8_p_int (And.intro @ty_z_struct_b_sl_uint8_p_int (And.intro @ty_bl_struct_b_sl_uint8_p_int (And.intro @ty_i_struct_b_sl_uint8_p_int (And.intro @ty_st_spec_l19Rd (And.intro @ty_fo_spec_l19Rd_0 (And.intro @ty_oo_spec_l19Rd_0 (And.intro @ty_fo_spec_l19Rd_1 (And.intro @ty_oo_spec_l19Rd_1 (And.intro @ty_el_spec_l19Rd (And.intro @ty_c_spec_l19Rd (And.intro @ty_e_spec_l19Rd (And.intro @ty_ag_spec_l19Rd (And.intro @ty_z_spec_l19Rd (And.intro @ty_bl_spec_l19Rd (And.intro @ty_i_spec_l19Rd (And.intro @ty_u_uint (And.intro @ty_el_uint (And.intro @ty_c_uint (And.intro @ty_e_uint (And.intro @ty_ag_uint (And.intro @ty_z_uint (And.intro @ty_i_uint (And.intro @ty_u_ar6_int (And.intro @ty_el_ar6_int (And.intro @ty_c_ar6_int (And.intro @ty_e_ar6_int (And.intro @ty_ag_ar6_int (And.intro @ty_z_ar6_int (And.intro @ty_bl_ar6_int (And.intro @ty_i_ar6_int (And.intro @ty_u_ar16_ar6_int (And.intro @ty_el_ar16_ar6_int @ty_c_ar16_ar6_int))))))))))))))))))))))))))))))))))))))) := (And.intro @ty_oo_struct_b_sl_uint8_p_int_0 (And.intro @ty_fo_struct_b_sl_uint8_p_int_1 (And.intro @ty_oo_struct_b_sl_uint8_p_int_1 (And.intro @ty_el_struct_b_sl_uint8_p_int (And.intro @ty_c_struct_b_sl_uint8_p_int (And.intro @ty_e_struct_b_sl_uint8_p_int (And.intro @ty_ag_struct_b_sl_uint8_p_int (And.intro @ty_z_struct_b_sl_uint8_p_int (And.intro @ty_bl_struct_b_sl_uint8_p_int (And.intro @ty_i_struct_b_sl_uint8_p_int (And.intro @ty_st_spec_l19Rd (And.intro @ty_fo_spec_l19Rd_0 (And.intro @ty_oo_spec_l19Rd_0 (And.intro @ty_fo_spec_l19Rd_1 (And.intro @ty_oo_spec_l19Rd_1 (And.intro @ty_el_spec_l19Rd (And.intro @ty_c_spec_l19Rd (And.intro @ty_e_spec_l19Rd (And.intro @ty_ag_spec_l19Rd (And.intro @ty_z_spec_l19Rd (And.intro @ty_bl_spec_l19Rd (And.intro @ty_i_spec_l19Rd (And.intro @ty_u_uint (And.intro @ty_el_uint (And.intro @ty_c_uint (And.intro @ty_e_uint (And.intro @ty_ag_uint (And.intro @ty_z_uint (And.intro @ty_i_uint (And.intro @ty_u_ar6_int (And.intro @ty_el_ar6_int (And.intro @ty_c_ar6_int (And.intro @ty_e_ar6_int (And.intro @ty_ag_ar6_int (And.intro @ty_z_ar6_int (And.intro @ty_bl_ar6_int (And.intro @ty_i_ar6_int (And.intro @ty_u_ar16_ar6_int (And.intro @ty_el_ar16_ar6_int @ty_c_ar16_ar6_int)))))))))))))))))))))))))))))))))))))))
theorem TY5 : type_of% (And.intro @ty_e_ar16_ar6_int (And.intro @ty_ag_ar16_ar6_int (And.intro @ty_z_ar16_ar6_int (And.intro @ty_bl_ar16_ar6_int (And.intro @ty_i_ar16_ar6_int (And.intro @ty_u_impl_moves (And.intro @ty_el_impl_moves (And.intro @ty_c_impl_moves (And.intro @ty_e_impl_moves (And.intro @ty_ag_impl_moves (And.intro @ty_z_impl_moves (And.intro @ty_bl_impl_moves (And.intro @ty_i_impl_moves (And.intro @ty_u_sl_string (And.intro @ty_el_sl_string (And.intro @ty_c_sl_string (And.intro @ty_e_sl_string (And.intro @ty_ag_sl_string (And.intro @ty_z_sl_string (And.intro @ty_i_sl_string (And.intro @ty_u_slices_sortedHint (And.intro @ty_el_slices_sortedHint (And.intro @ty_c_slices_sortedHint (And.intro @ty_e_slices_sortedHint (And.intro @ty_ag_slices_sortedHint (And.intro @ty_z_slices_sortedHint (And.intro @ty_i_slices_sortedHint (And.intro @ty_u_uint32 (And.intro @ty_el_uint32 (And.intro @ty_c_uint32 (And.intro @ty_e_uint32 (And.intro @ty_ag_uint32 (And.intro @ty_z_uint32 (And.intro @ty_i_uint32 (And.intro @ty_u_uint64 (And.intro @ty_el_uint64 (And.intro @ty_c_uint64 (And.intro @ty_e_uint64 (And.intro @ty_ag_uint64 @ty_z_uint64))))))))))))))))))))))))))))))))))))))) := (And.intro @ty_e_ar16_ar6_int (And.intro @ty_ag_ar16_ar6_int (And.intro @ty_z_ar16_ar6_int (And.intro @ty_bl_ar16_ar6_int (And.intro @ty_i_ar16_ar6_int (And.intro @ty_u_impl_moves (And.intro @ty_el_impl_moves (And.intro @ty_c_impl_moves (And.intro @ty_e_impl_moves (And.intro @ty_ag_impl_moves (And.intro @ty_z_impl_moves (And.intro @ty_bl_impl_moves (And.intro @ty_i_impl_moves (And.intro @ty_u_sl_string (And.intro @ty_el_sl_string (And.intro @ty_c_sl_string (And.intro @ty_e_sl_string (And.intro @ty_ag_sl_string (And.intro @ty_z_sl_string (And.intro @ty_i_sl_string (And.intro @ty_u_slices_sortedHint (And.intro @ty_el_slices_sortedHint (And.intro @ty_c_slices_sortedHint (And.intro @ty_e_slices_sortedHint (And.intro @ty_ag_slices_sortedHint (And.intro @ty_z_slices_sortedHint (And.intro @ty_i_slices_sortedHint (And.intro @ty_u_uint32 (And.intro @ty_el_uint32 (And.intro @ty_c_uint32 (And.intro @ty_e_uint32 (And.intro @ty_ag_uint32 (And.intro @ty_z_uint32 (And.intro @ty_i_uint32 (And.intro @ty_u_uint64 (And.intro @ty_el_uint64 (And.intro @ty_c_uint64 (And.intro @ty_e_uint64 (And.intro @ty_ag_uint64 @ty_z_uint64)))))))))))))))))))))))))))))))))))))))
theorem TY6 : type_of% (And.intro @ty_i_uint64 (And.intro @ty_u_sl_bool (And.intro @ty_el_sl_bool (And.intro @ty_c_sl_bool (And.intro @ty_e_sl_bool (And.intro @ty_ag_sl_bool (And.intro @ty_z_sl_bool (And.intro @ty_i_sl_bool (And.intro @ty_u_sl_impl_searchStep (And.intro @ty_el_sl_impl_searchStep (And.intro @ty_c_sl_impl_searchStep (And.intro @ty_e_sl_impl_searchStep (And.intro @ty_ag_sl_impl_searchStep (And.intro @ty_z_sl_impl_searchStep (And.intro @ty_i_sl_impl_searchStep (And.intro @ty_st_struct_parent_int_letter_int_nodes_sl_int (And.intro @ty_fo_struct_parent_int_letter_int_nodes_sl_int_0 (And.intro @ty_oo_struct_parent_int_letter_int_nodes_sl_int_0 (And.intro @ty_fo_struct_parent_int_letter_int_nodes_sl_int_1 (And.intro @ty_oo_struct_parent_int_letter_int_nodes_sl_int_1 (And.intro @ty_fo_struct_parent_int_letter_int_nodes_sl_int_2 (And.intro @ty_oo_struct_parent_int_letter_int_nodes_sl_int_2 (And.intro @ty_el_struct_parent_int_letter_int_nodes_sl_int (And.intro @ty_c_struct_parent_int_letter_int_nodes_sl_int (And.intro @ty_e_struct_parent_int_letter_int_nodes_sl_int (And.intro @ty_ag_struct_parent_int_letter_int_nodes_sl_int (And.intro @ty_z_struct_parent_int_letter_int_nodes_sl_int (And.intro @ty_bl_struct_parent_int_letter_int_nodes_sl_int (And.intro @ty_i_struct_parent_int_letter_int_nodes_sl_int (And.intro @ty_st_impl_searchStep (And.intro @ty_fo_impl_searchStep_0 (And.intro @ty_oo_impl_searchStep_0 (And.intro @ty_fo_impl_searchStep_1 (And.intro @ty_oo_impl_searchStep_1 (And.intro @ty_fo_impl_searchStep_2 (And.intro @ty_oo_impl_searchStep_2 (And.intro @ty_el_impl_searchStep (And.intro @ty_c_impl_searchStep (And.intro @ty_e_impl_searchStep @ty_ag_impl_searchStep))))))))))))))))))))))))))))))))))))))) := (And.intro @ty_i_uint64 (And.intro @ty_u_sl_bool (And.intro @ty_el_sl_bool (And.intro @ty_c_sl_bool (And.intro @ty_e_sl_bool (And.intro @ty_ag_sl_bool (And.intro @ty_z_sl_bool (And.intro @ty_i_sl_bool (And.intro @ty_u_sl_impl_searchStep (And.intro @ty_el_sl_impl_searchStep (And.intro @ty_c_sl_impl_searchStep (And.intro @ty_e_sl_impl_searchStep (And.intro @ty_ag_sl_impl_searchStep (And.intro @ty_z_sl_impl_searchStep (And.intro @ty_i_sl_impl_searchStep (And.intro @ty_st_struct_parent_int_letter_int_nodes_sl_int (And.intro @ty_fo_struct_parent_int_letter_int_nodes_sl_int_0 (And.intro @ty_oo_struct_parent_int_letter_int_nodes_sl_int_0 (And.intro @ty_fo_struct_parent_int_letter_int_nodes_sl_int_1 (And.intro @ty_oo_struct_parent_int_letter_int_nodes_sl_int_1 (And.intro @ty_fo_struct_parent_int_letter_int_nodes_sl_int_2 (And.intro @ty_oo_struct_parent_int_letter_int_nodes_sl_int_2 (And.intro @ty_el_struct_parent_int_letter_int_nodes_sl_int (And.intro @ty_c_struct_parent_int_letter_int_nodes_sl_int (And.intro @ty_e_struct_parent_int_letter_int_nodes_sl_int (And.intro @ty_ag_struct_parent_int_letter_int_nodes_sl_int (And.intro @ty_z_struct_parent_int_letter_int_nodes_sl_int (And.intro @ty_bl_struct_parent_int_letter_int_nodes_sl_int (And.intro @ty_i_struct_parent_int_letter_int_nodes_sl_int (And.intro @ty_st_impl_searchStep (And.intro @ty_fo_impl_searchStep_0 (And.intro @ty_oo_impl_searchStep_0 (And.intro @ty_fo_impl_searchStep_1 (And.intro @ty_oo_impl_searchStep_1 (And.intro @ty_fo_impl_searchStep_2 (And.intro @ty_oo_impl_searchStep_2 (And.intro @ty_el_impl_searchStep (And.intro @ty_c_impl_searchStep (And.intro @ty_e_impl_searchStep @ty_ag_impl_searchStep)))))))))))))))))))))))))))))))))))))))
theorem TY7 : type_of% (And.intro @ty_z_impl_searchStep (And.intro @ty_bl_impl_searchStep (And.intro @ty_i_impl_searchStep (And.intro @ty_u_slices_xorshift (And.intro @ty_el_slices_xorshift (And.intro @ty_c_slices_xorshift (And.intro @ty_e_slices_xorshift (And.intro @ty_ag_slices_xorshift (And.intro @ty_z_slices_xorshift (And.intro @ty_i_slices_xorshift (And.intro @ty_u_ptr_int (And.intro @ty_el_ptr_int (And.intro @ty_c_ptr_int (And.intro @ty_e_ptr_int (And.intro @ty_ag_ptr_int (And.intro @ty_z_ptr_int (And.intro @ty_i_ptr_int (And.intro @ty_u_ar32_uint8 (And.intro @ty_el_ar32_uint8 (And.intro @ty_c_ar32_uint8 (And.intro @ty_e_ar32_uint8 (And.intro @ty_ag_ar32_uint8 (And.intro @ty_z_ar32_uint8 (And.intro @ty_bl_ar32_uint8 (And.intro @ty_i_ar32_uint8 (And.intro @ty_u_ar64_uint8 (And.intro @ty_el_ar64_uint8 (And.intro @ty_c_ar64_uint8 (And.intro @ty_e_ar64_uint8 (And.intro @ty_ag_ar64_uint8 (And.intro @ty_z_ar64_uint8 (And.intro @ty_bl_ar64_uint8 (And.intro @ty_i_ar64_uint8 (And.intro @ty_u_ptr_slices_xorshift (And.intro @ty_el_ptr_slices_xorshift (And.intro @ty_c_ptr_slices_xorshift (And.intro @ty_e_ptr_slices_xorshift (And.intro @ty_ag_ptr_slices_xorshift (And.intro @ty_z_ptr_slices_xorshift @ty_i_ptr_slices_xorshift))))))))))))))))))))))))))))))))))))))) := (And.intro @ty_z_impl_searchStep (And.intro @ty_bl_impl_searchStep (And.intro @ty_i_impl_searchStep (And.intro @ty_u_slices_xorshift (And.intro @ty_el_slices_xorshift (And.intro @ty_c_slices_xorshift (And.intro @ty_e_slices_xorshift (And.intro @ty_ag_slices_xorshift (And.intro @ty_z_slices_xorshift (And.intro @ty_i_slices_xorshift (And.intro @ty_u_ptr_int (And.intro @ty_el_ptr_int (And.intro @ty_c_ptr_int (And.intro @ty_e_ptr_int (And.intro @ty_ag_ptr_int (And.intro @ty_z_ptr_int (And.intro @ty_i_ptr_int (And.intro @ty_u_ar32_uint8 (And.intro @ty_el_ar32_uint8 (And.intro @ty_c_ar32_uint8 (And.intro @ty_e_ar32_uint8 (And.intro @ty_ag_ar32_uint8 (And.intro @ty_z_ar32_uint8 (And.intro @ty_bl_ar32_uint8 (And.intro @ty_i_ar32_uint8 (And.intro @ty_u_ar64_uint8 (And.intro @ty_el_ar64_uint8 (And.intro @ty_c_ar64_uint8 (And.intro @ty_e_ar64_uint8 (And.intro @ty_ag_ar64_uint8 (And.intro @ty_z_ar64_uint8 (And.intro @ty_bl_ar64_uint8 (And.intro @ty_i_ar64_uint8 (And.intro @ty_u_ptr_slices_xorshift (And.intro @ty_el_ptr_slices_xorshift (And.intro @ty_c_ptr_slices_xorshift (And.intro @ty_e_ptr_slices_xorshift (And.intro @ty_ag_ptr_slices_xorshift (And.intro @ty_z_ptr_slices_xorshift @ty_i_ptr_slices_xorshift)))))))))))))))))))))))))))))))))))))))
theorem TY8 : type_of% (And.intro @ty_u_ptr_uint8 (And.intro @ty_el_ptr_uint8 (And.intro @ty_c_ptr_uint8 (And.intro @ty_e_ptr_uint8 (And.intro @ty_ag_ptr_uint8 (And.intro @ty_z_ptr_uint8 (And.intro @ty_i_ptr_uint8 (And.intro @ty_el_unsafe_Pointer (And.intro @ty_c_unsafe_Pointer (And.intro @ty_e_unsafe_Pointer (And.intro @ty_ag_unsafe_Pointer (And.intro @ty_z_unsafe_Pointer (And.intro @ty_i_unsafe_Pointer (And.intro @ty_cv_int_int (And.intro @ty_cv_int_uint8 (And.intro @ty_cv_int_uint (And.intro @ty_cv_uint8_int (And.intro @ty_cv_uint8_uint8 (And.intro @ty_cv_uint8_uint (And.intro @ty_cv_uint_int (And.intro @ty_cv_uint_uint8 @ty_cv_uint_uint))))))))))))))))))))) := (And.intro @ty_u_ptr_uint8 (And.intro @ty_el_ptr_uint8 (And.intro @ty_c_ptr_uint8 (And.intro @ty_e_ptr_uint8 (And.intro @ty_ag_ptr_uint8 (And.intro @ty_z_ptr_uint8 (And.intro @ty_i_ptr_uint8 (And.intro @ty_el_unsafe_Pointer (And.intro @ty_c_unsafe_Pointer (And.intro @ty_e_unsafe_Pointer (And.intro @ty_ag_unsafe_Pointer (And.intro @ty_z_unsafe_Pointer (And.intro @ty_i_unsafe_Pointer (And.intro @ty_cv_int_int (And.intro @ty_cv_int_uint8 (And.intro @ty_cv_int_uint (And.intro @ty_cv_uint8_int (And.intro @ty_cv_uint8_uint8 (And.intro @ty_cv_uint8_uint (And.intro @ty_cv_uint_int (And.intro @ty_cv_uint_uint8 @ty_cv_uint_uint)))))))))))))))))))))
theorem TY : type_of% (And.intro @TY0 (And.intro @TY1 (And.intro @TY2 (And.intro @TY3 (And.intro @TY4 (And.intro @TY5 (And.intro @TY6 (And.intro @TY7 @TY8)))))))) := (And.intro @TY0 (And.intro @TY1 (And.intro @TY2 (And.intro @TY3 (And.intro @TY4 (And.intro @TY5 (And.intro @TY6 (And.intro @TY7 @TY8))))))))

end Ev
end Go.Proofs.YtojaohcpgelhmaaDoor
