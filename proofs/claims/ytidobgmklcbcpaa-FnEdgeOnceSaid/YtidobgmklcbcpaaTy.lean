/-
  What the types of the program are, as the evaluator asks. Written by a program.
-/
import Derived.Test.YtidobgmklcbcpaaEnvF
import Derived.Test.YtidobgmklcbcpaaEvWalk
set_option maxRecDepth 100000
namespace Go.Proofs.Ytidobgmklcbcpaa
namespace Ev

def offOf (P : Program) (t : TypeId) (i : Nat) : Option (Nat × Nat) := match P.underlying t with
  | some (.struct fields) => (fields.toList[i]?).map fun f => (f.offset, P.cellsOf f.type)
  | _ => none
def structOK (P : Program) (t : TypeId) : Bool := match P.underlying t with
  | some (.struct fields) => fields.toList.all fun f => (P.info? f.type).isSome
  | _ => false
theorem aBuild_struct {P : Program} {t : TypeId} {z : A} {parts : List (Nat × A)} (hs : structOK P t = true) (hz : zeroA P t = some z) : aBuild P t parts = (fillA (cellsA z) (parts.map fun p => (offOf P t p.1, p.2))).map .agg := by
  unfold structOK at hs
  unfold aBuild offOf
  rw [hz]
  cases hu : P.underlying t with
  | none => rw [hu] at hs; cases hs
  | some d =>
    rw [hu] at hs
    cases d <;> first | cases hs | skip
    simp only at hs ⊢
    rw [if_pos hs]
theorem aBuild_array {P : Program} {t e : TypeId} {n c : Nat} {z : A} {parts : List (Nat × A)} (hu : P.underlying t = some (.array n e)) (hz : zeroA P t = some z) (hi : (P.info? e).isSome = true) (hc : P.cellsOf e = c) : aBuild P t parts = (fillA (cellsA z) (parts.map fun p => (some (p.1 * c, c), p.2))).map .agg := by
  unfold aBuild
  rw [hz, hu]
  simp only [hi, if_true, hc]
theorem aConv_int {P : Program} {h : H} {t u : TypeId} {K K1 K2 : IntKind} {n : Int} (h1 : P.underlying t = some (.int K1)) (h2 : P.underlying u = some (.int K2)) : aConvert P h t u (.d (.int K n)) = some (.d (.int K2 (K2.wrap n)), h) := by
  simp only [aConvert, h1, h2]

theorem ty_u_int64 : env.P.underlying 2 = some (.int .i64) := by kernel_rfl
theorem ty_el_int64 : elemT env.P 2 = none := by kernel_rfl
theorem ty_c_int64 : env.P.cellsOf 2 = 1 := by kernel_rfl
theorem ty_e_int64 : elemOk env.P 2 = true := by kernel_rfl
theorem ty_ag_int64 : isAggT env.P 2 = some false := by kernel_rfl
theorem ty_z_int64 : zeroA env.P 2 = some (.d (.int .i64 0)) := by kernel_rfl
theorem ty_i_int64 : (env.P.info? 2).isSome = true := by kernel_rfl
theorem ty_u_int : env.P.underlying 3 = some (.int .i64) := by kernel_rfl
theorem ty_el_int : elemT env.P 3 = none := by kernel_rfl
theorem ty_c_int : env.P.cellsOf 3 = 1 := by kernel_rfl
theorem ty_e_int : elemOk env.P 3 = true := by kernel_rfl
theorem ty_ag_int : isAggT env.P 3 = some false := by kernel_rfl
theorem ty_z_int : zeroA env.P 3 = some (.d (.int .i64 0)) := by kernel_rfl
theorem ty_i_int : (env.P.info? 3).isSome = true := by kernel_rfl
theorem ty_u_bool : env.P.underlying 4 = some .bool := by kernel_rfl
theorem ty_el_bool : elemT env.P 4 = none := by kernel_rfl
theorem ty_c_bool : env.P.cellsOf 4 = 1 := by kernel_rfl
theorem ty_e_bool : elemOk env.P 4 = true := by kernel_rfl
theorem ty_ag_bool : isAggT env.P 4 = some false := by kernel_rfl
theorem ty_z_bool : zeroA env.P 4 = some (.d (.bool false)) := by kernel_rfl
theorem ty_i_bool : (env.P.info? 4).isSome = true := by kernel_rfl
theorem ty_u_uint8 : env.P.underlying 5 = some (.int .u8) := by kernel_rfl
theorem ty_el_uint8 : elemT env.P 5 = none := by kernel_rfl
theorem ty_c_uint8 : env.P.cellsOf 5 = 1 := by kernel_rfl
theorem ty_e_uint8 : elemOk env.P 5 = true := by kernel_rfl
theorem ty_ag_uint8 : isAggT env.P 5 = some false := by kernel_rfl
theorem ty_z_uint8 : zeroA env.P 5 = some (.d (.int .u8 0)) := by kernel_rfl
theorem ty_i_uint8 : (env.P.info? 5).isSome = true := by kernel_rfl
theorem ty_u_string : env.P.underlying 9 = some .string := by kernel_rfl
theorem ty_el_string : elemT env.P 9 = none := by kernel_rfl
theorem ty_c_string : env.P.cellsOf 9 = 1 := by kernel_rfl
theorem ty_e_string : elemOk env.P 9 = true := by kernel_rfl
theorem ty_ag_string : isAggT env.P 9 = some false := by kernel_rfl
theorem ty_z_string : zeroA env.P 9 = some (.d (.str [])) := by kernel_rfl
theorem ty_i_string : (env.P.info? 9).isSome = true := by kernel_rfl
theorem ty_u_uintptr : env.P.underlying 12 = some (.int .u64) := by kernel_rfl
theorem ty_el_uintptr : elemT env.P 12 = none := by kernel_rfl
theorem ty_c_uintptr : env.P.cellsOf 12 = 1 := by kernel_rfl
theorem ty_e_uintptr : elemOk env.P 12 = true := by kernel_rfl
theorem ty_ag_uintptr : isAggT env.P 12 = some false := by kernel_rfl
theorem ty_z_uintptr : zeroA env.P 12 = some (.d (.int .u64 0)) := by kernel_rfl
theorem ty_i_uintptr : (env.P.info? 12).isSome = true := by kernel_rfl
theorem ty_st_struct_msg_string_addr_uintptr : structOK env.P 13 = true := by kernel_rfl
theorem ty_fo_struct_msg_string_addr_uintptr_0 : fieldOff env.P 13 0 = some (0, 9) := by kernel_rfl
theorem ty_oo_struct_msg_string_addr_uintptr_0 : offOf env.P 13 0 = some (0, 1) := by kernel_rfl
theorem ty_fo_struct_msg_string_addr_uintptr_1 : fieldOff env.P 13 1 = some (1, 12) := by kernel_rfl
theorem ty_oo_struct_msg_string_addr_uintptr_1 : offOf env.P 13 1 = some (1, 1) := by kernel_rfl
theorem ty_el_struct_msg_string_addr_uintptr : elemT env.P 13 = none := by kernel_rfl
theorem ty_c_struct_msg_string_addr_uintptr : env.P.cellsOf 13 = 2 := by kernel_rfl
theorem ty_e_struct_msg_string_addr_uintptr : elemOk env.P 13 = true := by kernel_rfl
theorem ty_ag_struct_msg_string_addr_uintptr : isAggT env.P 13 = some true := by kernel_rfl
theorem ty_z_struct_msg_string_addr_uintptr : zeroA env.P 13 = some (.agg [.d (.str []), .d (.int .u64 0)]) := by kernel_rfl
theorem ty_i_struct_msg_string_addr_uintptr : (env.P.info? 13).isSome = true := by kernel_rfl
theorem ty_el_interface : elemT env.P 20 = none := by kernel_rfl
theorem ty_c_interface : env.P.cellsOf 20 = 1 := by kernel_rfl
theorem ty_e_interface : elemOk env.P 20 = true := by kernel_rfl
theorem ty_ag_interface : isAggT env.P 20 = some false := by kernel_rfl
theorem ty_z_interface : zeroA env.P 20 = some (.d (.nili)) := by kernel_rfl
theorem ty_i_interface : (env.P.info? 20).isSome = true := by kernel_rfl
theorem ty_u_int32 : env.P.underlying 21 = some (.int .i32) := by kernel_rfl
theorem ty_el_int32 : elemT env.P 21 = none := by kernel_rfl
theorem ty_c_int32 : env.P.cellsOf 21 = 1 := by kernel_rfl
theorem ty_e_int32 : elemOk env.P 21 = true := by kernel_rfl
theorem ty_ag_int32 : isAggT env.P 21 = some false := by kernel_rfl
theorem ty_z_int32 : zeroA env.P 21 = some (.d (.int .i32 0)) := by kernel_rfl
theorem ty_i_int32 : (env.P.info? 21).isSome = true := by kernel_rfl
theorem ty_u_sl_uint8 : env.P.underlying 24 = some (.slice 5) := by kernel_rfl
theorem ty_el_sl_uint8 : elemT env.P 24 = some 5 := by simp only [elemT, ty_u_sl_uint8]
theorem ty_c_sl_uint8 : env.P.cellsOf 24 = 1 := by kernel_rfl
theorem ty_e_sl_uint8 : elemOk env.P 24 = true := by kernel_rfl
theorem ty_ag_sl_uint8 : isAggT env.P 24 = some false := by kernel_rfl
theorem ty_z_sl_uint8 : zeroA env.P 24 = some (.d (.nils)) := by kernel_rfl
theorem ty_i_sl_uint8 : (env.P.info? 24).isSome = true := by kernel_rfl
theorem ty_u_sl_laws_Edge : env.P.underlying 37 = some (.slice 41) := by kernel_rfl
theorem ty_el_sl_laws_Edge : elemT env.P 37 = some 41 := by simp only [elemT, ty_u_sl_laws_Edge]
theorem ty_c_sl_laws_Edge : env.P.cellsOf 37 = 1 := by kernel_rfl
theorem ty_e_sl_laws_Edge : elemOk env.P 37 = true := by kernel_rfl
theorem ty_ag_sl_laws_Edge : isAggT env.P 37 = some false := by kernel_rfl
theorem ty_z_sl_laws_Edge : zeroA env.P 37 = some (.d (.nils)) := by kernel_rfl
theorem ty_i_sl_laws_Edge : (env.P.info? 37).isSome = true := by kernel_rfl
theorem ty_st_struct_Alphabet_int_States_int_Edges_sl_laws_Edge : structOK env.P 38 = true := by kernel_rfl
theorem ty_fo_struct_Alphabet_int_States_int_Edges_sl_laws_Edge_0 : fieldOff env.P 38 0 = some (0, 3) := by kernel_rfl
theorem ty_oo_struct_Alphabet_int_States_int_Edges_sl_laws_Edge_0 : offOf env.P 38 0 = some (0, 1) := by kernel_rfl
theorem ty_fo_struct_Alphabet_int_States_int_Edges_sl_laws_Edge_1 : fieldOff env.P 38 1 = some (1, 3) := by kernel_rfl
theorem ty_oo_struct_Alphabet_int_States_int_Edges_sl_laws_Edge_1 : offOf env.P 38 1 = some (1, 1) := by kernel_rfl
theorem ty_fo_struct_Alphabet_int_States_int_Edges_sl_laws_Edge_2 : fieldOff env.P 38 2 = some (2, 37) := by kernel_rfl
theorem ty_oo_struct_Alphabet_int_States_int_Edges_sl_laws_Edge_2 : offOf env.P 38 2 = some (2, 1) := by kernel_rfl
theorem ty_el_struct_Alphabet_int_States_int_Edges_sl_laws_Edge : elemT env.P 38 = none := by kernel_rfl
theorem ty_c_struct_Alphabet_int_States_int_Edges_sl_laws_Edge : env.P.cellsOf 38 = 3 := by kernel_rfl
theorem ty_e_struct_Alphabet_int_States_int_Edges_sl_laws_Edge : elemOk env.P 38 = true := by kernel_rfl
theorem ty_ag_struct_Alphabet_int_States_int_Edges_sl_laws_Edge : isAggT env.P 38 = some true := by kernel_rfl
theorem ty_z_struct_Alphabet_int_States_int_Edges_sl_laws_Edge : zeroA env.P 38 = some (.agg [.d (.int .i64 0), .d (.int .i64 0), .d (.nils)]) := by kernel_rfl
theorem ty_i_struct_Alphabet_int_States_int_Edges_sl_laws_Edge : (env.P.info? 38).isSome = true := by kernel_rfl
theorem ty_st_laws_System : structOK env.P 39 = true := by kernel_rfl
theorem ty_fo_laws_System_0 : fieldOff env.P 39 0 = some (0, 3) := by kernel_rfl
theorem ty_oo_laws_System_0 : offOf env.P 39 0 = some (0, 1) := by kernel_rfl
theorem ty_fo_laws_System_1 : fieldOff env.P 39 1 = some (1, 3) := by kernel_rfl
theorem ty_oo_laws_System_1 : offOf env.P 39 1 = some (1, 1) := by kernel_rfl
theorem ty_fo_laws_System_2 : fieldOff env.P 39 2 = some (2, 37) := by kernel_rfl
theorem ty_oo_laws_System_2 : offOf env.P 39 2 = some (2, 1) := by kernel_rfl
theorem ty_el_laws_System : elemT env.P 39 = none := by kernel_rfl
theorem ty_c_laws_System : env.P.cellsOf 39 = 3 := by kernel_rfl
theorem ty_e_laws_System : elemOk env.P 39 = true := by kernel_rfl
theorem ty_ag_laws_System : isAggT env.P 39 = some true := by kernel_rfl
theorem ty_z_laws_System : zeroA env.P 39 = some (.agg [.d (.int .i64 0), .d (.int .i64 0), .d (.nils)]) := by kernel_rfl
theorem ty_i_laws_System : (env.P.info? 39).isSome = true := by kernel_rfl
theorem ty_st_struct_From_int_Letter_int_To_int : structOK env.P 40 = true := by kernel_rfl
theorem ty_fo_struct_From_int_Letter_int_To_int_0 : fieldOff env.P 40 0 = some (0, 3) := by kernel_rfl
theorem ty_oo_struct_From_int_Letter_int_To_int_0 : offOf env.P 40 0 = some (0, 1) := by kernel_rfl
theorem ty_fo_struct_From_int_Letter_int_To_int_1 : fieldOff env.P 40 1 = some (1, 3) := by kernel_rfl
theorem ty_oo_struct_From_int_Letter_int_To_int_1 : offOf env.P 40 1 = some (1, 1) := by kernel_rfl
theorem ty_fo_struct_From_int_Letter_int_To_int_2 : fieldOff env.P 40 2 = some (2, 3) := by kernel_rfl
theorem ty_oo_struct_From_int_Letter_int_To_int_2 : offOf env.P 40 2 = some (2, 1) := by kernel_rfl
theorem ty_el_struct_From_int_Letter_int_To_int : elemT env.P 40 = none := by kernel_rfl
theorem ty_c_struct_From_int_Letter_int_To_int : env.P.cellsOf 40 = 3 := by kernel_rfl
theorem ty_e_struct_From_int_Letter_int_To_int : elemOk env.P 40 = true := by kernel_rfl
theorem ty_ag_struct_From_int_Letter_int_To_int : isAggT env.P 40 = some true := by kernel_rfl
theorem ty_z_struct_From_int_Letter_int_To_int : zeroA env.P 40 = some (.agg [.d (.int .i64 0), .d (.int .i64 0), .d (.int .i64 0)]) := by kernel_rfl
theorem ty_i_struct_From_int_Letter_int_To_int : (env.P.info? 40).isSome = true := by kernel_rfl
theorem ty_st_laws_Edge : structOK env.P 41 = true := by kernel_rfl
theorem ty_fo_laws_Edge_0 : fieldOff env.P 41 0 = some (0, 3) := by kernel_rfl
theorem ty_oo_laws_Edge_0 : offOf env.P 41 0 = some (0, 1) := by kernel_rfl
theorem ty_fo_laws_Edge_1 : fieldOff env.P 41 1 = some (1, 3) := by kernel_rfl
theorem ty_oo_laws_Edge_1 : offOf env.P 41 1 = some (1, 1) := by kernel_rfl
theorem ty_fo_laws_Edge_2 : fieldOff env.P 41 2 = some (2, 3) := by kernel_rfl
theorem ty_oo_laws_Edge_2 : offOf env.P 41 2 = some (2, 1) := by kernel_rfl
theorem ty_el_laws_Edge : elemT env.P 41 = none := by kernel_rfl
theorem ty_c_laws_Edge : env.P.cellsOf 41 = 3 := by kernel_rfl
theorem ty_e_laws_Edge : elemOk env.P 41 = true := by kernel_rfl
theorem ty_ag_laws_Edge : isAggT env.P 41 = some true := by kernel_rfl
theorem ty_z_laws_Edge : zeroA env.P 41 = some (.agg [.d (.int .i64 0), .d (.int .i64 0), .d (.int .i64 0)]) := by kernel_rfl
theorem ty_i_laws_Edge : (env.P.info? 41).isSome = true := by kernel_rfl
theorem ty_u_sl_impl_Edge : env.P.underlying 43 = some (.slice 49) := by kernel_rfl
theorem ty_el_sl_impl_Edge : elemT env.P 43 = some 49 := by simp only [elemT, ty_u_sl_impl_Edge]
theorem ty_c_sl_impl_Edge : env.P.cellsOf 43 = 1 := by kernel_rfl
theorem ty_e_sl_impl_Edge : elemOk env.P 43 = true := by kernel_rfl
theorem ty_ag_sl_impl_Edge : isAggT env.P 43 = some false := by kernel_rfl
theorem ty_z_sl_impl_Edge : zeroA env.P 43 = some (.d (.nils)) := by kernel_rfl
theorem ty_i_sl_impl_Edge : (env.P.info? 43).isSome = true := by kernel_rfl
theorem ty_st_struct_Alphabet_int_States_int_Edges_sl_impl_Edge : structOK env.P 44 = true := by kernel_rfl
theorem ty_fo_struct_Alphabet_int_States_int_Edges_sl_impl_Edge_0 : fieldOff env.P 44 0 = some (0, 3) := by kernel_rfl
theorem ty_oo_struct_Alphabet_int_States_int_Edges_sl_impl_Edge_0 : offOf env.P 44 0 = some (0, 1) := by kernel_rfl
theorem ty_fo_struct_Alphabet_int_States_int_Edges_sl_impl_Edge_1 : fieldOff env.P 44 1 = some (1, 3) := by kernel_rfl
theorem ty_oo_struct_Alphabet_int_States_int_Edges_sl_impl_Edge_1 : offOf env.P 44 1 = some (1, 1) := by kernel_rfl
theorem ty_fo_struct_Alphabet_int_States_int_Edges_sl_impl_Edge_2 : fieldOff env.P 44 2 = some (2, 43) := by kernel_rfl
theorem ty_oo_struct_Alphabet_int_States_int_Edges_sl_impl_Edge_2 : offOf env.P 44 2 = some (2, 1) := by kernel_rfl
theorem ty_el_struct_Alphabet_int_States_int_Edges_sl_impl_Edge : elemT env.P 44 = none := by kernel_rfl
theorem ty_c_struct_Alphabet_int_States_int_Edges_sl_impl_Edge : env.P.cellsOf 44 = 3 := by kernel_rfl
theorem ty_e_struct_Alphabet_int_States_int_Edges_sl_impl_Edge : elemOk env.P 44 = true := by kernel_rfl
theorem ty_ag_struct_Alphabet_int_States_int_Edges_sl_impl_Edge : isAggT env.P 44 = some true := by kernel_rfl
theorem ty_z_struct_Alphabet_int_States_int_Edges_sl_impl_Edge : zeroA env.P 44 = some (.agg [.d (.int .i64 0), .d (.int .i64 0), .d (.nils)]) := by kernel_rfl
theorem ty_i_struct_Alphabet_int_States_int_Edges_sl_impl_Edge : (env.P.info? 44).isSome = true := by kernel_rfl
theorem ty_st_impl_System : structOK env.P 45 = true := by kernel_rfl
theorem ty_fo_impl_System_0 : fieldOff env.P 45 0 = some (0, 3) := by kernel_rfl
theorem ty_oo_impl_System_0 : offOf env.P 45 0 = some (0, 1) := by kernel_rfl
theorem ty_fo_impl_System_1 : fieldOff env.P 45 1 = some (1, 3) := by kernel_rfl
theorem ty_oo_impl_System_1 : offOf env.P 45 1 = some (1, 1) := by kernel_rfl
theorem ty_fo_impl_System_2 : fieldOff env.P 45 2 = some (2, 43) := by kernel_rfl
theorem ty_oo_impl_System_2 : offOf env.P 45 2 = some (2, 1) := by kernel_rfl
theorem ty_el_impl_System : elemT env.P 45 = none := by kernel_rfl
theorem ty_c_impl_System : env.P.cellsOf 45 = 3 := by kernel_rfl
theorem ty_e_impl_System : elemOk env.P 45 = true := by kernel_rfl
theorem ty_ag_impl_System : isAggT env.P 45 = some true := by kernel_rfl
theorem ty_z_impl_System : zeroA env.P 45 = some (.agg [.d (.int .i64 0), .d (.int .i64 0), .d (.nils)]) := by kernel_rfl
theorem ty_i_impl_System : (env.P.info? 45).isSome = true := by kernel_rfl
theorem ty_st_impl_Edge : structOK env.P 49 = true := by kernel_rfl
theorem ty_fo_impl_Edge_0 : fieldOff env.P 49 0 = some (0, 3) := by kernel_rfl
theorem ty_oo_impl_Edge_0 : offOf env.P 49 0 = some (0, 1) := by kernel_rfl
theorem ty_fo_impl_Edge_1 : fieldOff env.P 49 1 = some (1, 3) := by kernel_rfl
theorem ty_oo_impl_Edge_1 : offOf env.P 49 1 = some (1, 1) := by kernel_rfl
theorem ty_fo_impl_Edge_2 : fieldOff env.P 49 2 = some (2, 3) := by kernel_rfl
theorem ty_oo_impl_Edge_2 : offOf env.P 49 2 = some (2, 1) := by kernel_rfl
theorem ty_el_impl_Edge : elemT env.P 49 = none := by kernel_rfl
theorem ty_c_impl_Edge : env.P.cellsOf 49 = 3 := by kernel_rfl
theorem ty_e_impl_Edge : elemOk env.P 49 = true := by kernel_rfl
theorem ty_ag_impl_Edge : isAggT env.P 49 = some true := by kernel_rfl
theorem ty_z_impl_Edge : zeroA env.P 49 = some (.agg [.d (.int .i64 0), .d (.int .i64 0), .d (.int .i64 0)]) := by kernel_rfl
theorem ty_i_impl_Edge : (env.P.info? 49).isSome = true := by kernel_rfl
theorem ty_u_sl_sl_int : env.P.underlying 54 = some (.slice 92) := by kernel_rfl
theorem ty_el_sl_sl_int : elemT env.P 54 = some 92 := by simp only [elemT, ty_u_sl_sl_int]
theorem ty_c_sl_sl_int : env.P.cellsOf 54 = 1 := by kernel_rfl
theorem ty_e_sl_sl_int : elemOk env.P 54 = true := by kernel_rfl
theorem ty_ag_sl_sl_int : isAggT env.P 54 = some false := by kernel_rfl
theorem ty_z_sl_sl_int : zeroA env.P 54 = some (.d (.nils)) := by kernel_rfl
theorem ty_i_sl_sl_int : (env.P.info? 54).isSome = true := by kernel_rfl
theorem ty_u_sl_bool : env.P.underlying 55 = some (.slice 4) := by kernel_rfl
theorem ty_el_sl_bool : elemT env.P 55 = some 4 := by simp only [elemT, ty_u_sl_bool]
theorem ty_c_sl_bool : env.P.cellsOf 55 = 1 := by kernel_rfl
theorem ty_e_sl_bool : elemOk env.P 55 = true := by kernel_rfl
theorem ty_ag_sl_bool : isAggT env.P 55 = some false := by kernel_rfl
theorem ty_z_sl_bool : zeroA env.P 55 = some (.d (.nils)) := by kernel_rfl
theorem ty_i_sl_bool : (env.P.info? 55).isSome = true := by kernel_rfl
theorem ty_st_struct_Alphabet_int_Next_sl_sl_int_Accept_sl_bool : structOK env.P 56 = true := by kernel_rfl
theorem ty_fo_struct_Alphabet_int_Next_sl_sl_int_Accept_sl_bool_0 : fieldOff env.P 56 0 = some (0, 3) := by kernel_rfl
theorem ty_oo_struct_Alphabet_int_Next_sl_sl_int_Accept_sl_bool_0 : offOf env.P 56 0 = some (0, 1) := by kernel_rfl
theorem ty_fo_struct_Alphabet_int_Next_sl_sl_int_Accept_sl_bool_1 : fieldOff env.P 56 1 = some (1, 54) := by kernel_rfl
theorem ty_oo_struct_Alphabet_int_Next_sl_sl_int_Accept_sl_bool_1 : offOf env.P 56 1 = some (1, 1) := by kernel_rfl
theorem ty_fo_struct_Alphabet_int_Next_sl_sl_int_Accept_sl_bool_2 : fieldOff env.P 56 2 = some (2, 55) := by kernel_rfl
theorem ty_oo_struct_Alphabet_int_Next_sl_sl_int_Accept_sl_bool_2 : offOf env.P 56 2 = some (2, 1) := by kernel_rfl
theorem ty_el_struct_Alphabet_int_Next_sl_sl_int_Accept_sl_bool : elemT env.P 56 = none := by kernel_rfl
theorem ty_c_struct_Alphabet_int_Next_sl_sl_int_Accept_sl_bool : env.P.cellsOf 56 = 3 := by kernel_rfl
theorem ty_e_struct_Alphabet_int_Next_sl_sl_int_Accept_sl_bool : elemOk env.P 56 = true := by kernel_rfl
theorem ty_ag_struct_Alphabet_int_Next_sl_sl_int_Accept_sl_bool : isAggT env.P 56 = some true := by kernel_rfl
theorem ty_z_struct_Alphabet_int_Next_sl_sl_int_Accept_sl_bool : zeroA env.P 56 = some (.agg [.d (.int .i64 0), .d (.nils), .d (.nils)]) := by kernel_rfl
theorem ty_i_struct_Alphabet_int_Next_sl_sl_int_Accept_sl_bool : (env.P.info? 56).isSome = true := by kernel_rfl
theorem ty_st_laws_Automaton : structOK env.P 57 = true := by kernel_rfl
theorem ty_fo_laws_Automaton_0 : fieldOff env.P 57 0 = some (0, 3) := by kernel_rfl
theorem ty_oo_laws_Automaton_0 : offOf env.P 57 0 = some (0, 1) := by kernel_rfl
theorem ty_fo_laws_Automaton_1 : fieldOff env.P 57 1 = some (1, 54) := by kernel_rfl
theorem ty_oo_laws_Automaton_1 : offOf env.P 57 1 = some (1, 1) := by kernel_rfl
theorem ty_fo_laws_Automaton_2 : fieldOff env.P 57 2 = some (2, 55) := by kernel_rfl
theorem ty_oo_laws_Automaton_2 : offOf env.P 57 2 = some (2, 1) := by kernel_rfl
theorem ty_el_laws_Automaton : elemT env.P 57 = none := by kernel_rfl
theorem ty_c_laws_Automaton : env.P.cellsOf 57 = 3 := by kernel_rfl
theorem ty_e_laws_Automaton : elemOk env.P 57 = true := by kernel_rfl
theorem ty_ag_laws_Automaton : isAggT env.P 57 = some true := by kernel_rfl
theorem ty_z_laws_Automaton : zeroA env.P 57 = some (.agg [.d (.int .i64 0), .d (.nils), .d (.nils)]) := by kernel_rfl
theorem ty_i_laws_Automaton : (env.P.info? 57).isSome = true := by kernel_rfl
theorem ty_st_impl_Automaton : structOK env.P 59 = true := by kernel_rfl
theorem ty_fo_impl_Automaton_0 : fieldOff env.P 59 0 = some (0, 3) := by kernel_rfl
theorem ty_oo_impl_Automaton_0 : offOf env.P 59 0 = some (0, 1) := by kernel_rfl
theorem ty_fo_impl_Automaton_1 : fieldOff env.P 59 1 = some (1, 54) := by kernel_rfl
theorem ty_oo_impl_Automaton_1 : offOf env.P 59 1 = some (1, 1) := by kernel_rfl
theorem ty_fo_impl_Automaton_2 : fieldOff env.P 59 2 = some (2, 55) := by kernel_rfl
theorem ty_oo_impl_Automaton_2 : offOf env.P 59 2 = some (2, 1) := by kernel_rfl
theorem ty_el_impl_Automaton : elemT env.P 59 = none := by kernel_rfl
theorem ty_c_impl_Automaton : env.P.cellsOf 59 = 3 := by kernel_rfl
theorem ty_e_impl_Automaton : elemOk env.P 59 = true := by kernel_rfl
theorem ty_ag_impl_Automaton : isAggT env.P 59 = some true := by kernel_rfl
theorem ty_z_impl_Automaton : zeroA env.P 59 = some (.agg [.d (.int .i64 0), .d (.nils), .d (.nils)]) := by kernel_rfl
theorem ty_i_impl_Automaton : (env.P.info? 59).isSome = true := by kernel_rfl
theorem ty_u_sl_string : env.P.underlying 75 = some (.slice 9) := by kernel_rfl
theorem ty_el_sl_string : elemT env.P 75 = some 9 := by simp only [elemT, ty_u_sl_string]
theorem ty_c_sl_string : env.P.cellsOf 75 = 1 := by kernel_rfl
theorem ty_e_sl_string : elemOk env.P 75 = true := by kernel_rfl
theorem ty_ag_sl_string : isAggT env.P 75 = some false := by kernel_rfl
theorem ty_z_sl_string : zeroA env.P 75 = some (.d (.nils)) := by kernel_rfl
theorem ty_i_sl_string : (env.P.info? 75).isSome = true := by kernel_rfl
theorem ty_u_ptr_spec_l19Rd : env.P.underlying 85 = some (.pointer 130) := by kernel_rfl
theorem ty_el_ptr_spec_l19Rd : elemT env.P 85 = none := by kernel_rfl
theorem ty_c_ptr_spec_l19Rd : env.P.cellsOf 85 = 1 := by kernel_rfl
theorem ty_e_ptr_spec_l19Rd : elemOk env.P 85 = true := by kernel_rfl
theorem ty_ag_ptr_spec_l19Rd : isAggT env.P 85 = some false := by kernel_rfl
theorem ty_z_ptr_spec_l19Rd : zeroA env.P 85 = some (.d (.nilp)) := by kernel_rfl
theorem ty_i_ptr_spec_l19Rd : (env.P.info? 85).isSome = true := by kernel_rfl
theorem ty_u_sl_int : env.P.underlying 92 = some (.slice 3) := by kernel_rfl
theorem ty_el_sl_int : elemT env.P 92 = some 3 := by simp only [elemT, ty_u_sl_int]
theorem ty_c_sl_int : env.P.cellsOf 92 = 1 := by kernel_rfl
theorem ty_e_sl_int : elemOk env.P 92 = true := by kernel_rfl
theorem ty_ag_sl_int : isAggT env.P 92 = some false := by kernel_rfl
theorem ty_z_sl_int : zeroA env.P 92 = some (.d (.nils)) := by kernel_rfl
theorem ty_i_sl_int : (env.P.info? 92).isSome = true := by kernel_rfl
theorem ty_u_sl_ar6_int : env.P.underlying 112 = some (.slice 114) := by kernel_rfl
theorem ty_el_sl_ar6_int : elemT env.P 112 = some 114 := by simp only [elemT, ty_u_sl_ar6_int]
theorem ty_c_sl_ar6_int : env.P.cellsOf 112 = 1 := by kernel_rfl
theorem ty_e_sl_ar6_int : elemOk env.P 112 = true := by kernel_rfl
theorem ty_ag_sl_ar6_int : isAggT env.P 112 = some false := by kernel_rfl
theorem ty_z_sl_ar6_int : zeroA env.P 112 = some (.d (.nils)) := by kernel_rfl
theorem ty_i_sl_ar6_int : (env.P.info? 112).isSome = true := by kernel_rfl
theorem ty_u_ar6_int : env.P.underlying 114 = some (.array 6 3) := by kernel_rfl
theorem ty_el_ar6_int : elemT env.P 114 = none := by kernel_rfl
theorem ty_c_ar6_int : env.P.cellsOf 114 = 6 := by kernel_rfl
theorem ty_e_ar6_int : elemOk env.P 114 = true := by kernel_rfl
theorem ty_ag_ar6_int : isAggT env.P 114 = some true := by kernel_rfl
theorem ty_z_ar6_int : zeroA env.P 114 = some (.agg [.d (.int .i64 0), .d (.int .i64 0), .d (.int .i64 0), .d (.int .i64 0), .d (.int .i64 0), .d (.int .i64 0)]) := by kernel_rfl
theorem ty_i_ar6_int : (env.P.info? 114).isSome = true := by kernel_rfl
theorem ty_st_struct_b_sl_uint8_p_int : structOK env.P 129 = true := by kernel_rfl
theorem ty_fo_struct_b_sl_uint8_p_int_0 : fieldOff env.P 129 0 = some (0, 24) := by kernel_rfl
theorem ty_oo_struct_b_sl_uint8_p_int_0 : offOf env.P 129 0 = some (0, 1) := by kernel_rfl
theorem ty_fo_struct_b_sl_uint8_p_int_1 : fieldOff env.P 129 1 = some (1, 3) := by kernel_rfl
theorem ty_oo_struct_b_sl_uint8_p_int_1 : offOf env.P 129 1 = some (1, 1) := by kernel_rfl
theorem ty_el_struct_b_sl_uint8_p_int : elemT env.P 129 = none := by kernel_rfl
theorem ty_c_struct_b_sl_uint8_p_int : env.P.cellsOf 129 = 2 := by kernel_rfl
theorem ty_e_struct_b_sl_uint8_p_int : elemOk env.P 129 = true := by kernel_rfl
theorem ty_ag_struct_b_sl_uint8_p_int : isAggT env.P 129 = some true := by kernel_rfl
theorem ty_z_struct_b_sl_uint8_p_int : zeroA env.P 129 = some (.agg [.d (.nils), .d (.int .i64 0)]) := by kernel_rfl
theorem ty_i_struct_b_sl_uint8_p_int : (env.P.info? 129).isSome = true := by kernel_rfl
theorem ty_st_spec_l19Rd : structOK env.P 130 = true := by kernel_rfl
theorem ty_fo_spec_l19Rd_0 : fieldOff env.P 130 0 = some (0, 24) := by kernel_rfl
theorem ty_oo_spec_l19Rd_0 : offOf env.P 130 0 = some (0, 1) := by kernel_rfl
theorem ty_fo_spec_l19Rd_1 : fieldOff env.P 130 1 = some (1, 3) := by kernel_rfl
theorem ty_oo_spec_l19Rd_1 : offOf env.P 130 1 = some (1, 1) := by kernel_rfl
theorem ty_el_spec_l19Rd : elemT env.P 130 = none := by kernel_rfl
theorem ty_c_spec_l19Rd : env.P.cellsOf 130 = 2 := by kernel_rfl
theorem ty_e_spec_l19Rd : elemOk env.P 130 = true := by kernel_rfl
theorem ty_ag_spec_l19Rd : isAggT env.P 130 = some true := by kernel_rfl
theorem ty_z_spec_l19Rd : zeroA env.P 130 = some (.agg [.d (.nils), .d (.int .i64 0)]) := by kernel_rfl
theorem ty_i_spec_l19Rd : (env.P.info? 130).isSome = true := by kernel_rfl
theorem ty_u_uint : env.P.underlying 133 = some (.int .u64) := by kernel_rfl
theorem ty_el_uint : elemT env.P 133 = none := by kernel_rfl
theorem ty_c_uint : env.P.cellsOf 133 = 1 := by kernel_rfl
theorem ty_e_uint : elemOk env.P 133 = true := by kernel_rfl
theorem ty_ag_uint : isAggT env.P 133 = some false := by kernel_rfl
theorem ty_z_uint : zeroA env.P 133 = some (.d (.int .u64 0)) := by kernel_rfl
theorem ty_i_uint : (env.P.info? 133).isSome = true := by kernel_rfl
theorem ty_u_sl_impl_Automaton : env.P.underlying 145 = some (.slice 59) := by kernel_rfl
theorem ty_el_sl_impl_Automaton : elemT env.P 145 = some 59 := by simp only [elemT, ty_u_sl_impl_Automaton]
theorem ty_c_sl_impl_Automaton : env.P.cellsOf 145 = 1 := by kernel_rfl
theorem ty_e_sl_impl_Automaton : elemOk env.P 145 = true := by kernel_rfl
theorem ty_ag_sl_impl_Automaton : isAggT env.P 145 = some false := by kernel_rfl
theorem ty_z_sl_impl_Automaton : zeroA env.P 145 = some (.d (.nils)) := by kernel_rfl
theorem ty_i_sl_impl_Automaton : (env.P.info? 145).isSome = true := by kernel_rfl
theorem ty_u_sl_impl_System : env.P.underlying 146 = some (.slice 45) := by kernel_rfl
theorem ty_el_sl_impl_System : elemT env.P 146 = some 45 := by simp only [elemT, ty_u_sl_impl_System]
theorem ty_c_sl_impl_System : env.P.cellsOf 146 = 1 := by kernel_rfl
theorem ty_e_sl_impl_System : elemOk env.P 146 = true := by kernel_rfl
theorem ty_ag_sl_impl_System : isAggT env.P 146 = some false := by kernel_rfl
theorem ty_z_sl_impl_System : zeroA env.P 146 = some (.d (.nils)) := by kernel_rfl
theorem ty_i_sl_impl_System : (env.P.info? 146).isSome = true := by kernel_rfl
theorem ty_st_struct_Parts_sl_impl_System_Autos_sl_impl_Automaton_Start_sl_int_Letters_int_Kind_int_Goal_int : structOK env.P 147 = true := by kernel_rfl
theorem ty_fo_struct_Parts_sl_impl_System_Autos_sl_impl_Automaton_Start_sl_int_Letters_int_Kind_int_Goal_int_0 : fieldOff env.P 147 0 = some (0, 146) := by kernel_rfl
theorem ty_oo_struct_Parts_sl_impl_System_Autos_sl_impl_Automaton_Start_sl_int_Letters_int_Kind_int_Goal_int_0 : offOf env.P 147 0 = some (0, 1) := by kernel_rfl
theorem ty_fo_struct_Parts_sl_impl_System_Autos_sl_impl_Automaton_Start_sl_int_Letters_int_Kind_int_Goal_int_1 : fieldOff env.P 147 1 = some (1, 145) := by kernel_rfl
theorem ty_oo_struct_Parts_sl_impl_System_Autos_sl_impl_Automaton_Start_sl_int_Letters_int_Kind_int_Goal_int_1 : offOf env.P 147 1 = some (1, 1) := by kernel_rfl
theorem ty_fo_struct_Parts_sl_impl_System_Autos_sl_impl_Automaton_Start_sl_int_Letters_int_Kind_int_Goal_int_2 : fieldOff env.P 147 2 = some (2, 92) := by kernel_rfl
theorem ty_oo_struct_Parts_sl_impl_System_Autos_sl_impl_Automaton_Start_sl_int_Letters_int_Kind_int_Goal_int_2 : offOf env.P 147 2 = some (2, 1) := by kernel_rfl
theorem ty_fo_struct_Parts_sl_impl_System_Autos_sl_impl_Automaton_Start_sl_int_Letters_int_Kind_int_Goal_int_3 : fieldOff env.P 147 3 = some (3, 3) := by kernel_rfl
theorem ty_oo_struct_Parts_sl_impl_System_Autos_sl_impl_Automaton_Start_sl_int_Letters_int_Kind_int_Goal_int_3 : offOf env.P 147 3 = some (3, 1) := by kernel_rfl
theorem ty_fo_struct_Parts_sl_impl_System_Autos_sl_impl_Automaton_Start_sl_int_Letters_int_Kind_int_Goal_int_4 : fieldOff env.P 147 4 = some (4, 3) := by kernel_rfl
theorem ty_oo_struct_Parts_sl_impl_System_Autos_sl_impl_Automaton_Start_sl_int_Letters_int_Kind_int_Goal_int_4 : offOf env.P 147 4 = some (4, 1) := by kernel_rfl
theorem ty_fo_struct_Parts_sl_impl_System_Autos_sl_impl_Automaton_Start_sl_int_Letters_int_Kind_int_Goal_int_5 : fieldOff env.P 147 5 = some (5, 3) := by kernel_rfl
theorem ty_oo_struct_Parts_sl_impl_System_Autos_sl_impl_Automaton_Start_sl_int_Letters_int_Kind_int_Goal_int_5 : offOf env.P 147 5 = some (5, 1) := by kernel_rfl
theorem ty_el_struct_Parts_sl_impl_System_Autos_sl_impl_Automaton_Start_sl_int_Letters_int_Kind_int_Goal_int : elemT env.P 147 = none := by kernel_rfl
theorem ty_c_struct_Parts_sl_impl_System_Autos_sl_impl_Automaton_Start_sl_int_Letters_int_Kind_int_Goal_int : env.P.cellsOf 147 = 6 := by kernel_rfl
theorem ty_e_struct_Parts_sl_impl_System_Autos_sl_impl_Automaton_Start_sl_int_Letters_int_Kind_int_Goal_int : elemOk env.P 147 = true := by kernel_rfl
theorem ty_ag_struct_Parts_sl_impl_System_Autos_sl_impl_Automaton_Start_sl_int_Letters_int_Kind_int_Goal_int : isAggT env.P 147 = some true := by kernel_rfl
theorem ty_z_struct_Parts_sl_impl_System_Autos_sl_impl_Automaton_Start_sl_int_Letters_int_Kind_int_Goal_int : zeroA env.P 147 = some (.agg [.d (.nils), .d (.nils), .d (.nils), .d (.int .i64 0), .d (.int .i64 0), .d (.int .i64 0)]) := by kernel_rfl
theorem ty_i_struct_Parts_sl_impl_System_Autos_sl_impl_Automaton_Start_sl_int_Letters_int_Kind_int_Goal_int : (env.P.info? 147).isSome = true := by kernel_rfl
theorem ty_st_spec_l4Net : structOK env.P 148 = true := by kernel_rfl
theorem ty_fo_spec_l4Net_0 : fieldOff env.P 148 0 = some (0, 146) := by kernel_rfl
theorem ty_oo_spec_l4Net_0 : offOf env.P 148 0 = some (0, 1) := by kernel_rfl
theorem ty_fo_spec_l4Net_1 : fieldOff env.P 148 1 = some (1, 145) := by kernel_rfl
theorem ty_oo_spec_l4Net_1 : offOf env.P 148 1 = some (1, 1) := by kernel_rfl
theorem ty_fo_spec_l4Net_2 : fieldOff env.P 148 2 = some (2, 92) := by kernel_rfl
theorem ty_oo_spec_l4Net_2 : offOf env.P 148 2 = some (2, 1) := by kernel_rfl
theorem ty_fo_spec_l4Net_3 : fieldOff env.P 148 3 = some (3, 3) := by kernel_rfl
theorem ty_oo_spec_l4Net_3 : offOf env.P 148 3 = some (3, 1) := by kernel_rfl
theorem ty_fo_spec_l4Net_4 : fieldOff env.P 148 4 = some (4, 3) := by kernel_rfl
theorem ty_oo_spec_l4Net_4 : offOf env.P 148 4 = some (4, 1) := by kernel_rfl
theorem ty_fo_spec_l4Net_5 : fieldOff env.P 148 5 = some (5, 3) := by kernel_rfl
theorem ty_oo_spec_l4Net_5 : offOf env.P 148 5 = some (5, 1) := by kernel_rfl
theorem ty_el_spec_l4Net : elemT env.P 148 = none := by kernel_rfl
theorem ty_c_spec_l4Net : env.P.cellsOf 148 = 6 := by kernel_rfl
theorem ty_e_spec_l4Net : elemOk env.P 148 = true := by kernel_rfl
theorem ty_ag_spec_l4Net : isAggT env.P 148 = some true := by kernel_rfl
theorem ty_z_spec_l4Net : zeroA env.P 148 = some (.agg [.d (.nils), .d (.nils), .d (.nils), .d (.int .i64 0), .d (.int .i64 0), .d (.int .i64 0)]) := by kernel_rfl
theorem ty_i_spec_l4Net : (env.P.info? 148).isSome = true := by kernel_rfl
theorem ty_u_sl_sl_sl_int : env.P.underlying 161 = some (.slice 54) := by kernel_rfl
theorem ty_el_sl_sl_sl_int : elemT env.P 161 = some 54 := by simp only [elemT, ty_u_sl_sl_sl_int]
theorem ty_c_sl_sl_sl_int : env.P.cellsOf 161 = 1 := by kernel_rfl
theorem ty_e_sl_sl_sl_int : elemOk env.P 161 = true := by kernel_rfl
theorem ty_ag_sl_sl_sl_int : isAggT env.P 161 = some false := by kernel_rfl
theorem ty_z_sl_sl_sl_int : zeroA env.P 161 = some (.d (.nils)) := by kernel_rfl
theorem ty_i_sl_sl_sl_int : (env.P.info? 161).isSome = true := by kernel_rfl
theorem ty_u_slices_sortedHint : env.P.underlying 171 = some (.int .i64) := by kernel_rfl
theorem ty_el_slices_sortedHint : elemT env.P 171 = none := by kernel_rfl
theorem ty_c_slices_sortedHint : env.P.cellsOf 171 = 1 := by kernel_rfl
theorem ty_e_slices_sortedHint : elemOk env.P 171 = true := by kernel_rfl
theorem ty_ag_slices_sortedHint : isAggT env.P 171 = some false := by kernel_rfl
theorem ty_z_slices_sortedHint : zeroA env.P 171 = some (.d (.int .i64 0)) := by kernel_rfl
theorem ty_i_slices_sortedHint : (env.P.info? 171).isSome = true := by kernel_rfl
theorem ty_u_uint32 : env.P.underlying 178 = some (.int .u32) := by kernel_rfl
theorem ty_el_uint32 : elemT env.P 178 = none := by kernel_rfl
theorem ty_c_uint32 : env.P.cellsOf 178 = 1 := by kernel_rfl
theorem ty_e_uint32 : elemOk env.P 178 = true := by kernel_rfl
theorem ty_ag_uint32 : isAggT env.P 178 = some false := by kernel_rfl
theorem ty_z_uint32 : zeroA env.P 178 = some (.d (.int .u32 0)) := by kernel_rfl
theorem ty_i_uint32 : (env.P.info? 178).isSome = true := by kernel_rfl
theorem ty_u_uint64 : env.P.underlying 180 = some (.int .u64) := by kernel_rfl
theorem ty_el_uint64 : elemT env.P 180 = none := by kernel_rfl
theorem ty_c_uint64 : env.P.cellsOf 180 = 1 := by kernel_rfl
theorem ty_e_uint64 : elemOk env.P 180 = true := by kernel_rfl
theorem ty_ag_uint64 : isAggT env.P 180 = some false := by kernel_rfl
theorem ty_z_uint64 : zeroA env.P 180 = some (.d (.int .u64 0)) := by kernel_rfl
theorem ty_i_uint64 : (env.P.info? 180).isSome = true := by kernel_rfl
theorem ty_u_sl_impl_searchStep : env.P.underlying 194 = some (.slice 196) := by kernel_rfl
theorem ty_el_sl_impl_searchStep : elemT env.P 194 = some 196 := by simp only [elemT, ty_u_sl_impl_searchStep]
theorem ty_c_sl_impl_searchStep : env.P.cellsOf 194 = 1 := by kernel_rfl
theorem ty_e_sl_impl_searchStep : elemOk env.P 194 = true := by kernel_rfl
theorem ty_ag_sl_impl_searchStep : isAggT env.P 194 = some false := by kernel_rfl
theorem ty_z_sl_impl_searchStep : zeroA env.P 194 = some (.d (.nils)) := by kernel_rfl
theorem ty_i_sl_impl_searchStep : (env.P.info? 194).isSome = true := by kernel_rfl
theorem ty_st_struct_parent_int_letter_int_nodes_sl_int : structOK env.P 195 = true := by kernel_rfl
theorem ty_fo_struct_parent_int_letter_int_nodes_sl_int_0 : fieldOff env.P 195 0 = some (0, 3) := by kernel_rfl
theorem ty_oo_struct_parent_int_letter_int_nodes_sl_int_0 : offOf env.P 195 0 = some (0, 1) := by kernel_rfl
theorem ty_fo_struct_parent_int_letter_int_nodes_sl_int_1 : fieldOff env.P 195 1 = some (1, 3) := by kernel_rfl
theorem ty_oo_struct_parent_int_letter_int_nodes_sl_int_1 : offOf env.P 195 1 = some (1, 1) := by kernel_rfl
theorem ty_fo_struct_parent_int_letter_int_nodes_sl_int_2 : fieldOff env.P 195 2 = some (2, 92) := by kernel_rfl
theorem ty_oo_struct_parent_int_letter_int_nodes_sl_int_2 : offOf env.P 195 2 = some (2, 1) := by kernel_rfl
theorem ty_el_struct_parent_int_letter_int_nodes_sl_int : elemT env.P 195 = none := by kernel_rfl
theorem ty_c_struct_parent_int_letter_int_nodes_sl_int : env.P.cellsOf 195 = 3 := by kernel_rfl
theorem ty_e_struct_parent_int_letter_int_nodes_sl_int : elemOk env.P 195 = true := by kernel_rfl
theorem ty_ag_struct_parent_int_letter_int_nodes_sl_int : isAggT env.P 195 = some true := by kernel_rfl
theorem ty_z_struct_parent_int_letter_int_nodes_sl_int : zeroA env.P 195 = some (.agg [.d (.int .i64 0), .d (.int .i64 0), .d (.nils)]) := by kernel_rfl
theorem ty_i_struct_parent_int_letter_int_nodes_sl_int : (env.P.info? 195).isSome = true := by kernel_rfl
theorem ty_st_impl_searchStep : structOK env.P 196 = true := by kernel_rfl
theorem ty_fo_impl_searchStep_0 : fieldOff env.P 196 0 = some (0, 3) := by kernel_rfl
theorem ty_oo_impl_searchStep_0 : offOf env.P 196 0 = some (0, 1) := by kernel_rfl
theorem ty_fo_impl_searchStep_1 : fieldOff env.P 196 1 = some (1, 3) := by kernel_rfl
theorem ty_oo_impl_searchStep_1 : offOf env.P 196 1 = some (1, 1) := by kernel_rfl
theorem ty_fo_impl_searchStep_2 : fieldOff env.P 196 2 = some (2, 92) := by kernel_rfl
theorem ty_oo_impl_searchStep_2 : offOf env.P 196 2 = some (2, 1) := by kernel_rfl
theorem ty_el_impl_searchStep : elemT env.P 196 = none := by kernel_rfl
theorem ty_c_impl_searchStep : env.P.cellsOf 196 = 3 := by kernel_rfl
theorem ty_e_impl_searchStep : elemOk env.P 196 = true := by kernel_rfl
theorem ty_ag_impl_searchStep : isAggT env.P 196 = some true := by kernel_rfl
theorem ty_z_impl_searchStep : zeroA env.P 196 = some (.agg [.d (.int .i64 0), .d (.int .i64 0), .d (.nils)]) := by kernel_rfl
theorem ty_i_impl_searchStep : (env.P.info? 196).isSome = true := by kernel_rfl
theorem ty_u_slices_xorshift : env.P.underlying 199 = some (.int .u64) := by kernel_rfl
theorem ty_el_slices_xorshift : elemT env.P 199 = none := by kernel_rfl
theorem ty_c_slices_xorshift : env.P.cellsOf 199 = 1 := by kernel_rfl
theorem ty_e_slices_xorshift : elemOk env.P 199 = true := by kernel_rfl
theorem ty_ag_slices_xorshift : isAggT env.P 199 = some false := by kernel_rfl
theorem ty_z_slices_xorshift : zeroA env.P 199 = some (.d (.int .u64 0)) := by kernel_rfl
theorem ty_i_slices_xorshift : (env.P.info? 199).isSome = true := by kernel_rfl
theorem ty_u_ptr_int : env.P.underlying 203 = some (.pointer 3) := by kernel_rfl
theorem ty_el_ptr_int : elemT env.P 203 = none := by kernel_rfl
theorem ty_c_ptr_int : env.P.cellsOf 203 = 1 := by kernel_rfl
theorem ty_e_ptr_int : elemOk env.P 203 = true := by kernel_rfl
theorem ty_ag_ptr_int : isAggT env.P 203 = some false := by kernel_rfl
theorem ty_z_ptr_int : zeroA env.P 203 = some (.d (.nilp)) := by kernel_rfl
theorem ty_i_ptr_int : (env.P.info? 203).isSome = true := by kernel_rfl
theorem ty_u_ptr_slices_xorshift : env.P.underlying 206 = some (.pointer 199) := by kernel_rfl
theorem ty_el_ptr_slices_xorshift : elemT env.P 206 = none := by kernel_rfl
theorem ty_c_ptr_slices_xorshift : env.P.cellsOf 206 = 1 := by kernel_rfl
theorem ty_e_ptr_slices_xorshift : elemOk env.P 206 = true := by kernel_rfl
theorem ty_ag_ptr_slices_xorshift : isAggT env.P 206 = some false := by kernel_rfl
theorem ty_z_ptr_slices_xorshift : zeroA env.P 206 = some (.d (.nilp)) := by kernel_rfl
theorem ty_i_ptr_slices_xorshift : (env.P.info? 206).isSome = true := by kernel_rfl
theorem ty_u_ptr_uint8 : env.P.underlying 218 = some (.pointer 5) := by kernel_rfl
theorem ty_el_ptr_uint8 : elemT env.P 218 = none := by kernel_rfl
theorem ty_c_ptr_uint8 : env.P.cellsOf 218 = 1 := by kernel_rfl
theorem ty_e_ptr_uint8 : elemOk env.P 218 = true := by kernel_rfl
theorem ty_ag_ptr_uint8 : isAggT env.P 218 = some false := by kernel_rfl
theorem ty_z_ptr_uint8 : zeroA env.P 218 = some (.d (.nilp)) := by kernel_rfl
theorem ty_i_ptr_uint8 : (env.P.info? 218).isSome = true := by kernel_rfl
theorem ty_el_unsafe_Pointer : elemT env.P 223 = none := by kernel_rfl
theorem ty_c_unsafe_Pointer : env.P.cellsOf 223 = 1 := by kernel_rfl
theorem ty_e_unsafe_Pointer : elemOk env.P 223 = true := by kernel_rfl
theorem ty_ag_unsafe_Pointer : isAggT env.P 223 = some false := by kernel_rfl
theorem ty_z_unsafe_Pointer : zeroA env.P 223 = some (.d (.nilp)) := by kernel_rfl
theorem ty_i_unsafe_Pointer : (env.P.info? 223).isSome = true := by kernel_rfl
theorem ty_bl_struct_msg_string_addr_uintptr : ∀ parts, aBuild env.P 13 parts = (fillA (cellsA (.agg [.d (.str []), .d (.int .u64 0)])) (parts.map fun p => (offOf env.P 13 p.1, p.2))).map .agg := fun _ => aBuild_struct ty_st_struct_msg_string_addr_uintptr ty_z_struct_msg_string_addr_uintptr
theorem ty_bl_struct_Alphabet_int_States_int_Edges_sl_laws_Edge : ∀ parts, aBuild env.P 38 parts = (fillA (cellsA (.agg [.d (.int .i64 0), .d (.int .i64 0), .d (.nils)])) (parts.map fun p => (offOf env.P 38 p.1, p.2))).map .agg := fun _ => aBuild_struct ty_st_struct_Alphabet_int_States_int_Edges_sl_laws_Edge ty_z_struct_Alphabet_int_States_int_Edges_sl_laws_Edge
theorem ty_bl_laws_System : ∀ parts, aBuild env.P 39 parts = (fillA (cellsA (.agg [.d (.int .i64 0), .d (.int .i64 0), .d (.nils)])) (parts.map fun p => (offOf env.P 39 p.1, p.2))).map .agg := fun _ => aBuild_struct ty_st_laws_System ty_z_laws_System
theorem ty_bl_struct_From_int_Letter_int_To_int : ∀ parts, aBuild env.P 40 parts = (fillA (cellsA (.agg [.d (.int .i64 0), .d (.int .i64 0), .d (.int .i64 0)])) (parts.map fun p => (offOf env.P 40 p.1, p.2))).map .agg := fun _ => aBuild_struct ty_st_struct_From_int_Letter_int_To_int ty_z_struct_From_int_Letter_int_To_int
theorem ty_bl_laws_Edge : ∀ parts, aBuild env.P 41 parts = (fillA (cellsA (.agg [.d (.int .i64 0), .d (.int .i64 0), .d (.int .i64 0)])) (parts.map fun p => (offOf env.P 41 p.1, p.2))).map .agg := fun _ => aBuild_struct ty_st_laws_Edge ty_z_laws_Edge
theorem ty_bl_struct_Alphabet_int_States_int_Edges_sl_impl_Edge : ∀ parts, aBuild env.P 44 parts = (fillA (cellsA (.agg [.d (.int .i64 0), .d (.int .i64 0), .d (.nils)])) (parts.map fun p => (offOf env.P 44 p.1, p.2))).map .agg := fun _ => aBuild_struct ty_st_struct_Alphabet_int_States_int_Edges_sl_impl_Edge ty_z_struct_Alphabet_int_States_int_Edges_sl_impl_Edge
theorem ty_bl_impl_System : ∀ parts, aBuild env.P 45 parts = (fillA (cellsA (.agg [.d (.int .i64 0), .d (.int .i64 0), .d (.nils)])) (parts.map fun p => (offOf env.P 45 p.1, p.2))).map .agg := fun _ => aBuild_struct ty_st_impl_System ty_z_impl_System
theorem ty_bl_impl_Edge : ∀ parts, aBuild env.P 49 parts = (fillA (cellsA (.agg [.d (.int .i64 0), .d (.int .i64 0), .d (.int .i64 0)])) (parts.map fun p => (offOf env.P 49 p.1, p.2))).map .agg := fun _ => aBuild_struct ty_st_impl_Edge ty_z_impl_Edge
theorem ty_bl_struct_Alphabet_int_Next_sl_sl_int_Accept_sl_bool : ∀ parts, aBuild env.P 56 parts = (fillA (cellsA (.agg [.d (.int .i64 0), .d (.nils), .d (.nils)])) (parts.map fun p => (offOf env.P 56 p.1, p.2))).map .agg := fun _ => aBuild_struct ty_st_struct_Alphabet_int_Next_sl_sl_int_Accept_sl_bool ty_z_struct_Alphabet_int_Next_sl_sl_int_Accept_sl_bool
theorem ty_bl_laws_Automaton : ∀ parts, aBuild env.P 57 parts = (fillA (cellsA (.agg [.d (.int .i64 0), .d (.nils), .d (.nils)])) (parts.map fun p => (offOf env.P 57 p.1, p.2))).map .agg := fun _ => aBuild_struct ty_st_laws_Automaton ty_z_laws_Automaton
theorem ty_bl_impl_Automaton : ∀ parts, aBuild env.P 59 parts = (fillA (cellsA (.agg [.d (.int .i64 0), .d (.nils), .d (.nils)])) (parts.map fun p => (offOf env.P 59 p.1, p.2))).map .agg := fun _ => aBuild_struct ty_st_impl_Automaton ty_z_impl_Automaton
theorem ty_bl_ar6_int : ∀ parts, aBuild env.P 114 parts = (fillA (cellsA (.agg [.d (.int .i64 0), .d (.int .i64 0), .d (.int .i64 0), .d (.int .i64 0), .d (.int .i64 0), .d (.int .i64 0)])) (parts.map fun p => (some (p.1 * 1, 1), p.2))).map .agg := fun _ => aBuild_array ty_u_ar6_int ty_z_ar6_int ty_i_int ty_c_int
theorem ty_bl_struct_b_sl_uint8_p_int : ∀ parts, aBuild env.P 129 parts = (fillA (cellsA (.agg [.d (.nils), .d (.int .i64 0)])) (parts.map fun p => (offOf env.P 129 p.1, p.2))).map .agg := fun _ => aBuild_struct ty_st_struct_b_sl_uint8_p_int ty_z_struct_b_sl_uint8_p_int
theorem ty_bl_spec_l19Rd : ∀ parts, aBuild env.P 130 parts = (fillA (cellsA (.agg [.d (.nils), .d (.int .i64 0)])) (parts.map fun p => (offOf env.P 130 p.1, p.2))).map .agg := fun _ => aBuild_struct ty_st_spec_l19Rd ty_z_spec_l19Rd
theorem ty_bl_struct_Parts_sl_impl_System_Autos_sl_impl_Automaton_Start_sl_int_Letters_int_Kind_int_Goal_int : ∀ parts, aBuild env.P 147 parts = (fillA (cellsA (.agg [.d (.nils), .d (.nils), .d (.nils), .d (.int .i64 0), .d (.int .i64 0), .d (.int .i64 0)])) (parts.map fun p => (offOf env.P 147 p.1, p.2))).map .agg := fun _ => aBuild_struct ty_st_struct_Parts_sl_impl_System_Autos_sl_impl_Automaton_Start_sl_int_Letters_int_Kind_int_Goal_int ty_z_struct_Parts_sl_impl_System_Autos_sl_impl_Automaton_Start_sl_int_Letters_int_Kind_int_Goal_int
theorem ty_bl_spec_l4Net : ∀ parts, aBuild env.P 148 parts = (fillA (cellsA (.agg [.d (.nils), .d (.nils), .d (.nils), .d (.int .i64 0), .d (.int .i64 0), .d (.int .i64 0)])) (parts.map fun p => (offOf env.P 148 p.1, p.2))).map .agg := fun _ => aBuild_struct ty_st_spec_l4Net ty_z_spec_l4Net
theorem ty_bl_struct_parent_int_letter_int_nodes_sl_int : ∀ parts, aBuild env.P 195 parts = (fillA (cellsA (.agg [.d (.int .i64 0), .d (.int .i64 0), .d (.nils)])) (parts.map fun p => (offOf env.P 195 p.1, p.2))).map .agg := fun _ => aBuild_struct ty_st_struct_parent_int_letter_int_nodes_sl_int ty_z_struct_parent_int_letter_int_nodes_sl_int
theorem ty_bl_impl_searchStep : ∀ parts, aBuild env.P 196 parts = (fillA (cellsA (.agg [.d (.int .i64 0), .d (.int .i64 0), .d (.nils)])) (parts.map fun p => (offOf env.P 196 p.1, p.2))).map .agg := fun _ => aBuild_struct ty_st_impl_searchStep ty_z_impl_searchStep
theorem ty_cv_int_int {h : H} {n : Int} {K : IntKind} : aConvert env.P h 3 3 (.d (.int K n)) = some (.d (.int .i64 (IntKind.wrap .i64 n)), h) := aConv_int ty_u_int ty_u_int
theorem ty_cv_int_uint8 {h : H} {n : Int} {K : IntKind} : aConvert env.P h 3 5 (.d (.int K n)) = some (.d (.int .u8 (IntKind.wrap .u8 n)), h) := aConv_int ty_u_int ty_u_uint8
theorem ty_cv_int_uint {h : H} {n : Int} {K : IntKind} : aConvert env.P h 3 133 (.d (.int K n)) = some (.d (.int .u64 (IntKind.wrap .u64 n)), h) := aConv_int ty_u_int ty_u_uint
theorem ty_cv_uint8_int {h : H} {n : Int} {K : IntKind} : aConvert env.P h 5 3 (.d (.int K n)) = some (.d (.int .i64 (IntKind.wrap .i64 n)), h) := aConv_int ty_u_uint8 ty_u_int
theorem ty_cv_uint8_uint8 {h : H} {n : Int} {K : IntKind} : aConvert env.P h 5 5 (.d (.int K n)) = some (.d (.int .u8 (IntKind.wrap .u8 n)), h) := aConv_int ty_u_uint8 ty_u_uint8
theorem ty_cv_uint8_uint {h : H} {n : Int} {K : IntKind} : aConvert env.P h 5 133 (.d (.int K n)) = some (.d (.int .u64 (IntKind.wrap .u64 n)), h) := aConv_int ty_u_uint8 ty_u_uint
theorem ty_cv_uint_int {h : H} {n : Int} {K : IntKind} : aConvert env.P h 133 3 (.d (.int K n)) = some (.d (.int .i64 (IntKind.wrap .i64 n)), h) := aConv_int ty_u_uint ty_u_int
theorem ty_cv_uint_uint8 {h : H} {n : Int} {K : IntKind} : aConvert env.P h 133 5 (.d (.int K n)) = some (.d (.int .u8 (IntKind.wrap .u8 n)), h) := aConv_int ty_u_uint ty_u_uint8
theorem ty_cv_uint_uint {h : H} {n : Int} {K : IntKind} : aConvert env.P h 133 133 (.d (.int K n)) = some (.d (.int .u64 (IntKind.wrap .u64 n)), h) := aConv_int ty_u_uint ty_u_uint
theorem TY0 : type_of% (And.intro @ty_u_int64 (And.intro @ty_el_int64 (And.intro @ty_c_int64 (And.intro @ty_e_int64 (And.intro @ty_ag_int64 (And.intro @ty_z_int64 (And.intro @ty_i_int64 (And.intro @ty_u_int (And.intro @ty_el_int (And.intro @ty_c_int (And.intro @ty_e_int (And.intro @ty_ag_int (And.intro @ty_z_int (And.intro @ty_i_int (And.intro @ty_u_bool (And.intro @ty_el_bool (And.intro @ty_c_bool (And.intro @ty_e_bool (And.intro @ty_ag_bool (And.intro @ty_z_bool (And.intro @ty_i_bool (And.intro @ty_u_uint8 (And.intro @ty_el_uint8 (And.intro @ty_c_uint8 (And.intro @ty_e_uint8 (And.intro @ty_ag_uint8 (And.intro @ty_z_uint8 (And.intro @ty_i_uint8 (And.intro @ty_u_string (And.intro @ty_el_string (And.intro @ty_c_string (And.intro @ty_e_string (And.intro @ty_ag_string (And.intro @ty_z_string (And.intro @ty_i_string (And.intro @ty_u_uintptr (And.intro @ty_el_uintptr (And.intro @ty_c_uintptr (And.intro @ty_e_uintptr @ty_ag_uintptr))))))))))))))))))))))))))))))))))))))) := (And.intro @ty_u_int64 (And.intro @ty_el_int64 (And.intro @ty_c_int64 (And.intro @ty_e_int64 (And.intro @ty_ag_int64 (And.intro @ty_z_int64 (And.intro @ty_i_int64 (And.intro @ty_u_int (And.intro @ty_el_int (And.intro @ty_c_int (And.intro @ty_e_int (And.intro @ty_ag_int (And.intro @ty_z_int (And.intro @ty_i_int (And.intro @ty_u_bool (And.intro @ty_el_bool (And.intro @ty_c_bool (And.intro @ty_e_bool (And.intro @ty_ag_bool (And.intro @ty_z_bool (And.intro @ty_i_bool (And.intro @ty_u_uint8 (And.intro @ty_el_uint8 (And.intro @ty_c_uint8 (And.intro @ty_e_uint8 (And.intro @ty_ag_uint8 (And.intro @ty_z_uint8 (And.intro @ty_i_uint8 (And.intro @ty_u_string (And.intro @ty_el_string (And.intro @ty_c_string (And.intro @ty_e_string (And.intro @ty_ag_string (And.intro @ty_z_string (And.intro @ty_i_string (And.intro @ty_u_uintptr (And.intro @ty_el_uintptr (And.intro @ty_c_uintptr (And.intro @ty_e_uintptr @ty_ag_uintptr)))))))))))))))))))))))))))))))))))))))
theorem TY1 : type_of% (And.intro @ty_z_uintptr (And.intro @ty_i_uintptr (And.intro @ty_st_struct_msg_string_addr_uintptr (And.intro @ty_fo_struct_msg_string_addr_uintptr_0 (And.intro @ty_oo_struct_msg_string_addr_uintptr_0 (And.intro @ty_fo_struct_msg_string_addr_uintptr_1 (And.intro @ty_oo_struct_msg_string_addr_uintptr_1 (And.intro @ty_el_struct_msg_string_addr_uintptr (And.intro @ty_c_struct_msg_string_addr_uintptr (And.intro @ty_e_struct_msg_string_addr_uintptr (And.intro @ty_ag_struct_msg_string_addr_uintptr (And.intro @ty_z_struct_msg_string_addr_uintptr (And.intro @ty_bl_struct_msg_string_addr_uintptr (And.intro @ty_i_struct_msg_string_addr_uintptr (And.intro @ty_el_interface (And.intro @ty_c_interface (And.intro @ty_e_interface (And.intro @ty_ag_interface (And.intro @ty_z_interface (And.intro @ty_i_interface (And.intro @ty_u_int32 (And.intro @ty_el_int32 (And.intro @ty_c_int32 (And.intro @ty_e_int32 (And.intro @ty_ag_int32 (And.intro @ty_z_int32 (And.intro @ty_i_int32 (And.intro @ty_u_sl_uint8 (And.intro @ty_el_sl_uint8 (And.intro @ty_c_sl_uint8 (And.intro @ty_e_sl_uint8 (And.intro @ty_ag_sl_uint8 (And.intro @ty_z_sl_uint8 (And.intro @ty_i_sl_uint8 (And.intro @ty_u_sl_laws_Edge (And.intro @ty_el_sl_laws_Edge (And.intro @ty_c_sl_laws_Edge (And.intro @ty_e_sl_laws_Edge (And.intro @ty_ag_sl_laws_Edge @ty_z_sl_laws_Edge))))))))))))))))))))))))))))))))))))))) := (And.intro @ty_z_uintptr (And.intro @ty_i_uintptr (And.intro @ty_st_struct_msg_string_addr_uintptr (And.intro @ty_fo_struct_msg_string_addr_uintptr_0 (And.intro @ty_oo_struct_msg_string_addr_uintptr_0 (And.intro @ty_fo_struct_msg_string_addr_uintptr_1 (And.intro @ty_oo_struct_msg_string_addr_uintptr_1 (And.intro @ty_el_struct_msg_string_addr_uintptr (And.intro @ty_c_struct_msg_string_addr_uintptr (And.intro @ty_e_struct_msg_string_addr_uintptr (And.intro @ty_ag_struct_msg_string_addr_uintptr (And.intro @ty_z_struct_msg_string_addr_uintptr (And.intro @ty_bl_struct_msg_string_addr_uintptr (And.intro @ty_i_struct_msg_string_addr_uintptr (And.intro @ty_el_interface (And.intro @ty_c_interface (And.intro @ty_e_interface (And.intro @ty_ag_interface (And.intro @ty_z_interface (And.intro @ty_i_interface (And.intro @ty_u_int32 (And.intro @ty_el_int32 (And.intro @ty_c_int32 (And.intro @ty_e_int32 (And.intro @ty_ag_int32 (And.intro @ty_z_int32 (And.intro @ty_i_int32 (And.intro @ty_u_sl_uint8 (And.intro @ty_el_sl_uint8 (And.intro @ty_c_sl_uint8 (And.intro @ty_e_sl_uint8 (And.intro @ty_ag_sl_uint8 (And.intro @ty_z_sl_uint8 (And.intro @ty_i_sl_uint8 (And.intro @ty_u_sl_laws_Edge (And.intro @ty_el_sl_laws_Edge (And.intro @ty_c_sl_laws_Edge (And.intro @ty_e_sl_laws_Edge (And.intro @ty_ag_sl_laws_Edge @ty_z_sl_laws_Edge)))))))))))))))))))))))))))))))))))))))
theorem TY2 : type_of% (And.intro @ty_i_sl_laws_Edge (And.intro @ty_st_struct_Alphabet_int_States_int_Edges_sl_laws_Edge (And.intro @ty_fo_struct_Alphabet_int_States_int_Edges_sl_laws_Edge_0 (And.intro @ty_oo_struct_Alphabet_int_States_int_Edges_sl_laws_Edge_0 (And.intro @ty_fo_struct_Alphabet_int_States_int_Edges_sl_laws_Edge_1 (And.intro @ty_oo_struct_Alphabet_int_States_int_Edges_sl_laws_Edge_1 (And.intro @ty_fo_struct_Alphabet_int_States_int_Edges_sl_laws_Edge_2 (And.intro @ty_oo_struct_Alphabet_int_States_int_Edges_sl_laws_Edge_2 (And.intro @ty_el_struct_Alphabet_int_States_int_Edges_sl_laws_Edge (And.intro @ty_c_struct_Alphabet_int_States_int_Edges_sl_laws_Edge (And.intro @ty_e_struct_Alphabet_int_States_int_Edges_sl_laws_Edge (And.intro @ty_ag_struct_Alphabet_int_States_int_Edges_sl_laws_Edge (And.intro @ty_z_struct_Alphabet_int_States_int_Edges_sl_laws_Edge (And.intro @ty_bl_struct_Alphabet_int_States_int_Edges_sl_laws_Edge (And.intro @ty_i_struct_Alphabet_int_States_int_Edges_sl_laws_Edge (And.intro @ty_st_laws_System (And.intro @ty_fo_laws_System_0 (And.intro @ty_oo_laws_System_0 (And.intro @ty_fo_laws_System_1 (And.intro @ty_oo_laws_System_1 (And.intro @ty_fo_laws_System_2 (And.intro @ty_oo_laws_System_2 (And.intro @ty_el_laws_System (And.intro @ty_c_laws_System (And.intro @ty_e_laws_System (And.intro @ty_ag_laws_System (And.intro @ty_z_laws_System (And.intro @ty_bl_laws_System (And.intro @ty_i_laws_System (And.intro @ty_st_struct_From_int_Letter_int_To_int (And.intro @ty_fo_struct_From_int_Letter_int_To_int_0 (And.intro @ty_oo_struct_From_int_Letter_int_To_int_0 (And.intro @ty_fo_struct_From_int_Letter_int_To_int_1 (And.intro @ty_oo_struct_From_int_Letter_int_To_int_1 (And.intro @ty_fo_struct_From_int_Letter_int_To_int_2 (And.intro @ty_oo_struct_From_int_Letter_int_To_int_2 (And.intro @ty_el_struct_From_int_Letter_int_To_int (And.intro @ty_c_struct_From_int_Letter_int_To_int (And.intro @ty_e_struct_From_int_Letter_int_To_int @ty_ag_struct_From_int_Letter_int_To_int))))))))))))))))))))))))))))))))))))))) := (And.intro @ty_i_sl_laws_Edge (And.intro @ty_st_struct_Alphabet_int_States_int_Edges_sl_laws_Edge (And.intro @ty_fo_struct_Alphabet_int_States_int_Edges_sl_laws_Edge_0 (And.intro @ty_oo_struct_Alphabet_int_States_int_Edges_sl_laws_Edge_0 (And.intro @ty_fo_struct_Alphabet_int_States_int_Edges_sl_laws_Edge_1 (And.intro @ty_oo_struct_Alphabet_int_States_int_Edges_sl_laws_Edge_1 (And.intro @ty_fo_struct_Alphabet_int_States_int_Edges_sl_laws_Edge_2 (And.intro @ty_oo_struct_Alphabet_int_States_int_Edges_sl_laws_Edge_2 (And.intro @ty_el_struct_Alphabet_int_States_int_Edges_sl_laws_Edge (And.intro @ty_c_struct_Alphabet_int_States_int_Edges_sl_laws_Edge (And.intro @ty_e_struct_Alphabet_int_States_int_Edges_sl_laws_Edge (And.intro @ty_ag_struct_Alphabet_int_States_int_Edges_sl_laws_Edge (And.intro @ty_z_struct_Alphabet_int_States_int_Edges_sl_laws_Edge (And.intro @ty_bl_struct_Alphabet_int_States_int_Edges_sl_laws_Edge (And.intro @ty_i_struct_Alphabet_int_States_int_Edges_sl_laws_Edge (And.intro @ty_st_laws_System (And.intro @ty_fo_laws_System_0 (And.intro @ty_oo_laws_System_0 (And.intro @ty_fo_laws_System_1 (And.intro @ty_oo_laws_System_1 (And.intro @ty_fo_laws_System_2 (And.intro @ty_oo_laws_System_2 (And.intro @ty_el_laws_System (And.intro @ty_c_laws_System (And.intro @ty_e_laws_System (And.intro @ty_ag_laws_System (And.intro @ty_z_laws_System (And.intro @ty_bl_laws_System (And.intro @ty_i_laws_System (And.intro @ty_st_struct_From_int_Letter_int_To_int (And.intro @ty_fo_struct_From_int_Letter_int_To_int_0 (And.intro @ty_oo_struct_From_int_Letter_int_To_int_0 (And.intro @ty_fo_struct_From_int_Letter_int_To_int_1 (And.intro @ty_oo_struct_From_int_Letter_int_To_int_1 (And.intro @ty_fo_struct_From_int_Letter_int_To_int_2 (And.intro @ty_oo_struct_From_int_Letter_int_To_int_2 (And.intro @ty_el_struct_From_int_Letter_int_To_int (And.intro @ty_c_struct_From_int_Letter_int_To_int (And.intro @ty_e_struct_From_int_Letter_int_To_int @ty_ag_struct_From_int_Letter_int_To_int)))))))))))))))))))))))))))))))))))))))
theorem TY3 : type_of% (And.intro @ty_z_struct_From_int_Letter_int_To_int (And.intro @ty_bl_struct_From_int_Letter_int_To_int (And.intro @ty_i_struct_From_int_Letter_int_To_int (And.intro @ty_st_laws_Edge (And.intro @ty_fo_laws_Edge_0 (And.intro @ty_oo_laws_Edge_0 (And.intro @ty_fo_laws_Edge_1 (And.intro @ty_oo_laws_Edge_1 (And.intro @ty_fo_laws_Edge_2 (And.intro @ty_oo_laws_Edge_2 (And.intro @ty_el_laws_Edge (And.intro @ty_c_laws_Edge (And.intro @ty_e_laws_Edge (And.intro @ty_ag_laws_Edge (And.intro @ty_z_laws_Edge (And.intro @ty_bl_laws_Edge (And.intro @ty_i_laws_Edge (And.intro @ty_u_sl_impl_Edge (And.intro @ty_el_sl_impl_Edge (And.intro @ty_c_sl_impl_Edge (And.intro @ty_e_sl_impl_Edge (And.intro @ty_ag_sl_impl_Edge (And.intro @ty_z_sl_impl_Edge (And.intro @ty_i_sl_impl_Edge (And.intro @ty_st_struct_Alphabet_int_States_int_Edges_sl_impl_Edge (And.intro @ty_fo_struct_Alphabet_int_States_int_Edges_sl_impl_Edge_0 (And.intro @ty_oo_struct_Alphabet_int_States_int_Edges_sl_impl_Edge_0 (And.intro @ty_fo_struct_Alphabet_int_States_int_Edges_sl_impl_Edge_1 (And.intro @ty_oo_struct_Alphabet_int_States_int_Edges_sl_impl_Edge_1 (And.intro @ty_fo_struct_Alphabet_int_States_int_Edges_sl_impl_Edge_2 (And.intro @ty_oo_struct_Alphabet_int_States_int_Edges_sl_impl_Edge_2 (And.intro @ty_el_struct_Alphabet_int_States_int_Edges_sl_impl_Edge (And.intro @ty_c_struct_Alphabet_int_States_int_Edges_sl_impl_Edge (And.intro @ty_e_struct_Alphabet_int_States_int_Edges_sl_impl_Edge (And.intro @ty_ag_struct_Alphabet_int_States_int_Edges_sl_impl_Edge (And.intro @ty_z_struct_Alphabet_int_States_int_Edges_sl_impl_Edge (And.intro @ty_bl_struct_Alphabet_int_States_int_Edges_sl_impl_Edge (And.intro @ty_i_struct_Alphabet_int_States_int_Edges_sl_impl_Edge (And.intro @ty_st_impl_System @ty_fo_impl_System_0))))))))))))))))))))))))))))))))))))))) := (And.intro @ty_z_struct_From_int_Letter_int_To_int (And.intro @ty_bl_struct_From_int_Letter_int_To_int (And.intro @ty_i_struct_From_int_Letter_int_To_int (And.intro @ty_st_laws_Edge (And.intro @ty_fo_laws_Edge_0 (And.intro @ty_oo_laws_Edge_0 (And.intro @ty_fo_laws_Edge_1 (And.intro @ty_oo_laws_Edge_1 (And.intro @ty_fo_laws_Edge_2 (And.intro @ty_oo_laws_Edge_2 (And.intro @ty_el_laws_Edge (And.intro @ty_c_laws_Edge (And.intro @ty_e_laws_Edge (And.intro @ty_ag_laws_Edge (And.intro @ty_z_laws_Edge (And.intro @ty_bl_laws_Edge (And.intro @ty_i_laws_Edge (And.intro @ty_u_sl_impl_Edge (And.intro @ty_el_sl_impl_Edge (And.intro @ty_c_sl_impl_Edge (And.intro @ty_e_sl_impl_Edge (And.intro @ty_ag_sl_impl_Edge (And.intro @ty_z_sl_impl_Edge (And.intro @ty_i_sl_impl_Edge (And.intro @ty_st_struct_Alphabet_int_States_int_Edges_sl_impl_Edge (And.intro @ty_fo_struct_Alphabet_int_States_int_Edges_sl_impl_Edge_0 (And.intro @ty_oo_struct_Alphabet_int_States_int_Edges_sl_impl_Edge_0 (And.intro @ty_fo_struct_Alphabet_int_States_int_Edges_sl_impl_Edge_1 (And.intro @ty_oo_struct_Alphabet_int_States_int_Edges_sl_impl_Edge_1 (And.intro @ty_fo_struct_Alphabet_int_States_int_Edges_sl_impl_Edge_2 (And.intro @ty_oo_struct_Alphabet_int_States_int_Edges_sl_impl_Edge_2 (And.intro @ty_el_struct_Alphabet_int_States_int_Edges_sl_impl_Edge (And.intro @ty_c_struct_Alphabet_int_States_int_Edges_sl_impl_Edge (And.intro @ty_e_struct_Alphabet_int_States_int_Edges_sl_impl_Edge (And.intro @ty_ag_struct_Alphabet_int_States_int_Edges_sl_impl_Edge (And.intro @ty_z_struct_Alphabet_int_States_int_Edges_sl_impl_Edge (And.intro @ty_bl_struct_Alphabet_int_States_int_Edges_sl_impl_Edge (And.intro @ty_i_struct_Alphabet_int_States_int_Edges_sl_impl_Edge (And.intro @ty_st_impl_System @ty_fo_impl_System_0)))))))))))))))))))))))))))))))))))))))
theorem TY4 : type_of% (And.intro @ty_oo_impl_System_0 (And.intro @ty_fo_impl_System_1 (And.intro @ty_oo_impl_System_1 (And.intro @ty_fo_impl_System_2 (And.intro @ty_oo_impl_System_2 (And.intro @ty_el_impl_System (And.intro @ty_c_impl_System (And.intro @ty_e_impl_System (And.intro @ty_ag_impl_System (And.intro @ty_z_impl_System (And.intro @ty_bl_impl_System (And.intro @ty_i_impl_System (And.intro @ty_st_impl_Edge (And.intro @ty_fo_impl_Edge_0 (And.intro @ty_oo_impl_Edge_0 (And.intro @ty_fo_impl_Edge_1 (And.intro @ty_oo_impl_Edge_1 (And.intro @ty_fo_impl_Edge_2 (And.intro @ty_oo_impl_Edge_2 (And.intro @ty_el_impl_Edge (And.intro @ty_c_impl_Edge (And.intro @ty_e_impl_Edge (And.intro @ty_ag_impl_Edge (And.intro @ty_z_impl_Edge (And.intro @ty_bl_impl_Edge (And.intro @ty_i_impl_Edge (And.intro @ty_u_sl_sl_int (And.intro @ty_el_sl_sl_int (And.intro @ty_c_sl_sl_int (And.intro @ty_e_sl_sl_int (And.intro @ty_ag_sl_sl_int (And.intro @ty_z_sl_sl_int (And.intro @ty_i_sl_sl_int (And.intro @ty_u_sl_bool (And.intro @ty_el_sl_bool (And.intro @ty_c_sl_bool (And.intro @ty_e_sl_bool (And.intro @ty_ag_sl_bool (And.intro @ty_z_sl_bool @ty_i_sl_bool))))))))))))))))))))))))))))))))))))))) := (And.intro @ty_oo_impl_System_0 (And.intro @ty_fo_impl_System_1 (And.intro @ty_oo_impl_System_1 (And.intro @ty_fo_impl_System_2 (And.intro @ty_oo_impl_System_2 (And.intro @ty_el_impl_System (And.intro @ty_c_impl_System (And.intro @ty_e_impl_System (And.intro @ty_ag_impl_System (And.intro @ty_z_impl_System (And.intro @ty_bl_impl_System (And.intro @ty_i_impl_System (And.intro @ty_st_impl_Edge (And.intro @ty_fo_impl_Edge_0 (And.intro @ty_oo_impl_Edge_0 (And.intro @ty_fo_impl_Edge_1 (And.intro @ty_oo_impl_Edge_1 (And.intro @ty_fo_impl_Edge_2 (And.intro @ty_oo_impl_Edge_2 (And.intro @ty_el_impl_Edge (And.intro @ty_c_impl_Edge (And.intro @ty_e_impl_Edge (And.intro @ty_ag_impl_Edge (And.intro @ty_z_impl_Edge (And.intro @ty_bl_impl_Edge (And.intro @ty_i_impl_Edge (And.intro @ty_u_sl_sl_int (And.intro @ty_el_sl_sl_int (And.intro @ty_c_sl_sl_int (And.intro @ty_e_sl_sl_int (And.intro @ty_ag_sl_sl_int (And.intro @ty_z_sl_sl_int (And.intro @ty_i_sl_sl_int (And.intro @ty_u_sl_bool (And.intro @ty_el_sl_bool (And.intro @ty_c_sl_bool (And.intro @ty_e_sl_bool (And.intro @ty_ag_sl_bool (And.intro @ty_z_sl_bool @ty_i_sl_bool)))))))))))))))))))))))))))))))))))))))
theorem TY5 : type_of% (And.intro @ty_st_struct_Alphabet_int_Next_sl_sl_int_Accept_sl_bool (And.intro @ty_fo_struct_Alphabet_int_Next_sl_sl_int_Accept_sl_bool_0 (And.intro @ty_oo_struct_Alphabet_int_Next_sl_sl_int_Accept_sl_bool_0 (And.intro @ty_fo_struct_Alphabet_int_Next_sl_sl_int_Accept_sl_bool_1 (And.intro @ty_oo_struct_Alphabet_int_Next_sl_sl_int_Accept_sl_bool_1 (And.intro @ty_fo_struct_Alphabet_int_Next_sl_sl_int_Accept_sl_bool_2 (And.intro @ty_oo_struct_Alphabet_int_Next_sl_sl_int_Accept_sl_bool_2 (And.intro @ty_el_struct_Alphabet_int_Next_sl_sl_int_Accept_sl_bool (And.intro @ty_c_struct_Alphabet_int_Next_sl_sl_int_Accept_sl_bool (And.intro @ty_e_struct_Alphabet_int_Next_sl_sl_int_Accept_sl_bool (And.intro @ty_ag_struct_Alphabet_int_Next_sl_sl_int_Accept_sl_bool (And.intro @ty_z_struct_Alphabet_int_Next_sl_sl_int_Accept_sl_bool (And.intro @ty_bl_struct_Alphabet_int_Next_sl_sl_int_Accept_sl_bool (And.intro @ty_i_struct_Alphabet_int_Next_sl_sl_int_Accept_sl_bool (And.intro @ty_st_laws_Automaton (And.intro @ty_fo_laws_Automaton_0 (And.intro @ty_oo_laws_Automaton_0 (And.intro @ty_fo_laws_Automaton_1 (And.intro @ty_oo_laws_Automaton_1 (And.intro @ty_fo_laws_Automaton_2 (And.intro @ty_oo_laws_Automaton_2 (And.intro @ty_el_laws_Automaton (And.intro @ty_c_laws_Automaton (And.intro @ty_e_laws_Automaton (And.intro @ty_ag_laws_Automaton (And.intro @ty_z_laws_Automaton (And.intro @ty_bl_laws_Automaton (And.intro @ty_i_laws_Automaton (And.intro @ty_st_impl_Automaton (And.intro @ty_fo_impl_Automaton_0 (And.intro @ty_oo_impl_Automaton_0 (And.intro @ty_fo_impl_Automaton_1 (And.intro @ty_oo_impl_Automaton_1 (And.intro @ty_fo_impl_Automaton_2 (And.intro @ty_oo_impl_Automaton_2 (And.intro @ty_el_impl_Automaton (And.intro @ty_c_impl_Automaton (And.intro @ty_e_impl_Automaton (And.intro @ty_ag_impl_Automaton @ty_z_impl_Automaton))))))))))))))))))))))))))))))))))))))) := (And.intro @ty_st_struct_Alphabet_int_Next_sl_sl_int_Accept_sl_bool (And.intro @ty_fo_struct_Alphabet_int_Next_sl_sl_int_Accept_sl_bool_0 (And.intro @ty_oo_struct_Alphabet_int_Next_sl_sl_int_Accept_sl_bool_0 (And.intro @ty_fo_struct_Alphabet_int_Next_sl_sl_int_Accept_sl_bool_1 (And.intro @ty_oo_struct_Alphabet_int_Next_sl_sl_int_Accept_sl_bool_1 (And.intro @ty_fo_struct_Alphabet_int_Next_sl_sl_int_Accept_sl_bool_2 (And.intro @ty_oo_struct_Alphabet_int_Next_sl_sl_int_Accept_sl_bool_2 (And.intro @ty_el_struct_Alphabet_int_Next_sl_sl_int_Accept_sl_bool (And.intro @ty_c_struct_Alphabet_int_Next_sl_sl_int_Accept_sl_bool (And.intro @ty_e_struct_Alphabet_int_Next_sl_sl_int_Accept_sl_bool (And.intro @ty_ag_struct_Alphabet_int_Next_sl_sl_int_Accept_sl_bool (And.intro @ty_z_struct_Alphabet_int_Next_sl_sl_int_Accept_sl_bool (And.intro @ty_bl_struct_Alphabet_int_Next_sl_sl_int_Accept_sl_bool (And.intro @ty_i_struct_Alphabet_int_Next_sl_sl_int_Accept_sl_bool (And.intro @ty_st_laws_Automaton (And.intro @ty_fo_laws_Automaton_0 (And.intro @ty_oo_laws_Automaton_0 (And.intro @ty_fo_laws_Automaton_1 (And.intro @ty_oo_laws_Automaton_1 (And.intro @ty_fo_laws_Automaton_2 (And.intro @ty_oo_laws_Automaton_2 (And.intro @ty_el_laws_Automaton (And.intro @ty_c_laws_Automaton (And.intro @ty_e_laws_Automaton (And.intro @ty_ag_laws_Automaton (And.intro @ty_z_laws_Automaton (And.intro @ty_bl_laws_Automaton (And.intro @ty_i_laws_Automaton (And.intro @ty_st_impl_Automaton (And.intro @ty_fo_impl_Automaton_0 (And.intro @ty_oo_impl_Automaton_0 (And.intro @ty_fo_impl_Automaton_1 (And.intro @ty_oo_impl_Automaton_1 (And.intro @ty_fo_impl_Automaton_2 (And.intro @ty_oo_impl_Automaton_2 (And.intro @ty_el_impl_Automaton (And.intro @ty_c_impl_Automaton (And.intro @ty_e_impl_Automaton (And.intro @ty_ag_impl_Automaton @ty_z_impl_Automaton)))))))))))))))))))))))))))))))))))))))
theorem TY6 : type_of% (And.intro @ty_bl_impl_Automaton (And.intro @ty_i_impl_Automaton (And.intro @ty_u_sl_string (And.intro @ty_el_sl_string (And.intro @ty_c_sl_string (And.intro @ty_e_sl_string (And.intro @ty_ag_sl_string (And.intro @ty_z_sl_string (And.intro @ty_i_sl_string (And.intro @ty_u_ptr_spec_l19Rd (And.intro @ty_el_ptr_spec_l19Rd (And.intro @ty_c_ptr_spec_l19Rd (And.intro @ty_e_ptr_spec_l19Rd (And.intro @ty_ag_ptr_spec_l19Rd (And.intro @ty_z_ptr_spec_l19Rd (And.intro @ty_i_ptr_spec_l19Rd (And.intro @ty_u_sl_int (And.intro @ty_el_sl_int (And.intro @ty_c_sl_int (And.intro @ty_e_sl_int (And.intro @ty_ag_sl_int (And.intro @ty_z_sl_int (And.intro @ty_i_sl_int (And.intro @ty_u_sl_ar6_int (And.intro @ty_el_sl_ar6_int (And.intro @ty_c_sl_ar6_int (And.intro @ty_e_sl_ar6_int (And.intro @ty_ag_sl_ar6_int (And.intro @ty_z_sl_ar6_int (And.intro @ty_i_sl_ar6_int (And.intro @ty_u_ar6_int (And.intro @ty_el_ar6_int (And.intro @ty_c_ar6_int (And.intro @ty_e_ar6_int (And.intro @ty_ag_ar6_int (And.intro @ty_z_ar6_int (And.intro @ty_bl_ar6_int (And.intro @ty_i_ar6_int (And.intro @ty_st_struct_b_sl_uint8_p_int @ty_fo_struct_b_sl_uint8_p_int_0))))))))))))))))))))))))))))))))))))))) := (And.intro @ty_bl_impl_Automaton (And.intro @ty_i_impl_Automaton (And.intro @ty_u_sl_string (And.intro @ty_el_sl_string (And.intro @ty_c_sl_string (And.intro @ty_e_sl_string (And.intro @ty_ag_sl_string (And.intro @ty_z_sl_string (And.intro @ty_i_sl_string (And.intro @ty_u_ptr_spec_l19Rd (And.intro @ty_el_ptr_spec_l19Rd (And.intro @ty_c_ptr_spec_l19Rd (And.intro @ty_e_ptr_spec_l19Rd (And.intro @ty_ag_ptr_spec_l19Rd (And.intro @ty_z_ptr_spec_l19Rd (And.intro @ty_i_ptr_spec_l19Rd (And.intro @ty_u_sl_int (And.intro @ty_el_sl_int (And.intro @ty_c_sl_int (And.intro @ty_e_sl_int (And.intro @ty_ag_sl_int (And.intro @ty_z_sl_int (And.intro @ty_i_sl_int (And.intro @ty_u_sl_ar6_int (And.intro @ty_el_sl_ar6_int (And.intro @ty_c_sl_ar6_int (And.intro @ty_e_sl_ar6_int (And.intro @ty_ag_sl_ar6_int (And.intro @ty_z_sl_ar6_int (And.intro @ty_i_sl_ar6_int (And.intro @ty_u_ar6_int (And.intro @ty_el_ar6_int (And.intro @ty_c_ar6_int (And.intro @ty_e_ar6_int (And.intro @ty_ag_ar6_int (And.intro @ty_z_ar6_int (And.intro @ty_bl_ar6_int (And.intro @ty_i_ar6_int (And.intro @ty_st_struct_b_sl_uint8_p_int @ty_fo_struct_b_sl_uint8_p_int_0)))))))))))))))))))))))))))))))))))))))
theorem TY7 : type_of% (And.intro @ty_oo_struct_b_sl_uint8_p_int_0 (And.intro @ty_fo_struct_b_sl_uint8_p_int_1 (And.intro @ty_oo_struct_b_sl_uint8_p_int_1 (And.intro @ty_el_struct_b_sl_uint8_p_int (And.intro @ty_c_struct_b_sl_uint8_p_int (And.intro @ty_e_struct_b_sl_uint8_p_int (And.intro @ty_ag_struct_b_sl_uint8_p_int (And.intro @ty_z_struct_b_sl_uint8_p_int (And.intro @ty_bl_struct_b_sl_uint8_p_int (And.intro @ty_i_struct_b_sl_uint8_p_int (And.intro @ty_st_spec_l19Rd (And.intro @ty_fo_spec_l19Rd_0 (And.intro @ty_oo_spec_l19Rd_0 (And.intro @ty_fo_spec_l19Rd_1 (And.intro @ty_oo_spec_l19Rd_1 (And.intro @ty_el_spec_l19Rd (And.intro @ty_c_spec_l19Rd (And.intro @ty_e_spec_l19Rd (And.intro @ty_ag_spec_l19Rd (And.intro @ty_z_spec_l19Rd (And.intro @ty_bl_spec_l19Rd (And.intro @ty_i_spec_l19Rd (And.intro @ty_u_uint (And.intro @ty_el_uint (And.intro @ty_c_uint (And.intro @ty_e_uint (And.intro @ty_ag_uint (And.intro @ty_z_uint (And.intro @ty_i_uint (And.intro @ty_u_sl_impl_Automaton (And.intro @ty_el_sl_impl_Automaton (And.intro @ty_c_sl_impl_Automaton (And.intro @ty_e_sl_impl_Automaton (And.intro @ty_ag_sl_impl_Automaton (And.intro @ty_z_sl_impl_Automaton (And.intro @ty_i_sl_impl_Automaton (And.intro @ty_u_sl_impl_System (And.intro @ty_el_sl_impl_System (And.intro @ty_c_sl_impl_System @ty_e_sl_impl_System))))))))))))))))))))))))))))))))))))))) := (And.intro @ty_oo_struct_b_sl_uint8_p_int_0 (And.intro @ty_fo_struct_b_sl_uint8_p_int_1 (And.intro @ty_oo_struct_b_sl_uint8_p_int_1 (And.intro @ty_el_struct_b_sl_uint8_p_int (And.intro @ty_c_struct_b_sl_uint8_p_int (And.intro @ty_e_struct_b_sl_uint8_p_int (And.intro @ty_ag_struct_b_sl_uint8_p_int (And.intro @ty_z_struct_b_sl_uint8_p_int (And.intro @ty_bl_struct_b_sl_uint8_p_int (And.intro @ty_i_struct_b_sl_uint8_p_int (And.intro @ty_st_spec_l19Rd (And.intro @ty_fo_spec_l19Rd_0 (And.intro @ty_oo_spec_l19Rd_0 (And.intro @ty_fo_spec_l19Rd_1 (And.intro @ty_oo_spec_l19Rd_1 (And.intro @ty_el_spec_l19Rd (And.intro @ty_c_spec_l19Rd (And.intro @ty_e_spec_l19Rd (And.intro @ty_ag_spec_l19Rd (And.intro @ty_z_spec_l19Rd (And.intro @ty_bl_spec_l19Rd (And.intro @ty_i_spec_l19Rd (And.intro @ty_u_uint (And.intro @ty_el_uint (And.intro @ty_c_uint (And.intro @ty_e_uint (And.intro @ty_ag_uint (And.intro @ty_z_uint (And.intro @ty_i_uint (And.intro @ty_u_sl_impl_Automaton (And.intro @ty_el_sl_impl_Automaton (And.intro @ty_c_sl_impl_Automaton (And.intro @ty_e_sl_impl_Automaton (And.intro @ty_ag_sl_impl_Automaton (And.intro @ty_z_sl_impl_Automaton (And.intro @ty_i_sl_impl_Automaton (And.intro @ty_u_sl_impl_System (And.intro @ty_el_sl_impl_System (And.intro @ty_c_sl_impl_System @ty_e_sl_impl_System)))))))))))))))))))))))))))))))))))))))
theorem TY8 : type_of% (And.intro @ty_ag_sl_impl_System (And.intro @ty_z_sl_impl_System (And.intro @ty_i_sl_impl_System (And.intro @ty_st_struct_Parts_sl_impl_System_Autos_sl_impl_Automaton_Start_sl_int_Letters_int_Kind_int_Goal_int (And.intro @ty_fo_struct_Parts_sl_impl_System_Autos_sl_impl_Automaton_Start_sl_int_Letters_int_Kind_int_Goal_int_0 (And.intro @ty_oo_struct_Parts_sl_impl_System_Autos_sl_impl_Automaton_Start_sl_int_Letters_int_Kind_int_Goal_int_0 (And.intro @ty_fo_struct_Parts_sl_impl_System_Autos_sl_impl_Automaton_Start_sl_int_Letters_int_Kind_int_Goal_int_1 (And.intro @ty_oo_struct_Parts_sl_impl_System_Autos_sl_impl_Automaton_Start_sl_int_Letters_int_Kind_int_Goal_int_1 (And.intro @ty_fo_struct_Parts_sl_impl_System_Autos_sl_impl_Automaton_Start_sl_int_Letters_int_Kind_int_Goal_int_2 (And.intro @ty_oo_struct_Parts_sl_impl_System_Autos_sl_impl_Automaton_Start_sl_int_Letters_int_Kind_int_Goal_int_2 (And.intro @ty_fo_struct_Parts_sl_impl_System_Autos_sl_impl_Automaton_Start_sl_int_Letters_int_Kind_int_Goal_int_3 (And.intro @ty_oo_struct_Parts_sl_impl_System_Autos_sl_impl_Automaton_Start_sl_int_Letters_int_Kind_int_Goal_int_3 (And.intro @ty_fo_struct_Parts_sl_impl_System_Autos_sl_impl_Automaton_Start_sl_int_Letters_int_Kind_int_Goal_int_4 (And.intro @ty_oo_struct_Parts_sl_impl_System_Autos_sl_impl_Automaton_Start_sl_int_Letters_int_Kind_int_Goal_int_4 (And.intro @ty_fo_struct_Parts_sl_impl_System_Autos_sl_impl_Automaton_Start_sl_int_Letters_int_Kind_int_Goal_int_5 (And.intro @ty_oo_struct_Parts_sl_impl_System_Autos_sl_impl_Automaton_Start_sl_int_Letters_int_Kind_int_Goal_int_5 (And.intro @ty_el_struct_Parts_sl_impl_System_Autos_sl_impl_Automaton_Start_sl_int_Letters_int_Kind_int_Goal_int (And.intro @ty_c_struct_Parts_sl_impl_System_Autos_sl_impl_Automaton_Start_sl_int_Letters_int_Kind_int_Goal_int (And.intro @ty_e_struct_Parts_sl_impl_System_Autos_sl_impl_Automaton_Start_sl_int_Letters_int_Kind_int_Goal_int (And.intro @ty_ag_struct_Parts_sl_impl_System_Autos_sl_impl_Automaton_Start_sl_int_Letters_int_Kind_int_Goal_int (And.intro @ty_z_struct_Parts_sl_impl_System_Autos_sl_impl_Automaton_Start_sl_int_Letters_int_Kind_int_Goal_int (And.intro @ty_bl_struct_Parts_sl_impl_System_Autos_sl_impl_Automaton_Start_sl_int_Letters_int_Kind_int_Goal_int (And.intro @ty_i_struct_Parts_sl_impl_System_Autos_sl_impl_Automaton_Start_sl_int_Letters_int_Kind_int_Goal_int (And.intro @ty_st_spec_l4Net (And.intro @ty_fo_spec_l4Net_0 (And.intro @ty_oo_spec_l4Net_0 (And.intro @ty_fo_spec_l4Net_1 (And.intro @ty_oo_spec_l4Net_1 (And.intro @ty_fo_spec_l4Net_2 (And.intro @ty_oo_spec_l4Net_2 (And.intro @ty_fo_spec_l4Net_3 (And.intro @ty_oo_spec_l4Net_3 (And.intro @ty_fo_spec_l4Net_4 (And.intro @ty_oo_spec_l4Net_4 (And.intro @ty_fo_spec_l4Net_5 (And.intro @ty_oo_spec_l4Net_5 (And.intro @ty_el_spec_l4Net (And.intro @ty_c_spec_l4Net (And.intro @ty_e_spec_l4Net @ty_ag_spec_l4Net))))))))))))))))))))))))))))))))))))))) := (And.intro @ty_ag_sl_impl_System (And.intro @ty_z_sl_impl_System (And.intro @ty_i_sl_impl_System (And.intro @ty_st_struct_Parts_sl_impl_System_Autos_sl_impl_Automaton_Start_sl_int_Letters_int_Kind_int_Goal_int (And.intro @ty_fo_struct_Parts_sl_impl_System_Autos_sl_impl_Automaton_Start_sl_int_Letters_int_Kind_int_Goal_int_0 (And.intro @ty_oo_struct_Parts_sl_impl_System_Autos_sl_impl_Automaton_Start_sl_int_Letters_int_Kind_int_Goal_int_0 (And.intro @ty_fo_struct_Parts_sl_impl_System_Autos_sl_impl_Automaton_Start_sl_int_Letters_int_Kind_int_Goal_int_1 (And.intro @ty_oo_struct_Parts_sl_impl_System_Autos_sl_impl_Automaton_Start_sl_int_Letters_int_Kind_int_Goal_int_1 (And.intro @ty_fo_struct_Parts_sl_impl_System_Autos_sl_impl_Automaton_Start_sl_int_Letters_int_Kind_int_Goal_int_2 (And.intro @ty_oo_struct_Parts_sl_impl_System_Autos_sl_impl_Automaton_Start_sl_int_Letters_int_Kind_int_Goal_int_2 (And.intro @ty_fo_struct_Parts_sl_impl_System_Autos_sl_impl_Automaton_Start_sl_int_Letters_int_Kind_int_Goal_int_3 (And.intro @ty_oo_struct_Parts_sl_impl_System_Autos_sl_impl_Automaton_Start_sl_int_Letters_int_Kind_int_Goal_int_3 (And.intro @ty_fo_struct_Parts_sl_impl_System_Autos_sl_impl_Automaton_Start_sl_int_Letters_int_Kind_int_Goal_int_4 (And.intro @ty_oo_struct_Parts_sl_impl_System_Autos_sl_impl_Automaton_Start_sl_int_Letters_int_Kind_int_Goal_int_4 (And.intro @ty_fo_struct_Parts_sl_impl_System_Autos_sl_impl_Automaton_Start_sl_int_Letters_int_Kind_int_Goal_int_5 (And.intro @ty_oo_struct_Parts_sl_impl_System_Autos_sl_impl_Automaton_Start_sl_int_Letters_int_Kind_int_Goal_int_5 (And.intro @ty_el_struct_Parts_sl_impl_System_Autos_sl_impl_Automaton_Start_sl_int_Letters_int_Kind_int_Goal_int (And.intro @ty_c_struct_Parts_sl_impl_System_Autos_sl_impl_Automaton_Start_sl_int_Letters_int_Kind_int_Goal_int (And.intro @ty_e_struct_Parts_sl_impl_System_Autos_sl_impl_Automaton_Start_sl_int_Letters_int_Kind_int_Goal_int (And.intro @ty_ag_struct_Parts_sl_impl_System_Autos_sl_impl_Automaton_Start_sl_int_Letters_int_Kind_int_Goal_int (And.intro @ty_z_struct_Parts_sl_impl_System_Autos_sl_impl_Automaton_Start_sl_int_Letters_int_Kind_int_Goal_int (And.intro @ty_bl_struct_Parts_sl_impl_System_Autos_sl_impl_Automaton_Start_sl_int_Letters_int_Kind_int_Goal_int (And.intro @ty_i_struct_Parts_sl_impl_System_Autos_sl_impl_Automaton_Start_sl_int_Letters_int_Kind_int_Goal_int (And.intro @ty_st_spec_l4Net (And.intro @ty_fo_spec_l4Net_0 (And.intro @ty_oo_spec_l4Net_0 (And.intro @ty_fo_spec_l4Net_1 (And.intro @ty_oo_spec_l4Net_1 (And.intro @ty_fo_spec_l4Net_2 (And.intro @ty_oo_spec_l4Net_2 (And.intro @ty_fo_spec_l4Net_3 (And.intro @ty_oo_spec_l4Net_3 (And.intro @ty_fo_spec_l4Net_4 (And.intro @ty_oo_spec_l4Net_4 (And.intro @ty_fo_spec_l4Net_5 (And.intro @ty_oo_spec_l4Net_5 (And.intro @ty_el_spec_l4Net (And.intro @ty_c_spec_l4Net (And.intro @ty_e_spec_l4Net @ty_ag_spec_l4Net)))))))))))))))))))))))))))))))))))))))
theorem TY9 : type_of% (And.intro @ty_z_spec_l4Net (And.intro @ty_bl_spec_l4Net (And.intro @ty_i_spec_l4Net (And.intro @ty_u_sl_sl_sl_int (And.intro @ty_el_sl_sl_sl_int (And.intro @ty_c_sl_sl_sl_int (And.intro @ty_e_sl_sl_sl_int (And.intro @ty_ag_sl_sl_sl_int (And.intro @ty_z_sl_sl_sl_int (And.intro @ty_i_sl_sl_sl_int (And.intro @ty_u_slices_sortedHint (And.intro @ty_el_slices_sortedHint (And.intro @ty_c_slices_sortedHint (And.intro @ty_e_slices_sortedHint (And.intro @ty_ag_slices_sortedHint (And.intro @ty_z_slices_sortedHint (And.intro @ty_i_slices_sortedHint (And.intro @ty_u_uint32 (And.intro @ty_el_uint32 (And.intro @ty_c_uint32 (And.intro @ty_e_uint32 (And.intro @ty_ag_uint32 (And.intro @ty_z_uint32 (And.intro @ty_i_uint32 (And.intro @ty_u_uint64 (And.intro @ty_el_uint64 (And.intro @ty_c_uint64 (And.intro @ty_e_uint64 (And.intro @ty_ag_uint64 (And.intro @ty_z_uint64 (And.intro @ty_i_uint64 (And.intro @ty_u_sl_impl_searchStep (And.intro @ty_el_sl_impl_searchStep (And.intro @ty_c_sl_impl_searchStep (And.intro @ty_e_sl_impl_searchStep (And.intro @ty_ag_sl_impl_searchStep (And.intro @ty_z_sl_impl_searchStep (And.intro @ty_i_sl_impl_searchStep (And.intro @ty_st_struct_parent_int_letter_int_nodes_sl_int @ty_fo_struct_parent_int_letter_int_nodes_sl_int_0))))))))))))))))))))))))))))))))))))))) := (And.intro @ty_z_spec_l4Net (And.intro @ty_bl_spec_l4Net (And.intro @ty_i_spec_l4Net (And.intro @ty_u_sl_sl_sl_int (And.intro @ty_el_sl_sl_sl_int (And.intro @ty_c_sl_sl_sl_int (And.intro @ty_e_sl_sl_sl_int (And.intro @ty_ag_sl_sl_sl_int (And.intro @ty_z_sl_sl_sl_int (And.intro @ty_i_sl_sl_sl_int (And.intro @ty_u_slices_sortedHint (And.intro @ty_el_slices_sortedHint (And.intro @ty_c_slices_sortedHint (And.intro @ty_e_slices_sortedHint (And.intro @ty_ag_slices_sortedHint (And.intro @ty_z_slices_sortedHint (And.intro @ty_i_slices_sortedHint (And.intro @ty_u_uint32 (And.intro @ty_el_uint32 (And.intro @ty_c_uint32 (And.intro @ty_e_uint32 (And.intro @ty_ag_uint32 (And.intro @ty_z_uint32 (And.intro @ty_i_uint32 (And.intro @ty_u_uint64 (And.intro @ty_el_uint64 (And.intro @ty_c_uint64 (And.intro @ty_e_uint64 (And.intro @ty_ag_uint64 (And.intro @ty_z_uint64 (And.intro @ty_i_uint64 (And.intro @ty_u_sl_impl_searchStep (And.intro @ty_el_sl_impl_searchStep (And.intro @ty_c_sl_impl_searchStep (And.intro @ty_e_sl_impl_searchStep (And.intro @ty_ag_sl_impl_searchStep (And.intro @ty_z_sl_impl_searchStep (And.intro @ty_i_sl_impl_searchStep (And.intro @ty_st_struct_parent_int_letter_int_nodes_sl_int @ty_fo_struct_parent_int_letter_int_nodes_sl_int_0)))))))))))))))))))))))))))))))))))))))
theorem TY10 : type_of% (And.intro @ty_oo_struct_parent_int_letter_int_nodes_sl_int_0 (And.intro @ty_fo_struct_parent_int_letter_int_nodes_sl_int_1 (And.intro @ty_oo_struct_parent_int_letter_int_nodes_sl_int_1 (And.intro @ty_fo_struct_parent_int_letter_int_nodes_sl_int_2 (And.intro @ty_oo_struct_parent_int_letter_int_nodes_sl_int_2 (And.intro @ty_el_struct_parent_int_letter_int_nodes_sl_int (And.intro @ty_c_struct_parent_int_letter_int_nodes_sl_int (And.intro @ty_e_struct_parent_int_letter_int_nodes_sl_int (And.intro @ty_ag_struct_parent_int_letter_int_nodes_sl_int (And.intro @ty_z_struct_parent_int_letter_int_nodes_sl_int (And.intro @ty_bl_struct_parent_int_letter_int_nodes_sl_int (And.intro @ty_i_struct_parent_int_letter_int_nodes_sl_int (And.intro @ty_st_impl_searchStep (And.intro @ty_fo_impl_searchStep_0 (And.intro @ty_oo_impl_searchStep_0 (And.intro @ty_fo_impl_searchStep_1 (And.intro @ty_oo_impl_searchStep_1 (And.intro @ty_fo_impl_searchStep_2 (And.intro @ty_oo_impl_searchStep_2 (And.intro @ty_el_impl_searchStep (And.intro @ty_c_impl_searchStep (And.intro @ty_e_impl_searchStep (And.intro @ty_ag_impl_searchStep (And.intro @ty_z_impl_searchStep (And.intro @ty_bl_impl_searchStep (And.intro @ty_i_impl_searchStep (And.intro @ty_u_slices_xorshift (And.intro @ty_el_slices_xorshift (And.intro @ty_c_slices_xorshift (And.intro @ty_e_slices_xorshift (And.intro @ty_ag_slices_xorshift (And.intro @ty_z_slices_xorshift (And.intro @ty_i_slices_xorshift (And.intro @ty_u_ptr_int (And.intro @ty_el_ptr_int (And.intro @ty_c_ptr_int (And.intro @ty_e_ptr_int (And.intro @ty_ag_ptr_int (And.intro @ty_z_ptr_int @ty_i_ptr_int))))))))))))))))))))))))))))))))))))))) := (And.intro @ty_oo_struct_parent_int_letter_int_nodes_sl_int_0 (And.intro @ty_fo_struct_parent_int_letter_int_nodes_sl_int_1 (And.intro @ty_oo_struct_parent_int_letter_int_nodes_sl_int_1 (And.intro @ty_fo_struct_parent_int_letter_int_nodes_sl_int_2 (And.intro @ty_oo_struct_parent_int_letter_int_nodes_sl_int_2 (And.intro @ty_el_struct_parent_int_letter_int_nodes_sl_int (And.intro @ty_c_struct_parent_int_letter_int_nodes_sl_int (And.intro @ty_e_struct_parent_int_letter_int_nodes_sl_int (And.intro @ty_ag_struct_parent_int_letter_int_nodes_sl_int (And.intro @ty_z_struct_parent_int_letter_int_nodes_sl_int (And.intro @ty_bl_struct_parent_int_letter_int_nodes_sl_int (And.intro @ty_i_struct_parent_int_letter_int_nodes_sl_int (And.intro @ty_st_impl_searchStep (And.intro @ty_fo_impl_searchStep_0 (And.intro @ty_oo_impl_searchStep_0 (And.intro @ty_fo_impl_searchStep_1 (And.intro @ty_oo_impl_searchStep_1 (And.intro @ty_fo_impl_searchStep_2 (And.intro @ty_oo_impl_searchStep_2 (And.intro @ty_el_impl_searchStep (And.intro @ty_c_impl_searchStep (And.intro @ty_e_impl_searchStep (And.intro @ty_ag_impl_searchStep (And.intro @ty_z_impl_searchStep (And.intro @ty_bl_impl_searchStep (And.intro @ty_i_impl_searchStep (And.intro @ty_u_slices_xorshift (And.intro @ty_el_slices_xorshift (And.intro @ty_c_slices_xorshift (And.intro @ty_e_slices_xorshift (And.intro @ty_ag_slices_xorshift (And.intro @ty_z_slices_xorshift (And.intro @ty_i_slices_xorshift (And.intro @ty_u_ptr_int (And.intro @ty_el_ptr_int (And.intro @ty_c_ptr_int (And.intro @ty_e_ptr_int (And.intro @ty_ag_ptr_int (And.intro @ty_z_ptr_int @ty_i_ptr_int)))))))))))))))))))))))))))))))))))))))
theorem TY11 : type_of% (And.intro @ty_u_ptr_slices_xorshift (And.intro @ty_el_ptr_slices_xorshift (And.intro @ty_c_ptr_slices_xorshift (And.intro @ty_e_ptr_slices_xorshift (And.intro @ty_ag_ptr_slices_xorshift (And.intro @ty_z_ptr_slices_xorshift (And.intro @ty_i_ptr_slices_xorshift (And.intro @ty_u_ptr_uint8 (And.intro @ty_el_ptr_uint8 (And.intro @ty_c_ptr_uint8 (And.intro @ty_e_ptr_uint8 (And.intro @ty_ag_ptr_uint8 (And.intro @ty_z_ptr_uint8 (And.intro @ty_i_ptr_uint8 (And.intro @ty_el_unsafe_Pointer (And.intro @ty_c_unsafe_Pointer (And.intro @ty_e_unsafe_Pointer (And.intro @ty_ag_unsafe_Pointer (And.intro @ty_z_unsafe_Pointer (And.intro @ty_i_unsafe_Pointer (And.intro @ty_cv_int_int (And.intro @ty_cv_int_uint8 (And.intro @ty_cv_int_uint (And.intro @ty_cv_uint8_int (And.intro @ty_cv_uint8_uint8 (And.intro @ty_cv_uint8_uint (And.intro @ty_cv_uint_int (And.intro @ty_cv_uint_uint8 @ty_cv_uint_uint)))))))))))))))))))))))))))) := (And.intro @ty_u_ptr_slices_xorshift (And.intro @ty_el_ptr_slices_xorshift (And.intro @ty_c_ptr_slices_xorshift (And.intro @ty_e_ptr_slices_xorshift (And.intro @ty_ag_ptr_slices_xorshift (And.intro @ty_z_ptr_slices_xorshift (And.intro @ty_i_ptr_slices_xorshift (And.intro @ty_u_ptr_uint8 (And.intro @ty_el_ptr_uint8 (And.intro @ty_c_ptr_uint8 (And.intro @ty_e_ptr_uint8 (And.intro @ty_ag_ptr_uint8 (And.intro @ty_z_ptr_uint8 (And.intro @ty_i_ptr_uint8 (And.intro @ty_el_unsafe_Pointer (And.intro @ty_c_unsafe_Pointer (And.intro @ty_e_unsafe_Pointer (And.intro @ty_ag_unsafe_Pointer (And.intro @ty_z_unsafe_Pointer (And.intro @ty_i_unsafe_Pointer (And.intro @ty_cv_int_int (And.intro @ty_cv_int_uint8 (And.intro @ty_cv_int_uint (And.intro @ty_cv_uint8_int (And.intro @ty_cv_uint8_uint8 (And.intro @ty_cv_uint8_uint (And.intro @ty_cv_uint_int (And.intro @ty_cv_uint_uint8 @ty_cv_uint_uint))))))))))))))))))))))))))))
theorem TY : type_of% (And.intro @TY0 (And.intro @TY1 (And.intro @TY2 (And.intro @TY3 (And.intro @TY4 (And.intro @TY5 (And.intro @TY6 (And.intro @TY7 (And.intro @TY8 (And.intro @TY9 (And.intro @TY10 @TY11))))))))))) := (And.intro @TY0 (And.intro @TY1 (And.intro @TY2 (And.intro @TY3 (And.intro @TY4 (And.intro @TY5 (And.intro @TY6 (And.intro @TY7 (And.intro @TY8 (And.intro @TY9 (And.intro @TY10 @TY11)))))))))))

end Ev
end Go.Proofs.Ytidobgmklcbcpaa
