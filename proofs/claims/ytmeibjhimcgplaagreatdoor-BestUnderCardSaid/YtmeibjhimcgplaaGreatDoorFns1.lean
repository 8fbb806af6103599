/- The texts are the program's. -/
import Derived.Test.YtmeibjhimcgplaaGreatDoorHpD
import Derived.Test.YtmeibjhimcgplaaGreatDoorHpE
import Derived.Test.YtmeibjhimcgplaaGreatDoorProg
import Derived.KernelRfl
set_option linter.all false
set_option maxRecDepth 1000000
namespace Go.Proofs.YtmeibjhimcgplaaGreatDoor
open Go Hp Hp.T
theorem ok_room_RightWalk : callable Tryz.prog 176 = true ∧ rFn Tryz.prog (annG 176) Tryz.f176 = some pf_room_RightWalk := ⟨by kernel_rfl, by kernel_rfl⟩
theorem ok_problem_bad_Person : callable Tryz.prog 177 = true ∧ rFn Tryz.prog (annG 177) Tryz.f177 = some pf_problem_bad_Person := ⟨by kernel_rfl, by kernel_rfl⟩
theorem ok_problem_bad_Class : callable Tryz.prog 181 = true ∧ rFn Tryz.prog (annG 181) Tryz.f181 = some pf_problem_bad_Class := ⟨by kernel_rfl, by kernel_rfl⟩
theorem ok_problem_className : callable Tryz.prog 182 = true ∧ rFn Tryz.prog (annG 182) Tryz.f182 = some pf_problem_className := ⟨by kernel_rfl, by kernel_rfl⟩
theorem ok_problem_Check_3 : callable Tryz.prog 183 = true ∧ rFn Tryz.prog (annG 183) Tryz.f183 = some pf_problem_Check_3 := ⟨by kernel_rfl, by kernel_rfl⟩
theorem ok_class_Right : callable Tryz.prog 184 = true ∧ rFn Tryz.prog (annG 184) Tryz.f184 = some pf_class_Right := ⟨by kernel_rfl, by kernel_rfl⟩
theorem ok_problem_bad_Course : callable Tryz.prog 185 = true ∧ rFn Tryz.prog (annG 185) Tryz.f185 = some pf_problem_bad_Course := ⟨by kernel_rfl, by kernel_rfl⟩
theorem ok_problem_bad_Student : callable Tryz.prog 189 = true ∧ rFn Tryz.prog (annG 189) Tryz.f189 = some pf_problem_bad_Student := ⟨by kernel_rfl, by kernel_rfl⟩
theorem ok_problem_bad_Rule : callable Tryz.prog 193 = true ∧ rFn Tryz.prog (annG 193) Tryz.f193 = some pf_problem_bad_Rule := ⟨by kernel_rfl, by kernel_rfl⟩
theorem ok_problem_cost : callable Tryz.prog 196 = true ∧ rFn Tryz.prog (annG 196) Tryz.f196 = some pf_problem_cost := ⟨by kernel_rfl, by kernel_rfl⟩
theorem ok_sl_IndexFunc_int_int : callable Tryz.prog 197 = true ∧ rFn Tryz.prog (annG 197) Tryz.f197 = some pf_sl_IndexFunc_int_int := ⟨by kernel_rfl, by kernel_rfl⟩
theorem ok_spring_state_hall : callable Tryz.prog 199 = true ∧ rFn Tryz.prog (annG 199) Tryz.f199 = some pf_spring_state_hall := ⟨by kernel_rfl, by kernel_rfl⟩
theorem ok_lit_Map_Fixed : callable Tryz.prog 200 = true ∧ rFn Tryz.prog (annG 200) Tryz.f200 = some pf_lit_Map_Fixed := ⟨by kernel_rfl, by kernel_rfl⟩
theorem ok_seek_key : callable Tryz.prog 201 = true ∧ rFn Tryz.prog (annG 201) Tryz.f201 = some pf_seek_key := ⟨by kernel_rfl, by kernel_rfl⟩
theorem ok_seek_search_open : callable Tryz.prog 202 = true ∧ rFn Tryz.prog (annG 202) Tryz.f202 = some pf_seek_search_open := ⟨by kernel_rfl, by kernel_rfl⟩
theorem ok_spring_Free : callable Tryz.prog 203 = true ∧ rFn Tryz.prog (annG 203) Tryz.f203 = some pf_spring_Free := ⟨by kernel_rfl, by kernel_rfl⟩
theorem ok_spring_Bars : callable Tryz.prog 204 = true ∧ rFn Tryz.prog (annG 204) Tryz.f204 = some pf_spring_Bars := ⟨by kernel_rfl, by kernel_rfl⟩
theorem ok_seek_with : callable Tryz.prog 205 = true ∧ rFn Tryz.prog (annG 205) Tryz.f205 = some pf_seek_with := ⟨by kernel_rfl, by kernel_rfl⟩
theorem ok_lit_Map_Place : callable Tryz.prog 206 = true ∧ rFn Tryz.prog (annG 206) Tryz.f206 = some pf_lit_Map_Place := ⟨by kernel_rfl, by kernel_rfl⟩
theorem ok_lit_Map_Time : callable Tryz.prog 207 = true ∧ rFn Tryz.prog (annG 207) Tryz.f207 = some pf_lit_Map_Time := ⟨by kernel_rfl, by kernel_rfl⟩
theorem ok_sl_Index_int_int : callable Tryz.prog 208 = true ∧ rFn Tryz.prog (annG 208) Tryz.f208 = some pf_sl_Index_int_int := ⟨by kernel_rfl, by kernel_rfl⟩
theorem ok_sl_DeleteFunc_int_int : callable Tryz.prog 209 = true ∧ rFn Tryz.prog (annG 209) Tryz.f209 = some pf_sl_DeleteFunc_int_int := ⟨by kernel_rfl, by kernel_rfl⟩
theorem ok_lit_Sort_1 : callable Tryz.prog 210 = true ∧ rFn Tryz.prog (annG 210) Tryz.f210 = some pf_lit_Sort_1 := ⟨by kernel_rfl, by kernel_rfl⟩
theorem ok_sl_SortFunc_int_int : callable Tryz.prog 211 = true ∧ rFn Tryz.prog (annG 211) Tryz.f211 = some pf_sl_SortFunc_int_int := ⟨by kernel_rfl, by kernel_rfl⟩
theorem ok_lit_size : callable Tryz.prog 215 = true ∧ rFn Tryz.prog (annG 215) Tryz.f215 = some pf_lit_size := ⟨by kernel_rfl, by kernel_rfl⟩
theorem ok_sl_Compact_int_int : callable Tryz.prog 217 = true ∧ rFn Tryz.prog (annG 217) Tryz.f217 = some pf_sl_Compact_int_int := ⟨by kernel_rfl, by kernel_rfl⟩
theorem ok_price_ends : callable Tryz.prog 225 = true ∧ rFn Tryz.prog (annG 225) Tryz.f225 = some pf_price_ends := ⟨by kernel_rfl, by kernel_rfl⟩
theorem ok_class_Cost : callable Tryz.prog 226 = true ∧ rFn Tryz.prog (annG 226) Tryz.f226 = some pf_class_Cost := ⟨by kernel_rfl, by kernel_rfl⟩
theorem ok_sl_IndexFunc_Fault_Fault : callable Tryz.prog 241 = true ∧ rFn Tryz.prog (annG 241) Tryz.f241 = some pf_sl_IndexFunc_Fault_Fault := ⟨by kernel_rfl, by kernel_rfl⟩
theorem ok_class_Spot : callable Tryz.prog 242 = true ∧ rFn Tryz.prog (annG 242) Tryz.f242 = some pf_class_Spot := ⟨by kernel_rfl, by kernel_rfl⟩
theorem ok_check_table_alone : callable Tryz.prog 243 = true ∧ rFn Tryz.prog (annG 243) Tryz.f243 = some pf_check_table_alone := ⟨by kernel_rfl, by kernel_rfl⟩
theorem ok_check_table_twos : callable Tryz.prog 244 = true ∧ rFn Tryz.prog (annG 244) Tryz.f244 = some pf_check_table_twos := ⟨by kernel_rfl, by kernel_rfl⟩
theorem ok_sl_SortStableFunc_Fault_Fault : callable Tryz.prog 246 = true ∧ rFn Tryz.prog (annG 246) Tryz.f246 = some pf_sl_SortStableFunc_Fault_Fault := ⟨by kernel_rfl, by kernel_rfl⟩
theorem ok_unit_fresh : callable Tryz.prog 251 = true ∧ rFn Tryz.prog (annG 251) Tryz.f251 = some pf_unit_fresh := ⟨by kernel_rfl, by kernel_rfl⟩
theorem ok_unit_Unit_put : callable Tryz.prog 252 = true ∧ rFn Tryz.prog (annG 252) Tryz.f252 = some pf_unit_Unit_put := ⟨by kernel_rfl, by kernel_rfl⟩
theorem ok_unit_Unit_look : callable Tryz.prog 253 = true ∧ rFn Tryz.prog (annG 253) Tryz.f253 = some pf_unit_Unit_look := ⟨by kernel_rfl, by kernel_rfl⟩
theorem ok_sl_Equal_int_int : callable Tryz.prog 255 = true ∧ rFn Tryz.prog (annG 255) Tryz.f255 = some pf_sl_Equal_int_int := ⟨by kernel_rfl, by kernel_rfl⟩
theorem ok_axiom_open : callable Tryz.prog 256 = true ∧ rFn Tryz.prog (annG 256) Tryz.f256 = some pf_axiom_open := ⟨by kernel_rfl, by kernel_rfl⟩
theorem ok_axiom_book_is : callable Tryz.prog 257 = true ∧ rFn Tryz.prog (annG 257) Tryz.f257 = some pf_axiom_book_is := ⟨by kernel_rfl, by kernel_rfl⟩
theorem ok_unit_Unit_ready : callable Tryz.prog 261 = true ∧ rFn Tryz.prog (annG 261) Tryz.f261 = some pf_unit_Unit_ready := ⟨by kernel_rfl, by kernel_rfl⟩
theorem ok_when_within : callable Tryz.prog 269 = true ∧ rFn Tryz.prog (annG 269) Tryz.f269 = some pf_when_within := ⟨by kernel_rfl, by kernel_rfl⟩
theorem ok_when_Right : callable Tryz.prog 271 = true ∧ rFn Tryz.prog (annG 271) Tryz.f271 = some pf_when_Right := ⟨by kernel_rfl, by kernel_rfl⟩
theorem ok_class_folk : callable Tryz.prog 274 = true ∧ rFn Tryz.prog (annG 274) Tryz.f274 = some pf_class_folk := ⟨by kernel_rfl, by kernel_rfl⟩
theorem ok_class_times : callable Tryz.prog 275 = true ∧ rFn Tryz.prog (annG 275) Tryz.f275 = some pf_class_times := ⟨by kernel_rfl, by kernel_rfl⟩
theorem ok_class_places : callable Tryz.prog 276 = true ∧ rFn Tryz.prog (annG 276) Tryz.f276 = some pf_class_places := ⟨by kernel_rfl, by kernel_rfl⟩
theorem ok_lit_Map_Len : callable Tryz.prog 292 = true ∧ rFn Tryz.prog (annG 292) Tryz.f292 = some pf_lit_Map_Len := ⟨by kernel_rfl, by kernel_rfl⟩
theorem ok_lit_Map_What : callable Tryz.prog 293 = true ∧ rFn Tryz.prog (annG 293) Tryz.f293 = some pf_lit_Map_What := ⟨by kernel_rfl, by kernel_rfl⟩
theorem ok_spring_state_with : callable Tryz.prog 294 = true ∧ rFn Tryz.prog (annG 294) Tryz.f294 = some pf_spring_state_with := ⟨by kernel_rfl, by kernel_rfl⟩
theorem ok_lit_Map_number : callable Tryz.prog 296 = true ∧ rFn Tryz.prog (annG 296) Tryz.f296 = some pf_lit_Map_number := ⟨by kernel_rfl, by kernel_rfl⟩
theorem ok_sl_pdqsortCmpFunc_int : callable Tryz.prog 297 = true ∧ rFn Tryz.prog (annG 297) Tryz.f297 = some pf_sl_pdqsortCmpFunc_int := ⟨by kernel_rfl, by kernel_rfl⟩
theorem ok_bits_Len : callable Tryz.prog 298 = true ∧ rFn Tryz.prog (annG 298) Tryz.f298 = some pf_bits_Len := ⟨by kernel_rfl, by kernel_rfl⟩
theorem ok_check_table_timed : callable Tryz.prog 327 = true ∧ rFn Tryz.prog (annG 327) Tryz.f327 = some pf_check_table_timed := ⟨by kernel_rfl, by kernel_rfl⟩
theorem ok_check_table_placed : callable Tryz.prog 330 = true ∧ rFn Tryz.prog (annG 330) Tryz.f330 = some pf_check_table_placed := ⟨by kernel_rfl, by kernel_rfl⟩
theorem ok_sl_stableCmpFunc_Fault : callable Tryz.prog 336 = true ∧ rFn Tryz.prog (annG 336) Tryz.f336 = some pf_sl_stableCmpFunc_Fault := ⟨by kernel_rfl, by kernel_rfl⟩
theorem ok_unit_clean : callable Tryz.prog 339 = true ∧ rFn Tryz.prog (annG 339) Tryz.f339 = some pf_unit_clean := ⟨by kernel_rfl, by kernel_rfl⟩
theorem ok_unit_Unit_visit : callable Tryz.prog 340 = true ∧ rFn Tryz.prog (annG 340) Tryz.f340 = some pf_unit_Unit_visit := ⟨by kernel_rfl, by kernel_rfl⟩
theorem ok_unit_Unit_spread : callable Tryz.prog 341 = true ∧ rFn Tryz.prog (annG 341) Tryz.f341 = some pf_unit_Unit_spread := ⟨by kernel_rfl, by kernel_rfl⟩
theorem ok_axiom_book_sides : callable Tryz.prog 344 = true ∧ rFn Tryz.prog (annG 344) Tryz.f344 = some pf_axiom_book_sides := ⟨by kernel_rfl, by kernel_rfl⟩
theorem ok_axiom_book_budget : callable Tryz.prog 349 = true ∧ rFn Tryz.prog (annG 349) Tryz.f349 = some pf_axiom_book_budget := ⟨by kernel_rfl, by kernel_rfl⟩
theorem ok_when_tame : callable Tryz.prog 359 = true ∧ rFn Tryz.prog (annG 359) Tryz.f359 = some pf_when_tame := ⟨by kernel_rfl, by kernel_rfl⟩
theorem ok_class_cheap : callable Tryz.prog 361 = true ∧ rFn Tryz.prog (annG 361) Tryz.f361 = some pf_class_cheap := ⟨by kernel_rfl, by kernel_rfl⟩
theorem ok_sl_insertionSortCmpFunc_int : callable Tryz.prog 370 = true ∧ rFn Tryz.prog (annG 370) Tryz.f370 = some pf_sl_insertionSortCmpFunc_int := ⟨by kernel_rfl, by kernel_rfl⟩
theorem ok_bits_Len64 : callable Tryz.prog 379 = true ∧ rFn Tryz.prog (annG 379) Tryz.f379 = some pf_bits_Len64 := ⟨by kernel_rfl, by kernel_rfl⟩
theorem ok_sl_insertionSortCmpFunc_Fault : callable Tryz.prog 402 = true ∧ rFn Tryz.prog (annG 402) Tryz.f402 = some pf_sl_insertionSortCmpFunc_Fault := ⟨by kernel_rfl, by kernel_rfl⟩
theorem ok_lit_Map_Seats : callable Tryz.prog 416 = true ∧ rFn Tryz.prog (annG 416) Tryz.f416 = some pf_lit_Map_Seats := ⟨by kernel_rfl, by kernel_rfl⟩
theorem ok_axiom_turned : callable Tryz.prog 417 = true ∧ rFn Tryz.prog (annG 417) Tryz.f417 = some pf_axiom_turned := ⟨by kernel_rfl, by kernel_rfl⟩
end Go.Proofs.YtmeibjhimcgplaaGreatDoor
