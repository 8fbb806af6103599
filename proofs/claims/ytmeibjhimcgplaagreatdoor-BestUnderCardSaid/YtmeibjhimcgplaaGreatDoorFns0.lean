/- The texts are the program's. -/
import Derived.Test.YtmeibjhimcgplaaGreatDoorHpD
import Derived.Test.YtmeibjhimcgplaaGreatDoorHpE
import Derived.Test.YtmeibjhimcgplaaGreatDoorProg
import Derived.KernelRfl
set_option linter.all false
set_option maxRecDepth 1000000
namespace Go.Proofs.YtmeibjhimcgplaaGreatDoor
open Go Hp Hp.T
theorem ok_law40_BestUnder : callable Tryz.prog 8 = true ∧ rFn Tryz.prog (annG 8) Tryz.f8 = some pf_law40_BestUnder := ⟨by kernel_rfl, by kernel_rfl⟩
theorem ok_law40_small : callable Tryz.prog 20 = true ∧ rFn Tryz.prog (annG 20) Tryz.f20 = some pf_law40_small := ⟨by kernel_rfl, by kernel_rfl⟩
theorem ok_law40_heads : callable Tryz.prog 21 = true ∧ rFn Tryz.prog (annG 21) Tryz.f21 = some pf_law40_heads := ⟨by kernel_rfl, by kernel_rfl⟩
theorem ok_best_Best : callable Tryz.prog 22 = true ∧ rFn Tryz.prog (annG 22) Tryz.f22 = some pf_best_Best := ⟨by kernel_rfl, by kernel_rfl⟩
theorem ok_best_Right : callable Tryz.prog 29 = true ∧ rFn Tryz.prog (annG 29) Tryz.f29 = some pf_best_Right := ⟨by kernel_rfl, by kernel_rfl⟩
theorem ok_ref28_Same : callable Tryz.prog 31 = true ∧ rFn Tryz.prog (annG 31) Tryz.f31 = some pf_ref28_Same := ⟨by kernel_rfl, by kernel_rfl⟩
theorem ok_best_Under : callable Tryz.prog 32 = true ∧ rFn Tryz.prog (annG 32) Tryz.f32 = some pf_best_Under := ⟨by kernel_rfl, by kernel_rfl⟩
theorem ok_ref40_Under : callable Tryz.prog 33 = true ∧ rFn Tryz.prog (annG 33) Tryz.f33 = some pf_ref40_Under := ⟨by kernel_rfl, by kernel_rfl⟩
theorem ok_ref19_Same : callable Tryz.prog 35 = true ∧ rFn Tryz.prog (annG 35) Tryz.f35 = some pf_ref19_Same := ⟨by kernel_rfl, by kernel_rfl⟩
theorem ok_reason_Right : callable Tryz.prog 39 = true ∧ rFn Tryz.prog (annG 39) Tryz.f39 = some pf_reason_Right := ⟨by kernel_rfl, by kernel_rfl⟩
theorem ok_lit_New : callable Tryz.prog 40 = true ∧ rFn Tryz.prog (annG 40) Tryz.f40 = some pf_lit_New := ⟨by kernel_rfl, by kernel_rfl⟩
theorem ok_seek_search_run : callable Tryz.prog 42 = true ∧ rFn Tryz.prog (annG 42) Tryz.f42 = some pf_seek_search_run := ⟨by kernel_rfl, by kernel_rfl⟩
theorem ok_law40_some : callable Tryz.prog 50 = true ∧ rFn Tryz.prog (annG 50) Tryz.f50 = some pf_law40_some := ⟨by kernel_rfl, by kernel_rfl⟩
theorem ok_price_Of : callable Tryz.prog 51 = true ∧ rFn Tryz.prog (annG 51) Tryz.f51 = some pf_price_Of := ⟨by kernel_rfl, by kernel_rfl⟩
theorem ok_reason_Kept : callable Tryz.prog 57 = true ∧ rFn Tryz.prog (annG 57) Tryz.f57 = some pf_reason_Kept := ⟨by kernel_rfl, by kernel_rfl⟩
theorem ok_judge_Judge : callable Tryz.prog 58 = true ∧ rFn Tryz.prog (annG 58) Tryz.f58 = some pf_judge_Judge := ⟨by kernel_rfl, by kernel_rfl⟩
theorem ok_ref17_Same : callable Tryz.prog 59 = true ∧ rFn Tryz.prog (annG 59) Tryz.f59 = some pf_ref17_Same := ⟨by kernel_rfl, by kernel_rfl⟩
theorem ok_ref28_Rows : callable Tryz.prog 60 = true ∧ rFn Tryz.prog (annG 60) Tryz.f60 = some pf_ref28_Rows := ⟨by kernel_rfl, by kernel_rfl⟩
theorem ok_ref28_ints : callable Tryz.prog 61 = true ∧ rFn Tryz.prog (annG 61) Tryz.f61 = some pf_ref28_ints := ⟨by kernel_rfl, by kernel_rfl⟩
theorem ok_problem_Copy : callable Tryz.prog 62 = true ∧ rFn Tryz.prog (annG 62) Tryz.f62 = some pf_problem_Copy := ⟨by kernel_rfl, by kernel_rfl⟩
theorem ok_ref03_Ints : callable Tryz.prog 67 = true ∧ rFn Tryz.prog (annG 67) Tryz.f67 = some pf_ref03_Ints := ⟨by kernel_rfl, by kernel_rfl⟩
theorem ok_problem_Right : callable Tryz.prog 68 = true ∧ rFn Tryz.prog (annG 68) Tryz.f68 = some pf_problem_Right := ⟨by kernel_rfl, by kernel_rfl⟩
theorem ok_reason_off : callable Tryz.prog 69 = true ∧ rFn Tryz.prog (annG 69) Tryz.f69 = some pf_reason_off := ⟨by kernel_rfl, by kernel_rfl⟩
theorem ok_plan_Right : callable Tryz.prog 70 = true ∧ rFn Tryz.prog (annG 70) Tryz.f70 = some pf_plan_Right := ⟨by kernel_rfl, by kernel_rfl⟩
theorem ok_plan_Empty : callable Tryz.prog 72 = true ∧ rFn Tryz.prog (annG 72) Tryz.f72 = some pf_plan_Empty := ⟨by kernel_rfl, by kernel_rfl⟩
theorem ok_spring_Broken : callable Tryz.prog 73 = true ∧ rFn Tryz.prog (annG 73) Tryz.f73 = some pf_spring_Broken := ⟨by kernel_rfl, by kernel_rfl⟩
theorem ok_seek_search_broken : callable Tryz.prog 74 = true ∧ rFn Tryz.prog (annG 74) Tryz.f74 = some pf_seek_search_broken := ⟨by kernel_rfl, by kernel_rfl⟩
theorem ok_seek_search_solve : callable Tryz.prog 75 = true ∧ rFn Tryz.prog (annG 75) Tryz.f75 = some pf_seek_search_solve := ⟨by kernel_rfl, by kernel_rfl⟩
theorem ok_seek_search_steps : callable Tryz.prog 76 = true ∧ rFn Tryz.prog (annG 76) Tryz.f76 = some pf_seek_search_steps := ⟨by kernel_rfl, by kernel_rfl⟩
theorem ok_plan_Whole : callable Tryz.prog 83 = true ∧ rFn Tryz.prog (annG 83) Tryz.f83 = some pf_plan_Whole := ⟨by kernel_rfl, by kernel_rfl⟩
theorem ok_price_Least : callable Tryz.prog 84 = true ∧ rFn Tryz.prog (annG 84) Tryz.f84 = some pf_price_Least := ⟨by kernel_rfl, by kernel_rfl⟩
theorem ok_check_Left : callable Tryz.prog 91 = true ∧ rFn Tryz.prog (annG 91) Tryz.f91 = some pf_check_Left := ⟨by kernel_rfl, by kernel_rfl⟩
theorem ok_reason_Spent : callable Tryz.prog 92 = true ∧ rFn Tryz.prog (annG 92) Tryz.f92 = some pf_reason_Spent := ⟨by kernel_rfl, by kernel_rfl⟩
theorem ok_judge_open : callable Tryz.prog 93 = true ∧ rFn Tryz.prog (annG 93) Tryz.f93 = some pf_judge_open := ⟨by kernel_rfl, by kernel_rfl⟩
theorem ok_judge_court_take : callable Tryz.prog 94 = true ∧ rFn Tryz.prog (annG 94) Tryz.f94 = some pf_judge_court_take := ⟨by kernel_rfl, by kernel_rfl⟩
theorem ok_ref14_Rows : callable Tryz.prog 95 = true ∧ rFn Tryz.prog (annG 95) Tryz.f95 = some pf_ref14_Rows := ⟨by kernel_rfl, by kernel_rfl⟩
theorem ok_ref11_Same : callable Tryz.prog 96 = true ∧ rFn Tryz.prog (annG 96) Tryz.f96 = some pf_ref11_Same := ⟨by kernel_rfl, by kernel_rfl⟩
theorem ok_ref12_Same : callable Tryz.prog 97 = true ∧ rFn Tryz.prog (annG 97) Tryz.f97 = some pf_ref12_Same := ⟨by kernel_rfl, by kernel_rfl⟩
theorem ok_ref13_Same : callable Tryz.prog 98 = true ∧ rFn Tryz.prog (annG 98) Tryz.f98 = some pf_ref13_Same := ⟨by kernel_rfl, by kernel_rfl⟩
theorem ok_ref14_Same : callable Tryz.prog 99 = true ∧ rFn Tryz.prog (annG 99) Tryz.f99 = some pf_ref14_Same := ⟨by kernel_rfl, by kernel_rfl⟩
theorem ok_ref17_sameRule : callable Tryz.prog 100 = true ∧ rFn Tryz.prog (annG 100) Tryz.f100 = some pf_ref17_sameRule := ⟨by kernel_rfl, by kernel_rfl⟩
theorem ok_problem_rows : callable Tryz.prog 103 = true ∧ rFn Tryz.prog (annG 103) Tryz.f103 = some pf_problem_rows := ⟨by kernel_rfl, by kernel_rfl⟩
theorem ok_problem_Check : callable Tryz.prog 115 = true ∧ rFn Tryz.prog (annG 115) Tryz.f115 = some pf_problem_Check := ⟨by kernel_rfl, by kernel_rfl⟩
theorem ok_plan_each : callable Tryz.prog 118 = true ∧ rFn Tryz.prog (annG 118) Tryz.f118 = some pf_plan_each := ⟨by kernel_rfl, by kernel_rfl⟩
theorem ok_class_Seat : callable Tryz.prog 119 = true ∧ rFn Tryz.prog (annG 119) Tryz.f119 = some pf_class_Seat := ⟨by kernel_rfl, by kernel_rfl⟩
theorem ok_sl_ContainsFunc_int_int : callable Tryz.prog 120 = true ∧ rFn Tryz.prog (annG 120) Tryz.f120 = some pf_sl_ContainsFunc_int_int := ⟨by kernel_rfl, by kernel_rfl⟩
theorem ok_spring_open : callable Tryz.prog 122 = true ∧ rFn Tryz.prog (annG 122) Tryz.f122 = some pf_spring_open := ⟨by kernel_rfl, by kernel_rfl⟩
theorem ok_spring_state_broken : callable Tryz.prog 123 = true ∧ rFn Tryz.prog (annG 123) Tryz.f123 = some pf_spring_state_broken := ⟨by kernel_rfl, by kernel_rfl⟩
theorem ok_seek_search_add : callable Tryz.prog 124 = true ∧ rFn Tryz.prog (annG 124) Tryz.f124 = some pf_seek_search_add := ⟨by kernel_rfl, by kernel_rfl⟩
theorem ok_seek_search_next : callable Tryz.prog 125 = true ∧ rFn Tryz.prog (annG 125) Tryz.f125 = some pf_seek_search_next := ⟨by kernel_rfl, by kernel_rfl⟩
theorem ok_seek_search_choices : callable Tryz.prog 126 = true ∧ rFn Tryz.prog (annG 126) Tryz.f126 = some pf_seek_search_choices := ⟨by kernel_rfl, by kernel_rfl⟩
theorem ok_seek_search_try : callable Tryz.prog 127 = true ∧ rFn Tryz.prog (annG 127) Tryz.f127 = some pf_seek_search_try := ⟨by kernel_rfl, by kernel_rfl⟩
theorem ok_lit_Map_Of : callable Tryz.prog 128 = true ∧ rFn Tryz.prog (annG 128) Tryz.f128 = some pf_lit_Map_Of := ⟨by kernel_rfl, by kernel_rfl⟩
theorem ok_sl_Contains_int_int : callable Tryz.prog 129 = true ∧ rFn Tryz.prog (annG 129) Tryz.f129 = some pf_sl_Contains_int_int := ⟨by kernel_rfl, by kernel_rfl⟩
theorem ok_lit_Sort : callable Tryz.prog 130 = true ∧ rFn Tryz.prog (annG 130) Tryz.f130 = some pf_lit_Sort := ⟨by kernel_rfl, by kernel_rfl⟩
theorem ok_class_Whole : callable Tryz.prog 137 = true ∧ rFn Tryz.prog (annG 137) Tryz.f137 = some pf_class_Whole := ⟨by kernel_rfl, by kernel_rfl⟩
theorem ok_price_Parts : callable Tryz.prog 138 = true ∧ rFn Tryz.prog (annG 138) Tryz.f138 = some pf_price_Parts := ⟨by kernel_rfl, by kernel_rfl⟩
theorem ok_sl_DeleteFunc_Fault_Fault : callable Tryz.prog 147 = true ∧ rFn Tryz.prog (annG 147) Tryz.f147 = some pf_sl_DeleteFunc_Fault_Fault := ⟨by kernel_rfl, by kernel_rfl⟩
theorem ok_check_Faults : callable Tryz.prog 148 = true ∧ rFn Tryz.prog (annG 148) Tryz.f148 = some pf_check_Faults := ⟨by kernel_rfl, by kernel_rfl⟩
theorem ok_unit_New : callable Tryz.prog 153 = true ∧ rFn Tryz.prog (annG 153) Tryz.f153 = some pf_unit_New := ⟨by kernel_rfl, by kernel_rfl⟩
theorem ok_proof_Right : callable Tryz.prog 154 = true ∧ rFn Tryz.prog (annG 154) Tryz.f154 = some pf_proof_Right := ⟨by kernel_rfl, by kernel_rfl⟩
theorem ok_axiom_Right : callable Tryz.prog 155 = true ∧ rFn Tryz.prog (annG 155) Tryz.f155 = some pf_axiom_Right := ⟨by kernel_rfl, by kernel_rfl⟩
theorem ok_unit_Unit_Add : callable Tryz.prog 157 = true ∧ rFn Tryz.prog (annG 157) Tryz.f157 = some pf_unit_Unit_Add := ⟨by kernel_rfl, by kernel_rfl⟩
theorem ok_ref11_Rows : callable Tryz.prog 158 = true ∧ rFn Tryz.prog (annG 158) Tryz.f158 = some pf_ref11_Rows := ⟨by kernel_rfl, by kernel_rfl⟩
theorem ok_room_Name : callable Tryz.prog 170 = true ∧ rFn Tryz.prog (annG 170) Tryz.f170 = some pf_room_Name := ⟨by kernel_rfl, by kernel_rfl⟩
theorem ok_when_RightGrid : callable Tryz.prog 171 = true ∧ rFn Tryz.prog (annG 171) Tryz.f171 = some pf_when_RightGrid := ⟨by kernel_rfl, by kernel_rfl⟩
theorem ok_problem_bad_Room : callable Tryz.prog 172 = true ∧ rFn Tryz.prog (annG 172) Tryz.f172 = some pf_problem_bad_Room := ⟨by kernel_rfl, by kernel_rfl⟩
end Go.Proofs.YtmeibjhimcgplaaGreatDoor
