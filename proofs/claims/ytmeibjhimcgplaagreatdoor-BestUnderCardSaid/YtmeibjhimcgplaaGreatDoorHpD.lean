/- Common ground: a pure interpreter for the program, and what it computes. -/
import Derived.Test.YtmeibjhimcgplaaGreatDoorHpA1
set_option linter.all false
section
namespace Hp.T
open Go
abbrev i64 (n : Int) : PV := .int .i64 n
abbrev nilsl : PV := .isl true 0 []
abbrev t (n : Nat) : Opd := .t n
abbrev i (n : Int) : Opd := .c (.int .i64 n)
abbrev b (x : Bool) : Opd := .c (.bool x)
abbrev g (d : Nat) (op : POp) : PG := ⟨some d, none, op⟩
abbrev u (op : POp) : PG := ⟨none, none, op⟩
abbrev gg (d t : Nat) (b : Bool) (op : POp) : PG := ⟨some d, some (t, b), op⟩
abbrev ug (t : Nat) (b : Bool) (op : POp) : PG := ⟨none, some (t, b), op⟩
abbrev R := PC.region
abbrev D := PC.draw
abbrev S := PC.seq
abbrev C := PC.cond
abbrev K := PC.block
abbrev L := PC.loop
abbrev X := PC.exit
abbrev Q := PC.ret
abbrev Z := PC.skip
end Hp.T
end
section
namespace Hp.T
open Go
abbrev f_law37_SeekMore : FuncId := 3
abbrev f_law37_SeekOff : FuncId := 4
abbrev f_law37_SeekJudged : FuncId := 5
abbrev f_law40_BestLeast : FuncId := 6
abbrev f_law40_BestTells : FuncId := 7
abbrev f_law40_BestUnder : FuncId := 8
abbrev f_law40_BestOff : FuncId := 9
abbrev f_law40_BestAgain : FuncId := 10
abbrev f_law37_small : FuncId := 11
abbrev f_law37_heads : FuncId := 12
abbrev f_seek_Seek : FuncId := 13
abbrev f_ref37_Same : FuncId := 14
abbrev f_ref37_Few : FuncId := 15
abbrev f_seek_Bound : FuncId := 16
abbrev f_ref28_Ons : FuncId := 17
abbrev f_ref28_Without : FuncId := 18
abbrev f_ref32_Judge : FuncId := 19
abbrev f_law40_small : FuncId := 20
abbrev f_law40_heads : FuncId := 21
abbrev f_best_Best : FuncId := 22
abbrev f_ref37_Bound : FuncId := 23
abbrev f_ref40_Least : FuncId := 24
abbrev f_ref40_None : FuncId := 25
abbrev f_ref21_Of : FuncId := 26
abbrev f_ref28_Kept : FuncId := 27
abbrev f_law40_few : FuncId := 28
abbrev f_best_Right : FuncId := 29
abbrev f_ref40_Right : FuncId := 30
abbrev f_ref28_Same : FuncId := 31
abbrev f_best_Under : FuncId := 32
abbrev f_ref40_Under : FuncId := 33
abbrev f_ref28_Right : FuncId := 34
abbrev f_ref19_Same : FuncId := 35
abbrev f_ref31_Same : FuncId := 36
abbrev f_law37_away : FuncId := 37
abbrev f_seek_Right : FuncId := 38
abbrev f_reason_Right : FuncId := 39
abbrev f_lit_New : FuncId := 40
abbrev f_seek_Seek_1 : FuncId := 41
abbrev f_seek_search_run : FuncId := 42
abbrev f_ref17_Plans : FuncId := 43
abbrev f_problem_Plans : FuncId := 44
abbrev f_ref28_All : FuncId := 45
abbrev f_ref28_Has : FuncId := 46
abbrev f_ref28_On : FuncId := 47
abbrev f_ref32_Checked : FuncId := 48
abbrev f_ref32_wrong : FuncId := 49
abbrev f_law40_some : FuncId := 50
abbrev f_price_Of : FuncId := 51
abbrev f_ref19_All : FuncId := 52
abbrev f_ref19_Whole : FuncId := 53
abbrev f_ref21_Least : FuncId := 54
abbrev f_ref20_Left : FuncId := 55
abbrev f_ref28_Spent : FuncId := 56
abbrev f_reason_Kept : FuncId := 57
abbrev f_judge_Judge : FuncId := 58
abbrev f_ref17_Same : FuncId := 59
abbrev f_ref28_Rows : FuncId := 60
abbrev f_ref28_ints : FuncId := 61
abbrev f_problem_Copy : FuncId := 62
abbrev f_ref17_Right : FuncId := 63
abbrev f_ref28_Less : FuncId := 64
abbrev f_ref19_Right : FuncId := 65
abbrev f_ref28_weights : FuncId := 66
abbrev f_ref03_Ints : FuncId := 67
abbrev f_problem_Right : FuncId := 68
abbrev f_reason_off : FuncId := 69
abbrev f_plan_Right : FuncId := 70
abbrev f_reason_weights : FuncId := 71
abbrev f_plan_Empty : FuncId := 72
abbrev f_spring_Broken : FuncId := 73
abbrev f_seek_search_broken : FuncId := 74
abbrev f_seek_search_solve : FuncId := 75
abbrev f_seek_search_steps : FuncId := 76
abbrev f_ref13_Seats : FuncId := 77
abbrev f_class_Count : FuncId := 78
abbrev f_ref31_Right : FuncId := 79
abbrev f_ref29_Right : FuncId := 80
abbrev f_ref30_Follows : FuncId := 81
abbrev f_ref32_Clauses : FuncId := 82
abbrev f_plan_Whole : FuncId := 83
abbrev f_price_Least : FuncId := 84
abbrev f_ref13_Whole : FuncId := 85
abbrev f_ref21_Parts : FuncId := 86
abbrev f_ref20_Faults : FuncId := 87
abbrev f_ref20_Among : FuncId := 88
abbrev f_ref20_By : FuncId := 89
abbrev f_ref22_Weight : FuncId := 90
abbrev f_check_Left : FuncId := 91
abbrev f_reason_Spent : FuncId := 92
abbrev f_judge_open : FuncId := 93
abbrev f_judge_court_take : FuncId := 94
abbrev f_ref14_Rows : FuncId := 95
abbrev f_ref11_Same : FuncId := 96
abbrev f_ref12_Same : FuncId := 97
abbrev f_ref13_Same : FuncId := 98
abbrev f_ref14_Same : FuncId := 99
abbrev f_ref17_sameRule : FuncId := 100
abbrev f_sl_Clone_Room_Room : FuncId := 101
abbrev f_sl_Clone_When_When : FuncId := 102
abbrev f_problem_rows : FuncId := 103
abbrev f_sl_Clone_Person_Person : FuncId := 104
abbrev f_sl_Clone_Class_Class : FuncId := 105
abbrev f_sl_Clone_int_int : FuncId := 106
abbrev f_sl_Clone_Time_Time : FuncId := 107
abbrev f_sl_Clone_Place_Place : FuncId := 108
abbrev f_sl_Clone_Course_Course : FuncId := 109
abbrev f_sl_Clone_Way_Way : FuncId := 110
abbrev f_sl_Clone_Student_Student : FuncId := 111
abbrev f_sl_Clone_Rule_Rule : FuncId := 112
abbrev f_ref17_Check : FuncId := 113
abbrev f_ref13_Seat : FuncId := 114
abbrev f_problem_Check : FuncId := 115
abbrev f_reason_is : FuncId := 116
abbrev f_reason_Less : FuncId := 117
abbrev f_plan_each : FuncId := 118
abbrev f_class_Seat : FuncId := 119
abbrev f_sl_ContainsFunc_int_int : FuncId := 120
abbrev f_reason_weights_1 : FuncId := 121
abbrev f_spring_open : FuncId := 122
abbrev f_spring_state_broken : FuncId := 123
abbrev f_seek_search_add : FuncId := 124
abbrev f_seek_search_next : FuncId := 125
abbrev f_seek_search_choices : FuncId := 126
abbrev f_seek_search_try : FuncId := 127
abbrev f_lit_Map_Of : FuncId := 128
abbrev f_sl_Contains_int_int : FuncId := 129
abbrev f_lit_Sort : FuncId := 130
abbrev f_seek_search_has : FuncId := 131
abbrev f_ref27_Sort : FuncId := 132
abbrev f_ref29_is : FuncId := 133
abbrev f_ref30_Close : FuncId := 134
abbrev f_ref30_Turn : FuncId := 135
abbrev f_ref30_Lits : FuncId := 136
abbrev f_class_Whole : FuncId := 137
abbrev f_price_Parts : FuncId := 138
abbrev f_ref21_time : FuncId := 139
abbrev f_ref21_place : FuncId := 140
abbrev f_ref21_Rule : FuncId := 141
abbrev f_ref20_one : FuncId := 142
abbrev f_ref20_two : FuncId := 143
abbrev f_ref20_rule : FuncId := 144
abbrev f_ref22_Moved : FuncId := 145
abbrev f_ref22_Of : FuncId := 146
abbrev f_sl_DeleteFunc_Fault_Fault : FuncId := 147
abbrev f_check_Faults : FuncId := 148
abbrev f_check_Left_1 : FuncId := 149
abbrev f_sl_Contains_Reason_Reason : FuncId := 150
abbrev f_check_By : FuncId := 151
abbrev f_diff_Weight : FuncId := 152
abbrev f_unit_New : FuncId := 153
abbrev f_proof_Right : FuncId := 154
abbrev f_axiom_Right : FuncId := 155
abbrev f_judge_court_follows : FuncId := 156
abbrev f_unit_Unit_Add : FuncId := 157
abbrev f_ref11_Rows : FuncId := 158
abbrev f_sl_Clone__int__int : FuncId := 159
abbrev f_ref11_Name : FuncId := 160
abbrev f_ref09_RightGrid : FuncId := 161
abbrev f_ref17_rooms : FuncId := 162
abbrev f_ref11_RightWalk : FuncId := 163
abbrev f_ref17_persons : FuncId := 164
abbrev f_ref17_classes : FuncId := 165
abbrev f_ref17_courses : FuncId := 166
abbrev f_ref17_students : FuncId := 167
abbrev f_ref17_rules : FuncId := 168
abbrev f_ref17_weigh : FuncId := 169
abbrev f_room_Name : FuncId := 170
abbrev f_when_RightGrid : FuncId := 171
abbrev f_problem_bad_Room : FuncId := 172
abbrev f_problem_roomName : FuncId := 173
abbrev f_problem_Check_1 : FuncId := 174
abbrev f_room_Right : FuncId := 175
abbrev f_room_RightWalk : FuncId := 176
abbrev f_problem_bad_Person : FuncId := 177
abbrev f_problem_personName : FuncId := 178
abbrev f_problem_Check_2 : FuncId := 179
abbrev f_person_Right : FuncId := 180
abbrev f_problem_bad_Class : FuncId := 181
abbrev f_problem_className : FuncId := 182
abbrev f_problem_Check_3 : FuncId := 183
abbrev f_class_Right : FuncId := 184
abbrev f_problem_bad_Course : FuncId := 185
abbrev f_problem_courseName : FuncId := 186
abbrev f_problem_Check_4 : FuncId := 187
abbrev f_course_Right : FuncId := 188
abbrev f_problem_bad_Student : FuncId := 189
abbrev f_problem_studentName : FuncId := 190
abbrev f_problem_Check_5 : FuncId := 191
abbrev f_problem_student : FuncId := 192
abbrev f_problem_bad_Rule : FuncId := 193
abbrev f_problem_Check_6 : FuncId := 194
abbrev f_problem_Rule : FuncId := 195
abbrev f_problem_cost : FuncId := 196
abbrev f_sl_IndexFunc_int_int : FuncId := 197
abbrev f_spring_state_axiom : FuncId := 198
abbrev f_spring_state_hall : FuncId := 199
abbrev f_lit_Map_Fixed : FuncId := 200
abbrev f_seek_key : FuncId := 201
abbrev f_seek_search_open : FuncId := 202
abbrev f_spring_Free : FuncId := 203
abbrev f_spring_Bars : FuncId := 204
abbrev f_seek_with : FuncId := 205
abbrev f_lit_Map_Place : FuncId := 206
abbrev f_lit_Map_Time : FuncId := 207
abbrev f_sl_Index_int_int : FuncId := 208
abbrev f_sl_DeleteFunc_int_int : FuncId := 209
abbrev f_lit_Sort_1 : FuncId := 210
abbrev f_sl_SortFunc_int_int : FuncId := 211
abbrev f_lit_Sort_2 : FuncId := 212
abbrev f_cmp_Or_int : FuncId := 213
abbrev f_cmp_Compare_uint : FuncId := 214
abbrev f_lit_size : FuncId := 215
abbrev f_cmp_Compare_int : FuncId := 216
abbrev f_sl_Compact_int_int : FuncId := 217
abbrev f_ref27_Has : FuncId := 218
abbrev f_ref27_Ahead : FuncId := 219
abbrev f_ref29_Is : FuncId := 220
abbrev f_ref29_Needs : FuncId := 221
abbrev f_ref30_Both : FuncId := 222
abbrev f_ref30_False : FuncId := 223
abbrev f_ref30_one : FuncId := 224
abbrev f_price_ends : FuncId := 225
abbrev f_class_Cost : FuncId := 226
abbrev f_price_rule : FuncId := 227
abbrev f_ref16_Known : FuncId := 228
abbrev f_ref19_Whens : FuncId := 229
abbrev f_ref16_Least : FuncId := 230
abbrev f_ref21_twos : FuncId := 231
abbrev f_ref17_Teaches : FuncId := 232
abbrev f_ref11_Meets : FuncId := 233
abbrev f_ref20_Spot : FuncId := 234
abbrev f_ref11_Fits : FuncId := 235
abbrev f_ref20_never : FuncId := 236
abbrev f_ref09_Meet : FuncId := 237
abbrev f_ref16_Broken : FuncId := 238
abbrev f_ref20_Place : FuncId := 239
abbrev f_ref22_moved : FuncId := 240
abbrev f_sl_IndexFunc_Fault_Fault : FuncId := 241
abbrev f_class_Spot : FuncId := 242
abbrev f_check_table_alone : FuncId := 243
abbrev f_check_table_twos : FuncId := 244
abbrev f_check_table_rule : FuncId := 245
abbrev f_sl_SortStableFunc_Fault_Fault : FuncId := 246
abbrev f_check_order : FuncId := 247
abbrev f_sl_Index_Reason_Reason : FuncId := 248
abbrev f_diff_Moved : FuncId := 249
abbrev f_diff_Of : FuncId := 250
abbrev f_unit_fresh : FuncId := 251
abbrev f_unit_Unit_put : FuncId := 252
abbrev f_unit_Unit_look : FuncId := 253
abbrev f_proof_Right_1 : FuncId := 254
abbrev f_sl_Equal_int_int : FuncId := 255
abbrev f_axiom_open : FuncId := 256
abbrev f_axiom_book_is : FuncId := 257
abbrev f_unit_Unit_Conflict : FuncId := 258
abbrev f_unit_Unit_Back : FuncId := 259
abbrev f_unit_Unit_Assume : FuncId := 260
abbrev f_unit_Unit_ready : FuncId := 261
abbrev f_ref11_Right : FuncId := 262
abbrev f_ref17_first : FuncId := 263
abbrev f_ref12_Right : FuncId := 264
abbrev f_ref13_Right : FuncId := 265
abbrev f_ref14_Right : FuncId := 266
abbrev f_ref17_student : FuncId := 267
abbrev f_ref17_Rule : FuncId := 268
abbrev f_when_within : FuncId := 269
abbrev f_room_Right_1 : FuncId := 270
abbrev f_when_Right : FuncId := 271
abbrev f_sl_ContainsFunc_When_When : FuncId := 272
abbrev f_person_Right_1 : FuncId := 273
abbrev f_class_folk : FuncId := 274
abbrev f_class_times : FuncId := 275
abbrev f_class_places : FuncId := 276
abbrev f_course_row : FuncId := 277
abbrev f_problem_rising : FuncId := 278
abbrev f_problem_distinct : FuncId := 279
abbrev f_pair_Known : FuncId := 280
abbrev f_many_Known : FuncId := 281
abbrev f_many_Right : FuncId := 282
abbrev f_spring_state_times : FuncId := 283
abbrev f_spring_state_places : FuncId := 284
abbrev f_when_Meet : FuncId := 285
abbrev f_spring_state_of : FuncId := 286
abbrev f_spring_state_rule : FuncId := 287
abbrev f_when_Moments : FuncId := 288
abbrev f_reason_On : FuncId := 289
abbrev f_strconv_Itoa : FuncId := 290
abbrev f_strings_Join : FuncId := 291
abbrev f_lit_Map_Len : FuncId := 292
abbrev f_lit_Map_What : FuncId := 293
abbrev f_spring_state_with : FuncId := 294
abbrev f_sl_Clone_Seat_Seat : FuncId := 295
abbrev f_lit_Map_number : FuncId := 296
abbrev f_sl_pdqsortCmpFunc_int : FuncId := 297
abbrev f_bits_Len : FuncId := 298
abbrev f_cmp_isNaN_uint : FuncId := 299
abbrev f_cmp_isNaN_int : FuncId := 300
abbrev f_ref27_size : FuncId := 301
abbrev f_ref27_Same : FuncId := 302
abbrev f_ref29_side : FuncId := 303
abbrev f_ref29_Turned : FuncId := 304
abbrev f_ref29_one : FuncId := 305
abbrev f_ref29_person : FuncId := 306
abbrev f_ref29_four : FuncId := 307
abbrev f_ref29_room : FuncId := 308
abbrev f_ref29_when : FuncId := 309
abbrev f_ref29_rule : FuncId := 310
abbrev f_ref29_hall : FuncId := 311
abbrev f_ref29_budget : FuncId := 312
abbrev f_ref29_Rooms : FuncId := 313
abbrev f_price_pairs : FuncId := 314
abbrev f_plan_Whens : FuncId := 315
abbrev f_many_Least : FuncId := 316
abbrev f_ref16_Over : FuncId := 317
abbrev f_ref19_Spot : FuncId := 318
abbrev f_ref15_Never : FuncId := 319
abbrev f_ref21_Walk : FuncId := 320
abbrev f_ref14_Has : FuncId := 321
abbrev f_ref13_Spot : FuncId := 322
abbrev f_ref20_Walk : FuncId := 323
abbrev f_ref09_SameDay : FuncId := 324
abbrev f_ref09_slots : FuncId := 325
abbrev f_ref22_side : FuncId := 326
abbrev f_check_table_timed : FuncId := 327
abbrev f_person_Away : FuncId := 328
abbrev f_check_table_note : FuncId := 329
abbrev f_check_table_placed : FuncId := 330
abbrev f_room_Fits : FuncId := 331
abbrev f_room_Shut : FuncId := 332
abbrev f_check_table_never : FuncId := 333
abbrev f_problem_Share : FuncId := 334
abbrev f_many_Broken : FuncId := 335
abbrev f_sl_stableCmpFunc_Fault : FuncId := 336
abbrev f_cmp_Compare_FaultKind : FuncId := 337
abbrev f_diff_other : FuncId := 338
abbrev f_unit_clean : FuncId := 339
abbrev f_unit_Unit_visit : FuncId := 340
abbrev f_unit_Unit_spread : FuncId := 341
abbrev f_axiom_book_all : FuncId := 342
abbrev f_axiom_book_one : FuncId := 343
abbrev f_axiom_book_sides : FuncId := 344
abbrev f_axiom_book_lone : FuncId := 345
abbrev f_axiom_book_two : FuncId := 346
abbrev f_axiom_book_rule : FuncId := 347
abbrev f_axiom_book_hall : FuncId := 348
abbrev f_axiom_book_budget : FuncId := 349
abbrev f_sl_DeleteFunc_Mark_Mark : FuncId := 350
abbrev f_unit_Unit_Back_1 : FuncId := 351
abbrev f_unit_Unit_level : FuncId := 352
abbrev f_ref11_Whens : FuncId := 353
abbrev f_ref13_Rising : FuncId := 354
abbrev f_ref13_times : FuncId := 355
abbrev f_ref13_places : FuncId := 356
abbrev f_ref15_Known : FuncId := 357
abbrev f_ref16_Right : FuncId := 358
abbrev f_when_tame : FuncId := 359
abbrev f_sl_IndexFunc_When_When : FuncId := 360
abbrev f_class_cheap : FuncId := 361
abbrev f_many_within : FuncId := 362
abbrev f_when_Both : FuncId := 363
abbrev f_pair_Needs : FuncId := 364
abbrev f_reason_among : FuncId := 365
abbrev f_sl_insertionSortCmpFunc_int : FuncId := 370
abbrev f_sl_heapSortCmpFunc_int : FuncId := 371
abbrev f_sl_breakPatternsCmpFunc_int : FuncId := 372
abbrev f_sl_choosePivotCmpFunc_int : FuncId := 373
abbrev f_sl_reverseRangeCmpFunc_int : FuncId := 374
abbrev f_sl_partialInsertionSortCmpFunc_int : FuncId := 375
abbrev f_sl_partitionEqualCmpFunc_int : FuncId := 376
abbrev f_sl_partitionCmpFunc_int : FuncId := 377
abbrev f_bits_Len32 : FuncId := 378
abbrev f_bits_Len64 : FuncId := 379
abbrev f_ref29_Choices : FuncId := 380
abbrev f_ref12_Reach : FuncId := 381
abbrev f_ref11_Walk : FuncId := 382
abbrev f_ref29_Plan : FuncId := 383
abbrev f_ref09_Moments : FuncId := 384
abbrev f_ref14_Insert : FuncId := 385
abbrev f_price_spots : FuncId := 386
abbrev f_pair_Never : FuncId := 387
abbrev f_price_walk : FuncId := 388
abbrev f_many_Over : FuncId := 389
abbrev f_ref16_Days : FuncId := 390
abbrev f_ref12_Busy : FuncId := 391
abbrev f_ref16_Blocks : FuncId := 392
abbrev f_ref15_rooms : FuncId := 393
abbrev f_ref15_Holds : FuncId := 394
abbrev f_ref09_bit : FuncId := 395
abbrev f_ref09_Tame : FuncId := 396
abbrev f_person_Away_1 : FuncId := 397
abbrev f_room_Shut_1 : FuncId := 398
abbrev f_check_table_walk : FuncId := 399
abbrev f_problem_folk : FuncId := 400
abbrev f_sl_Sort_int_int : FuncId := 401
abbrev f_sl_insertionSortCmpFunc_Fault : FuncId := 402
abbrev f_sl_symMergeCmpFunc_Fault : FuncId := 403
abbrev f_cmp_isNaN_FaultKind : FuncId := 404
abbrev f_unit_clean_1 : FuncId := 405
abbrev f_unit_is : FuncId := 406
abbrev f_unit_Unit_mark : FuncId := 407
abbrev f_sl_IndexFunc_axiom_side_axiom_side : FuncId := 408
abbrev f_axiom_book_sides_1 : FuncId := 409
abbrev f_axiom_book_on : FuncId := 410
abbrev f_axiom_book_teaches : FuncId := 411
abbrev f_axiom_book_when : FuncId := 412
abbrev f_axiom_book_room : FuncId := 413
abbrev f_person_Reach : FuncId := 414
abbrev f_room_Walk : FuncId := 415
abbrev f_lit_Map_Seats : FuncId := 416
abbrev f_axiom_turned : FuncId := 417
abbrev f_sl_ContainsFunc_Fault_Fault : FuncId := 418
abbrev f_axiom_book_rule_1 : FuncId := 419
abbrev f_axiom_book_rooms : FuncId := 420
abbrev f_axiom_book_hall_1 : FuncId := 421
abbrev f_sl_IndexFunc_Mark_Mark : FuncId := 422
abbrev f_unit_Unit_level_1 : FuncId := 423
abbrev f_ref09_Right : FuncId := 424
abbrev f_ref13_cost : FuncId := 425
abbrev f_ref16_from : FuncId := 426
abbrev f_when_SameDay : FuncId := 427
abbrev f_sl_siftDownCmpFunc_int : FuncId := 431
abbrev f_sl_nextPowerOfTwo : FuncId := 432
abbrev f_sl_xorshift_Next : FuncId := 433
abbrev f_sl_medianAdjacentCmpFunc_int : FuncId := 434
abbrev f_sl_medianCmpFunc_int : FuncId := 435
abbrev f_ref09_Gap : FuncId := 436
abbrev f_ref09_All : FuncId := 437
abbrev f_ref09_Of : FuncId := 438
abbrev f_ref09_On : FuncId := 439
abbrev f_pair_Holds : FuncId := 440
abbrev f_many_Days : FuncId := 441
abbrev f_person_Busy : FuncId := 442
abbrev f_many_days : FuncId := 443
abbrev f_many_Blocks : FuncId := 444
abbrev f_many_long : FuncId := 445
abbrev f_ref12_days : FuncId := 446
abbrev f_ref12_in : FuncId := 447
abbrev f_ref16_all : FuncId := 448
abbrev f_ref16_of : FuncId := 449
abbrev f_ref15_times : FuncId := 450
abbrev f_sl_pdqsortOrdered_int : FuncId := 451
abbrev f_sl_rotateCmpFunc_Fault : FuncId := 452
abbrev f_when_Gap : FuncId := 453
abbrev f_sl_order2CmpFunc_int : FuncId := 460
abbrev f_pair_slots : FuncId := 461
abbrev f_pair_inside : FuncId := 462
abbrev f_pair_ahead : FuncId := 463
abbrev f_pair_short : FuncId := 464
abbrev f_bits_OnesCount8 : FuncId := 465
abbrev f_person_slots : FuncId := 466
abbrev f_many_on : FuncId := 467
abbrev f_ref15_slots : FuncId := 468
abbrev f_ref15_inside : FuncId := 469
abbrev f_ref09_First : FuncId := 470
abbrev f_sl_insertionSortOrdered_int : FuncId := 471
abbrev f_sl_heapSortOrdered_int : FuncId := 472
abbrev f_sl_breakPatternsOrdered_int : FuncId := 473
abbrev f_sl_choosePivotOrdered_int : FuncId := 474
abbrev f_sl_reverseRangeOrdered_int : FuncId := 475
abbrev f_sl_partialInsertionSortOrdered_int : FuncId := 476
abbrev f_cmp_Less_int : FuncId := 477
abbrev f_sl_partitionEqualOrdered_int : FuncId := 478
abbrev f_sl_partitionOrdered_int : FuncId := 479
abbrev f_sl_swapRangeCmpFunc_Fault : FuncId := 480
abbrev f_when_First : FuncId := 485
abbrev f_sl_SortStableFunc_When_When : FuncId := 486
abbrev f_many_on_1 : FuncId := 487
abbrev f_sl_siftDownOrdered_int : FuncId := 488
abbrev f_sl_medianAdjacentOrdered_int : FuncId := 489
abbrev f_sl_medianOrdered_int : FuncId := 490
abbrev f_bits_TrailingZeros32 : FuncId := 491
abbrev f_when_Moment : FuncId := 493
abbrev f_when_low : FuncId := 494
abbrev f_sl_stableCmpFunc_When : FuncId := 495
abbrev f_sl_order2Ordered_int : FuncId := 496
abbrev f_sl_insertionSortCmpFunc_When : FuncId := 497
abbrev f_sl_symMergeCmpFunc_When : FuncId := 498
abbrev f_sl_rotateCmpFunc_When : FuncId := 499
abbrev f_sl_swapRangeCmpFunc_When : FuncId := 500
end Hp.T
end
section
namespace Hp.T
open Go Hp
def inlL : List Nat := [42, 74, 75, 94, 124, 125, 126, 127, 131, 147, 156, 157, 202, 209, 211, 217, 243, 244, 245, 246, 251, 252, 253, 258, 259, 260, 261, 297, 329, 336, 340, 341, 350, 351, 352, 370, 371, 372, 373, 374, 375, 376, 377, 401, 402, 403, 407, 423, 431, 433, 434, 435, 451, 452, 460, 471, 472, 473, 474, 475, 476, 478, 479, 480, 486, 488, 489, 490, 495, 496, 497, 498, 499, 500]
def ownL : List Nat := [101, 102, 104, 105, 106, 107, 108, 109, 110, 111, 112, 159, 295]
def extL : List Nat := [13, 41, 290, 291, 465, 491]
def innL : List Nat := [37, 93, 153]
def modeG (f g : Nat) : Mode :=
  if (Nat.beq f 416 && Nat.beq g 72) || (Nat.beq f 91 && Nat.beq g 148) then .inn
  else if innL.any (Nat.beq g) then .inn else if inlL.any (Nat.beq g) then .inl else if ownL.any (Nat.beq g) then .own else if extL.any (Nat.beq g) then .ext else .iso
def annG (f : Nat) : Ann := ⟨modeG f, .iso, 0⟩
end Hp.T
end
section
namespace Hp
open Go
def CLe (c c' : CallF) : Prop := ∀ f a h nx r, c f a h nx = some r → c' f a h nx = some r
def XLe (e e' : ExtF) : Prop := ∀ f b g, e f = some (b, g) → ∃ g', e' f = some (b, g') ∧ ∀ as r, g as = some r → g' as = some r
theorem CLe.refl (c : CallF) : CLe c c := fun _ _ _ _ _ h => h
theorem XLe.refl (e : ExtF) : XLe e e := fun _ _ g h => ⟨g, h, fun _ _ h => h⟩
variable {c c' d d' : CallF} {e e' : ExtF}
theorem iso_le (hc : CLe c c') {f : FuncId} {args : List PV} {h : Heap} {r : PV × Bool} (hx : isoCall c f args h = some r) : isoCall c' f args h = some r := by
  unfold isoCall at hx ⊢
  cases ha : reifyL (deref h deep) args with
  | none => simp [ha] at hx
  | some l =>
    simp only [ha] at hx ⊢
    cases hq : c f l .e 0 with
    | none => simp [hq] at hx
    | some q => rw [hq] at hx; rw [hc _ _ _ _ _ hq]; exact hx
theorem ext_le (he : XLe e e') {f : FuncId} {args : List PV} {h : Heap} {r : PV × Bool} (hx : extCall e f args h = some r) : extCall e' f args h = some r := by
  unfold extCall at hx ⊢
  split at hx
  case h_2 => cases hx
  rename_i g as hf ha
  obtain ⟨g', hf', hg⟩ := he _ _ _ hf
  simp only [hf', ha]
  cases hq : g as with
  | none => simp [hq] at hx
  | some q => rw [hq] at hx; rw [hg _ _ hq]; exact hx
theorem own_le (he : XLe e e') {f : FuncId} {args : List PV} {h : Heap} {r : Nat × List PV} (hx : ownCall e f args h = some r) : ownCall e' f args h = some r := by
  unfold ownCall at hx ⊢
  split at hx
  case h_2 => cases hx
  rename_i g as hf ha
  obtain ⟨g', hf', hg⟩ := he _ _ _ hf
  simp only [hf', ha]
  cases hq : g as with
  | none => simp [hq] at hx
  | some q => rw [hq] at hx; rw [hg _ _ hq]; exact hx
theorem callRun_le (hc : CLe c c') (he : XLe e e') {m : Mode} {f : FuncId} {args : List PV} {h : Heap} {nx : Nat} {r : OpOut} (hx : callRun c e m f args h nx = some r) : callRun c' e' m f args h nx = some r := by
  unfold callRun at hx ⊢
  cases m with
  | iso =>
    simp only at hx ⊢
    cases hq : isoCall c f args h with
    | none => simp [hq] at hx
    | some q => rw [hq] at hx; rw [iso_le hc hq]; exact hx
  | ext =>
    simp only at hx ⊢
    cases hq : extCall e f args h with
    | none => simp [hq] at hx
    | some q => rw [hq] at hx; rw [ext_le he hq]; exact hx
  | own =>
    simp only at hx ⊢
    cases hq : ownCall e f args h with
    | none => simp [hq] at hx
    | some q => rw [hq] at hx; rw [own_le he hq]; exact hx
  | inn =>
    simp only at hx ⊢
    split at hx
    case isFalse => cases hx
    rename_i hi
    rw [if_pos hi]
    cases hq : c f args .e nx with
    | none => simp [hq] at hx
    | some q => rw [hq] at hx; rw [hc _ _ _ _ _ hq]; exact hx
  | inl =>
    simp only at hx ⊢
    cases hq : c f args h nx with
    | none => simp [hq] at hx
    | some q => rw [hq] at hx; rw [hc _ _ _ _ _ hq]; exact hx
theorem opRun_le (hc : CLe c c') (he : XLe e e') {fr : Fr} {h : Heap} {nx : Nat} {op : POp} {r : OpOut} (hx : opRun c e fr h nx op = some r) : opRun c' e' fr h nx op = some r := by
  cases op with
  | call m f args => exact callRun_le hc he hx
  | callv m g args =>
    simp only [opRun] at hx ⊢
    split at hx
    · exact callRun_le hc he hx
    · cases hx
  | _ => exact hx
theorem ops_le (hc : CLe c c') (he : XLe e e') : ∀ {l : List PG} {s : S} {r : PExit × S}, ops c e l s = some r → ops c' e' l s = some r
  | [], _, _, h => h
  | g :: l, s, r, h => by
    simp only [ops] at h ⊢
    split at h
    · cases h
    · rename_i hw; exact ops_le hc he h
    · rename_i hw
      split at h
      · cases h
      · rename_i v h' nx' ho; simp only [opRun_le hc he ho]; exact ops_le hc he h
      · rename_i v h' nx' ho; simp only [opRun_le hc he ho]; exact h
      · rename_i f a ho; simp only [opRun_le hc he ho]; exact ops_le hc he h
theorem one_le (hc : CLe c c') (he : XLe e e') {g : PG} {nx : Nat} {fr : Fr} {h : Heap} {r : Fr × Heap × Nat × Touch} (hx : one c e g nx fr h = some r) : one c' e' g nx fr h = some r := by
  unfold one at hx ⊢
  split at hx
  · cases hx
  · exact hx
  · split at hx
    · rename_i v h' nx' ho; simp only [opRun_le hc he ho]; exact hx
    · cases hx
theorem drawn_le (hc : CLe c c') (he : XLe e e') : ∀ {l : List PG} {fr : Fr} {h : Heap} {nx : Nat} {r : Fr × Heap × Nat × List Touch}, drawn c e l fr h nx = some r → drawn c' e' l fr h nx = some r
  | [], _, _, _, _, h => h
  | g :: l, fr, h, nx, r, hx => by
    simp only [drawn] at hx ⊢
    split at hx
    case h_2 => cases hx
    rename_i fr' h' nx' t ho
    simp only [one_le hc he ho]
    split at hx
    case h_2 => cases hx
    rename_i fr'' h'' nx'' ts hd
    simp only [drawn_le hc he hd]; exact hx
theorem iter_le {f f' : S → Option (PExit × S)} (hf : ∀ s r, f s = some r → f' s = some r) (live : List Nat) : ∀ {n m : Nat} {s : S} {r : PExit × S}, n ≤ m → iter f live n s = some r → iter f' live m s = some r
  | 0, _, _, _, _, h => by cases h
  | n + 1, 0, _, _, hm, _ => by omega
  | n + 1, m + 1, s, r, hm, h => by
    simp only [iter] at h ⊢
    split at h
    · rename_i s' hs; rw [hf _ _ hs]; exact iter_le hf live (by omega) h
    · rename_i hne
      rw [hf _ _ h]
      cases r with
      | mk x s' => cases x <;> first | rfl | exact absurd h (hne s')
theorem exec_le (hc : CLe c c') (he : XLe e e') {n m : Nat} (hm : n ≤ m) : ∀ {pc : PC} {s : S} {r : PExit × S}, exec c e n pc s = some r → exec c' e' m pc s = some r := by
  intro pc
  induction pc with
  | region l => intro s r h; exact ops_le hc he h
  | draw un l =>
    intro s r h
    simp only [exec] at h ⊢
    split at h
    case h_2 => cases h
    rename_i fr h' nx ts hd
    simp only [drawn_le hc he hd]; exact h
  | seq a b iha ihb =>
    intro s r h
    simp only [exec] at h ⊢
    split at h
    · rename_i s' hs; rw [iha hs]; exact ihb h
    · rename_i hne
      rw [iha h]
      cases r with
      | mk x s' => cases x <;> first | rfl | exact absurd h (hne s')
  | cond c0 a b iha ihb =>
    intro s r h
    simp only [exec] at h ⊢
    split at h
    · rename_i t ht
      split at h
      · rename_i h1; rw [if_pos h1]; exact iha h
      · rename_i h1; rw [if_neg h1]; exact ihb h
    · cases h
  | block id a iha =>
    intro s r h
    simp only [exec] at h ⊢
    split at h
    · rename_i id' s' hs; rw [iha hs]; exact h
    · rename_i hne
      rw [iha h]
      cases r with
      | mk x s' => cases x <;> first | rfl | exact absurd h (hne _ s')
  | loop live a iha => intro s r h; exact iter_le (fun s r h => iha h) live hm h
  | _ => intro s r h; exact h
theorem runDf_le (hc : CLe c c') : ∀ {l : List (FuncId × List PV)} {h : Heap} {nx : Nat} {r : Heap × Nat}, runDf c l h nx = some r → runDf c' l h nx = some r
  | [], _, _, _, h => h
  | (f, args) :: l, h, nx, r, hx => by
    simp only [runDf] at hx ⊢
    split at hx
    · rename_i v h' nx' hq; rw [hc _ _ _ _ _ hq]; exact runDf_le hc hx
    · cases hx
theorem fin_le (hd : CLe d d') {pf : PF} {s : S} {r : Out × Heap × Nat} (hx : fin d pf s = some r) : fin d' pf s = some r := by
  unfold fin at hx ⊢
  split at hx
  · rename_i h nx hq; rw [runDf_le hd hq]; exact hx
  · cases hx
theorem runFn_le (hc : CLe c c') (hd : CLe d d') (he : XLe e e') {n m : Nat} (hm : n ≤ m) {pf : PF} {args : List PV} {h : Heap} {nx : Nat} {r : Out × Heap × Nat}
    (hx : runFn c d e n pf args h nx = some r) : runFn c' d' e' m pf args h nx = some r := by
  unfold runFn at hx ⊢
  split at hx
  · rename_i s hs; rw [exec_le hc he hm hs]; exact fin_le hd hx
  · rename_i s hs; rw [exec_le hc he hm hs]; exact fin_le hd hx
  · rename_i v s hs
    rw [exec_le hc he hm hs]; exact hx
  · cases hx
structure ELe (E E' : Env) : Prop where
  fns : ∀ f pf, E.fns f = some pf → E'.fns f = some pf
  ext : XLe E.ext E'.ext
theorem dcall_le {E E' : Env} (hE : ELe E E') (hc : CLe c c') {n m : Nat} (hm : n ≤ m) : CLe (dcall E c n) (dcall E' c' m) := by
  intro f a h nx r hx
  unfold dcall at hx ⊢
  split at hx
  · rename_i pf hp; rw [hE.fns _ _ hp]; exact runFn_le hc (CLe.refl _) hE.ext hm hx
  · cases hx
theorem callN_le {E E' : Env} (hE : ELe E E') : ∀ {n m : Nat}, n ≤ m → CLe (callN E n) (callN E' m)
  | 0, _, _ => fun f a h nx r hx => by cases hx
  | n + 1, 0, h => by omega
  | n + 1, m + 1, h => by
    intro f a hh nx r hx
    have hc := callN_le hE (show n ≤ m by omega)
    simp only [callN] at hx ⊢
    split at hx
    · rename_i pf hp; rw [hE.fns _ _ hp]; exact runFn_le hc (dcall_le hE hc (by omega)) hE.ext (by omega) hx
    · cases hx
theorem ELe.refl (E : Env) : ELe E E := ⟨fun _ _ h => h, XLe.refl _⟩
theorem execN_le {E E' : Env} (hE : ELe E E') {n m : Nat} (h : n ≤ m) {pc : PC} {s : S} {r : PExit × S} (hx : exec (callN E n) E.ext n pc s = some r) : exec (callN E' m) E'.ext m pc s = some r :=
  exec_le (callN_le hE h) hE.ext h hx
end Hp
end
section
namespace Hp.T
open Go Hp
/-- a slice that came in: nothing is known of its room -/
structure Sl (α : Type) where
  fu : Bool
  sz : Nat
  l : List α
def Sl.e {α : Type} (f : α → PV) (s : Sl α) : PV := .isl s.fu s.sz (s.l.map f)
/-- its elements are so wide -/
def Sl.ok {α : Type} (s : Sl α) (k : Nat) : Prop := s.l = [] ∨ s.sz = k
def u32 (n : Int) : PV := .int .u32 n
def u8 (n : Int) : PV := .int .u8 n
def u16 (n : Int) : PV := .int .u16 n
structure Grid where (weeks days slots : Int) deriving DecidableEq
def Grid.e (g : Grid) : PV := .agg [i64 g.weeks, i64 g.days, i64 g.slots]
structure When where (weeks : BitVec 32) (days : BitVec 8) (start len : Int) deriving DecidableEq
def When.e (w : When) : PV := .agg [.int .u32 w.weeks.toNat, .int .u8 w.days.toNat, i64 w.start, i64 w.len]
structure Room where (name : ByteArray) (seats : Int) (gear : BitVec 16) (shut : Sl When)
def Room.e (r : Room) : PV := .agg [.str r.name, i64 r.seats, .int .u16 r.gear.toNat, r.shut.e When.e]
structure Person where (name : ByteArray) (away : Sl When)
def Person.e (p : Person) : PV := .agg [.str p.name, p.away.e When.e]
structure Time where (when : When) (cost : Int) deriving DecidableEq
def Time.e (t : Time) : PV := .agg [.int .u32 t.when.weeks.toNat, .int .u8 t.when.days.toNat, i64 t.when.start, i64 t.when.len, i64 t.cost]
structure Place where (room cost : Int) deriving DecidableEq
def Place.e (p : Place) : PV := .agg [i64 p.room, i64 p.cost]
structure Class where (name : ByteArray) (seats : Int) (gear : BitVec 16) (persons : Sl Int) (times : Sl Time) (places : Sl Place) (over : Int)
def Class.e (c : Class) : PV := .agg [.str c.name, i64 c.seats, .int .u16 c.gear.toNat, c.persons.e i64, c.times.e Time.e, c.places.e Place.e, i64 c.over]
structure Way where (parts : Sl (Sl Int))
def Way.e (w : Way) : PV := .agg [w.parts.e (Sl.e i64)]
structure Course where (name : ByteArray) (ways : Sl Way)
def Course.e (c : Course) : PV := .agg [.str c.name, c.ways.e Way.e]
structure Student where (name : ByteArray) (courses : Sl Int)
def Student.e (s : Student) : PV := .agg [.str s.name, s.courses.e i64]
structure Rule where (kind : Int) (classes : Sl Int) (a b : Int) (hard : Bool) (cost : Int)
def Rule.e (r : Rule) : PV := .agg [i64 r.kind, r.classes.e i64, i64 r.a, i64 r.b, .bool r.hard, i64 r.cost]
structure Weigh where (time place rule clash : Int) deriving DecidableEq
structure Problem where
  name : ByteArray
  grid : Grid
  rooms : Sl Room
  walk : Sl (Sl Int)
  persons : Sl Person
  classes : Sl Class
  courses : Sl Course
  students : Sl Student
  rules : Sl Rule
  weigh : Weigh
def Problem.c (p : Problem) : List PV := [.str p.name, i64 p.grid.weeks, i64 p.grid.days, i64 p.grid.slots, p.rooms.e Room.e, p.walk.e (Sl.e i64), p.persons.e Person.e, p.classes.e Class.e, p.courses.e Course.e, p.students.e Student.e, p.rules.e Rule.e, i64 p.weigh.time, i64 p.weigh.place, i64 p.weigh.rule, i64 p.weigh.clash]
def Problem.e (p : Problem) : PV := .agg [.str p.name, i64 p.grid.weeks, i64 p.grid.days, i64 p.grid.slots, p.rooms.e Room.e, p.walk.e (Sl.e i64), p.persons.e Person.e, p.classes.e Class.e, p.courses.e Course.e, p.students.e Student.e, p.rules.e Rule.e, i64 p.weigh.time, i64 p.weigh.place, i64 p.weigh.rule, i64 p.weigh.clash]
structure Seat where (time place : Int) deriving DecidableEq
def Seat.e (s : Seat) : PV := .agg [i64 s.time, i64 s.place]
structure Spot where (when : When) (room : Int) deriving DecidableEq
def Spot.e (s : Spot) : PV := .agg [.int .u32 s.when.weeks.toNat, .int .u8 s.when.days.toNat, i64 s.when.start, i64 s.when.len, i64 s.room]
structure Fault where (kind cls other index : Int) deriving DecidableEq
def Fault.e (f : Fault) : PV := .agg [i64 f.kind, i64 f.cls, i64 f.other, i64 f.index]
structure Reason where (kind index : Int) deriving DecidableEq
def Reason.e (r : Reason) : PV := .agg [i64 r.kind, i64 r.index]
structure Ask where (problem : Problem) (off : Sl Reason) (budget : Int) (old : Sl Seat) (weights : Sl Int) (most : Int)
def Ask.e (a : Ask) : PV := .agg [.str a.problem.name, i64 a.problem.grid.weeks, i64 a.problem.grid.days, i64 a.problem.grid.slots, a.problem.rooms.e Room.e, a.problem.walk.e (Sl.e i64), a.problem.persons.e Person.e, a.problem.classes.e Class.e, a.problem.courses.e Course.e, a.problem.students.e Student.e, a.problem.rules.e Rule.e, i64 a.problem.weigh.time, i64 a.problem.weigh.place, i64 a.problem.weigh.rule, i64 a.problem.weigh.clash, a.off.e Reason.e, i64 a.budget, a.old.e Seat.e, a.weights.e i64, i64 a.most]
structure Choice where (cls : Int) (place : Bool) (index : Int) deriving DecidableEq
def Choice.e (c : Choice) : PV := .agg [i64 c.cls, .bool c.place, i64 c.index]
structure Step where (kind index : Int) (lits : Sl Int)
def Step.e (s : Step) : PV := .agg [i64 s.kind, i64 s.index, s.lits.e i64]
/-! what is told of data, whatever room it has -/
structure RoomK where (name : ByteArray) (seats : Int) (gear : BitVec 16) (shut : List When) deriving DecidableEq
structure PersonK where (name : ByteArray) (away : List When) deriving DecidableEq
structure ClassK where (name : ByteArray) (seats : Int) (gear : BitVec 16) (over : Int) (persons : List Int) (times : List Time) (places : List Place) deriving DecidableEq
structure CourseK where (name : ByteArray) (ways : List (List (List Int))) deriving DecidableEq
structure StudentK where (name : ByteArray) (courses : List Int) deriving DecidableEq
structure RuleK where (kind : Int) (classes : List Int) (a b : Int) (hard : Bool) (cost : Int) deriving DecidableEq
structure ProblemK where (name : ByteArray) (grid : Grid) (weigh : Weigh) (walk : List (List Int)) (rooms : List RoomK) (persons : List PersonK) (classes : List ClassK) (courses : List CourseK) (students : List StudentK) (rules : List RuleK) deriving DecidableEq
structure AskK where (problem : ProblemK) (off : List Reason) (budget : Int) (old : List Seat) (weights : List Int) (most : Int) deriving DecidableEq
def Room.k (r : Room) : RoomK := ⟨r.name, r.seats, r.gear, r.shut.l⟩
def Person.k (r : Person) : PersonK := ⟨r.name, r.away.l⟩
def Class.k (r : Class) : ClassK := ⟨r.name, r.seats, r.gear, r.over, r.persons.l, r.times.l, r.places.l⟩
def Way.k (r : Way) : List (List Int) := r.parts.l.map Sl.l
def Course.k (r : Course) : CourseK := ⟨r.name, r.ways.l.map Way.k⟩
def Student.k (r : Student) : StudentK := ⟨r.name, r.courses.l⟩
def Rule.k (r : Rule) : RuleK := ⟨r.kind, r.classes.l, r.a, r.b, r.hard, r.cost⟩
def Problem.k (p : Problem) : ProblemK := ⟨p.name, p.grid, p.weigh, p.walk.l.map Sl.l, p.rooms.l.map Room.k, p.persons.l.map Person.k, p.classes.l.map Class.k, p.courses.l.map Course.k, p.students.l.map Student.k, p.rules.l.map Rule.k⟩
def Ask.k (a : Ask) : AskK := ⟨a.problem.k, a.off.l, a.budget, a.old.l, a.weights.l, a.most⟩
/-- a slice as it may be: so wide, so long, its elements as they may be -/
structure Sl.good {α : Type} (k bytes : Nat) (P : α → Prop) (s : Sl α) : Prop where
  ok : s.ok k
  len : s.l.length * bytes ≤ 140737488351232
  all : ∀ a ∈ s.l, P a
def yes {α : Type} (_ : α) : Prop := True
def Room.good (r : Room) : Prop := r.shut.good 4 24 yes
def Person.good (r : Person) : Prop := r.away.good 4 24 yes
structure Class.good (r : Class) : Prop where
  persons : r.persons.good 1 8 yes
  times : r.times.good 5 32 yes
  places : r.places.good 2 16 yes
def Way.good (r : Way) : Prop := r.parts.good 1 24 (Sl.good 1 8 yes)
def Course.good (r : Course) : Prop := r.ways.good 1 24 Way.good
def Student.good (r : Student) : Prop := r.courses.good 1 8 yes
def Rule.good (r : Rule) : Prop := r.classes.good 1 8 yes
structure Problem.good (p : Problem) : Prop where
  rooms : p.rooms.good 4 56 Room.good
  walk : p.walk.good 1 24 (Sl.good 1 8 yes)
  persons : p.persons.good 2 40 Person.good
  classes : p.classes.good 7 112 Class.good
  courses : p.courses.good 2 40 Course.good
  students : p.students.good 2 40 Student.good
  rules : p.rules.good 6 64 Rule.good
structure Ask.good (a : Ask) : Prop where
  problem : a.problem.good
  off : a.off.good 2 16 yes
  old : a.old.good 2 16 yes
  weights : a.weights.good 1 8 yes
theorem Sl.good.le {α : Type} {k bytes : Nat} {P : α → Prop} {s : Sl α} (h : s.good k bytes P) (hb : 0 < bytes := by decide) : s.l.length ≤ 140737488351232 := Nat.le_trans (Nat.le_mul_of_pos_right _ hb) h.len
/-! data alone -/
theorem immL_map {α : Type} (f : α → PV) (l : List α) (h : ∀ x, imm (f x) = true) : immL (l.map f) = true := by
  induction l with
  | nil => rfl
  | cons x l ih => simp [immL, h, ih]
@[simp] theorem imm_Sl {α : Type} (f : α → PV) (s : Sl α) (h : ∀ x, imm (f x) = true) : imm (s.e f) = true := by simp [Sl.e, imm, immL_map f s.l h]
@[simp] theorem imm_i64 (n : Int) : imm (i64 n) = true := rfl
@[simp] theorem imm_SlI (s : Sl Int) : imm (s.e i64) = true := imm_Sl _ _ imm_i64
@[simp] theorem imm_When (w : When) : imm w.e = true := rfl
@[simp] theorem imm_Grid (w : Grid) : imm w.e = true := rfl
@[simp] theorem imm_SlWhen (s : Sl When) : imm (s.e When.e) = true := imm_Sl _ _ imm_When
@[simp] theorem imm_Room (r : Room) : imm r.e = true := by simp [Room.e, imm, immL]
@[simp] theorem imm_Person (r : Person) : imm r.e = true := by simp [Person.e, imm, immL]
@[simp] theorem imm_Time (w : Time) : imm w.e = true := rfl
@[simp] theorem imm_Place (w : Place) : imm w.e = true := rfl
@[simp] theorem imm_SlTime (s : Sl Time) : imm (s.e Time.e) = true := imm_Sl _ _ imm_Time
@[simp] theorem imm_SlPlace (s : Sl Place) : imm (s.e Place.e) = true := imm_Sl _ _ imm_Place
@[simp] theorem imm_SlSlI (s : Sl (Sl Int)) : imm (s.e (Sl.e i64)) = true := imm_Sl _ _ imm_SlI
@[simp] theorem imm_SlRoom (s : Sl Room) : imm (s.e Room.e) = true := imm_Sl _ _ imm_Room
@[simp] theorem imm_SlPerson (s : Sl Person) : imm (s.e Person.e) = true := imm_Sl _ _ imm_Person
@[simp] theorem imm_Class (r : Class) : imm r.e = true := by simp [Class.e, imm, immL]
@[simp] theorem imm_Way (r : Way) : imm r.e = true := by simp [Way.e, imm, immL]
@[simp] theorem imm_SlWay (s : Sl Way) : imm (s.e Way.e) = true := imm_Sl _ _ imm_Way
@[simp] theorem imm_SlClass (s : Sl Class) : imm (s.e Class.e) = true := imm_Sl _ _ imm_Class
@[simp] theorem imm_Course (r : Course) : imm r.e = true := by simp [Course.e, imm, immL]
@[simp] theorem imm_Student (r : Student) : imm r.e = true := by simp [Student.e, imm, immL]
@[simp] theorem imm_Rule (r : Rule) : imm r.e = true := by simp [Rule.e, imm, immL]
@[simp] theorem imm_SlCourse (s : Sl Course) : imm (s.e Course.e) = true := imm_Sl _ _ imm_Course
@[simp] theorem imm_SlStudent (s : Sl Student) : imm (s.e Student.e) = true := imm_Sl _ _ imm_Student
@[simp] theorem imm_SlRule (s : Sl Rule) : imm (s.e Rule.e) = true := imm_Sl _ _ imm_Rule
@[simp] theorem imm_Problem (r : Problem) : imm r.e = true := by simp [Problem.e, imm, immL]
@[simp] theorem imm_Seat (w : Seat) : imm w.e = true := rfl
@[simp] theorem imm_Spot (w : Spot) : imm w.e = true := rfl
@[simp] theorem imm_Fault (w : Fault) : imm w.e = true := rfl
@[simp] theorem imm_Reason (w : Reason) : imm w.e = true := rfl
@[simp] theorem imm_SlSeat (s : Sl Seat) : imm (s.e Seat.e) = true := imm_Sl _ _ imm_Seat
@[simp] theorem imm_SlReason (s : Sl Reason) : imm (s.e Reason.e) = true := imm_Sl _ _ imm_Reason
@[simp] theorem imm_Ask (r : Ask) : imm r.e = true := by simp [Ask.e, imm, immL]
@[simp] theorem imm_Choice (w : Choice) : imm w.e = true := rfl
@[simp] theorem imm_Step (w : Step) : imm w.e = true := by simp [Step.e, imm, immL]
end Hp.T
end
