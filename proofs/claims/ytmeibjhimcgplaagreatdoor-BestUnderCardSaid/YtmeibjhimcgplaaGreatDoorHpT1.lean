/- Texts. -/
import Derived.Test.YtmeibjhimcgplaaGreatDoorHpD
set_option linter.all false
set_option maxRecDepth 100000
namespace Hp.T
open Go
def pf_sl_pdqsortCmpFunc_int : PF := ⟨5, [],
 (S (R [g 10 (.mv (b true))])
 (S (R [g 11 (.mv (b true))])
 (K 0
 (L [0, 1, 2, 3, 4, 10, 11]
 (K 1
 (S (R [g 21 (.mv (t 2)),
 g 22 (.mv (t 1)),
 g 23 (.bin .sub (t 21) (t 22)),
 g 12 (.mv (t 23))])
 (S (S (R [g 24 (.mv (t 12)),
 g 25 (.bin .leq (t 24) (i 12))])
 (C (t 25)
 (S (R [g 26 (.mv (t 0)),
 g 27 (.mv (t 1)),
 g 28 (.mv (t 2)),
 g 29 (.mv (t 4)),
 g 30 (.call .inl f_sl_insertionSortCmpFunc_int [(t 26), (t 27), (t 28), (t 29)])])
 Q)
 Z))
 (S (S (R [g 31 (.mv (t 3)),
 g 32 (.bin .eql (t 31) (i 0))])
 (C (t 32)
 (S (R [g 33 (.mv (t 0)),
 g 34 (.mv (t 1)),
 g 35 (.mv (t 2)),
 g 36 (.mv (t 4)),
 g 37 (.call .inl f_sl_heapSortCmpFunc_int [(t 33), (t 34), (t 35), (t 36)])])
 Q)
 Z))
 (S (S (R [g 38 (.mv (t 10)),
 g 39 (.un .not (t 38))])
 (C (t 39)
 (S (R [g 40 (.mv (t 0)),
 g 41 (.mv (t 1)),
 g 42 (.mv (t 2)),
 g 43 (.mv (t 4)),
 g 44 (.call .inl f_sl_breakPatternsCmpFunc_int [(t 40), (t 41), (t 42), (t 43)])])
 (R [g 45 (.mv (t 3)),
 g 46 (.bin .sub (t 45) (i 1)),
 g 3 (.mv (t 46))]))
 Z))
 (S (R [g 48 (.mv (t 0)),
 g 49 (.mv (t 1)),
 g 50 (.mv (t 2)),
 g 51 (.mv (t 4)),
 g 52 (.call .inl f_sl_choosePivotCmpFunc_int [(t 48), (t 49), (t 50), (t 51)]),
 g 47 (.mv (t 52)),
 g 53 (.ext (t 47) 0),
 g 54 (.ext (t 47) 1),
 g 13 (.mv (t 53)),
 g 14 (.mv (t 54))])
 (S (S (R [g 55 (.mv (t 14)),
 g 56 (.bin .eql (t 55) (i 2))])
 (C (t 56)
 (S (R [g 57 (.mv (t 0)),
 g 58 (.mv (t 1)),
 g 59 (.mv (t 2)),
 g 60 (.mv (t 4)),
 g 61 (.call .inl f_sl_reverseRangeCmpFunc_int [(t 57), (t 58), (t 59), (t 60)])])
 (S (R [g 62 (.mv (t 2)),
 g 63 (.bin .sub (t 62) (i 1)),
 g 64 (.mv (t 13)),
 g 65 (.mv (t 1)),
 g 66 (.bin .sub (t 64) (t 65)),
 g 67 (.bin .sub (t 63) (t 66)),
 g 13 (.mv (t 67))])
 (R [g 14 (.mv (i 1))])))
 Z))
 (S (S (R [g 68 (.mv (t 10)),
 g 69 (.mv (t 68)),
 gg 70 69 true (.mv (t 11)),
 g 71 (.pick (t 69) (t 70) (b false)),
 g 72 (.mv (t 71)),
 gg 73 72 true (.mv (t 14)),
 gg 74 72 true (.bin .eql (t 73) (i 1)),
 g 75 (.pick (t 72) (t 74) (b false))])
 (C (t 75)
 (S (R [g 76 (.mv (t 0)),
 g 77 (.mv (t 1)),
 g 78 (.mv (t 2)),
 g 79 (.mv (t 4)),
 g 80 (.call .inl f_sl_partialInsertionSortCmpFunc_int [(t 76), (t 77), (t 78), (t 79)])])
 (C (t 80)
 Q
 Z))
 Z))
 (S (S (D [] [g 81 (.mv (t 1)),
 g 82 (.bin .gtr (t 81) (i 0)),
 g 83 (.mv (t 82)),
 gg 84 83 true (.mv (t 4)),
 gg 85 83 true (.mv (t 0)),
 gg 86 83 true (.mv (t 1)),
 gg 87 83 true (.bin .sub (t 86) (i 1)),
 gg 88 83 true (.iaddr 1 (t 85) (t 87)),
 gg 89 83 true (.load 1 false (t 88)),
 gg 90 83 true (.mv (t 0)),
 gg 91 83 true (.mv (t 13)),
 gg 92 83 true (.iaddr 1 (t 90) (t 91)),
 gg 93 83 true (.load 1 false (t 92)),
 gg 94 83 true (.callv .iso (t 84) [(t 89), (t 93)]),
 gg 95 83 true (.bin .lss (t 94) (i 0)),
 gg 96 83 true (.un .not (t 95)),
 g 97 (.pick (t 83) (t 96) (b false))])
 (C (t 97)
 (S (R [g 98 (.mv (t 0)),
 g 99 (.mv (t 1)),
 g 100 (.mv (t 2)),
 g 101 (.mv (t 13)),
 g 102 (.mv (t 4)),
 g 103 (.call .inl f_sl_partitionEqualCmpFunc_int [(t 98), (t 99), (t 100), (t 101), (t 102)]),
 g 15 (.mv (t 103))])
 (S (R [g 104 (.mv (t 15)),
 g 1 (.mv (t 104))])
 (X 1)))
 Z))
 (S (R [g 106 (.mv (t 0)),
 g 107 (.mv (t 1)),
 g 108 (.mv (t 2)),
 g 109 (.mv (t 13)),
 g 110 (.mv (t 4)),
 g 111 (.call .inl f_sl_partitionCmpFunc_int [(t 106), (t 107), (t 108), (t 109), (t 110)]),
 g 105 (.mv (t 111)),
 g 112 (.ext (t 105) 0),
 g 113 (.ext (t 105) 1),
 g 16 (.mv (t 112)),
 g 17 (.mv (t 113))])
 (S (R [g 114 (.mv (t 17)),
 g 11 (.mv (t 114))])
 (S (R [g 115 (.mv (t 16)),
 g 116 (.mv (t 1)),
 g 117 (.bin .sub (t 115) (t 116)),
 g 118 (.mv (t 2)),
 g 119 (.mv (t 16)),
 g 120 (.bin .sub (t 118) (t 119)),
 g 18 (.mv (t 117)),
 g 19 (.mv (t 120))])
 (S (R [g 121 (.mv (t 12)),
 g 122 (.bin .quo (t 121) (i 8)),
 g 20 (.mv (t 122))])
 (S (R [g 123 (.mv (t 18)),
 g 124 (.mv (t 19)),
 g 125 (.bin .lss (t 123) (t 124))])
 (C (t 125)
 (S (R [g 126 (.mv (t 18)),
 g 127 (.mv (t 20)),
 g 128 (.bin .geq (t 126) (t 127)),
 g 10 (.mv (t 128))])
 (S (R [g 129 (.mv (t 0)),
 g 130 (.mv (t 1)),
 g 131 (.mv (t 16)),
 g 132 (.mv (t 3)),
 g 133 (.mv (t 4)),
 g 134 (.call .inl f_sl_pdqsortCmpFunc_int [(t 129), (t 130), (t 131), (t 132), (t 133)])])
 (R [g 135 (.mv (t 16)),
 g 136 (.bin .add (t 135) (i 1)),
 g 1 (.mv (t 136))])))
 (S (R [g 137 (.mv (t 19)),
 g 138 (.mv (t 20)),
 g 139 (.bin .geq (t 137) (t 138)),
 g 10 (.mv (t 139))])
 (S (R [g 140 (.mv (t 0)),
 g 141 (.mv (t 16)),
 g 142 (.bin .add (t 141) (i 1)),
 g 143 (.mv (t 2)),
 g 144 (.mv (t 3)),
 g 145 (.mv (t 4)),
 g 146 (.call .inl f_sl_pdqsortCmpFunc_int [(t 140), (t 142), (t 143), (t 144), (t 145)])])
 (R [g 147 (.mv (t 16)),
 g 2 (.mv (t 147))]))))))))))))))))))))))⟩
def pf_bits_Len : PF := ⟨1, [.tmp 2],
 (S (R [g 2 (.mv (i 0))])
 (S (C (b false)
 (S (R [g 3 (.mv (t 0)),
 g 4 (.conv .u32 (t 3)),
 g 5 (.call .iso f_bits_Len32 [(t 4)]),
 g 2 (.mv (t 5))])
 Q)
 Z)
 (S (R [g 6 (.mv (t 0)),
 g 7 (.call .iso f_bits_Len64 [(t 6)]),
 g 2 (.mv (t 7))])
 Q)))⟩
def pf_check_table_timed : PF := ⟨2, [.tmp 4],
 (S (R [g 4 (.mv (b false))])
 (S (R [g 5 (.mv (t 0)),
 g 6 (.nilCheck (t 5)),
 g 7 (.faddr 15 (t 6)),
 g 8 (.load 1 false (t 7)),
 g 9 (.mv (t 1)),
 g 10 (.iaddr 2 (t 8) (t 9)),
 g 11 (.faddr 0 (t 10)),
 g 12 (.load 1 false (t 11)),
 g 13 (.bin .geq (t 12) (i 0)),
 g 4 (.mv (t 13))])
 Q))⟩
def pf_check_table_placed : PF := ⟨2, [.tmp 4],
 (S (R [g 4 (.mv (b false))])
 (S (R [g 5 (.mv (t 0)),
 g 6 (.nilCheck (t 5)),
 g 7 (.faddr 15 (t 6)),
 g 8 (.load 1 false (t 7)),
 g 9 (.mv (t 1)),
 g 10 (.iaddr 2 (t 8) (t 9)),
 g 11 (.faddr 1 (t 10)),
 g 12 (.load 1 false (t 11)),
 g 13 (.bin .geq (t 12) (i 0)),
 g 4 (.mv (t 13))])
 Q))⟩
def pf_sl_stableCmpFunc_Fault : PF := ⟨3, [],
 (S (R [g 6 (.mv (i 20))])
 (S (R [g 10 (.mv (t 6)),
 g 7 (.mv (i 0)),
 g 8 (.mv (t 10))])
 (S (K 0
 (L [0, 1, 2, 6, 7, 8]
 (S (S (R [g 11 (.mv (t 8)),
 g 12 (.mv (t 1)),
 g 13 (.bin .leq (t 11) (t 12))])
 (C (t 13)
 Z
 (X 0)))
 (K 1
 (S (R [g 14 (.mv (t 0)),
 g 15 (.mv (t 7)),
 g 16 (.mv (t 8)),
 g 17 (.mv (t 2)),
 g 18 (.call .inl f_sl_insertionSortCmpFunc_Fault [(t 14), (t 15), (t 16), (t 17)])])
 (S (R [g 19 (.mv (t 8)),
 g 7 (.mv (t 19))])
 (R [g 20 (.mv (t 8)),
 g 21 (.mv (t 6)),
 g 22 (.bin .add (t 20) (t 21)),
 g 8 (.mv (t 22))])))))))
 (S (R [g 23 (.mv (t 0)),
 g 24 (.mv (t 7)),
 g 25 (.mv (t 1)),
 g 26 (.mv (t 2)),
 g 27 (.call .inl f_sl_insertionSortCmpFunc_Fault [(t 23), (t 24), (t 25), (t 26)])])
 (K 2
 (L [0, 1, 2, 6]
 (S (S (R [g 28 (.mv (t 6)),
 g 29 (.mv (t 1)),
 g 30 (.bin .lss (t 28) (t 29))])
 (C (t 30)
 Z
 (X 2)))
 (K 3
 (S (R [g 31 (.mv (t 6)),
 g 32 (.bin .mul (i 2) (t 31)),
 g 7 (.mv (i 0)),
 g 8 (.mv (t 32))])
 (S (K 4
 (L [0, 1, 2, 6, 7, 8]
 (S (S (R [g 33 (.mv (t 8)),
 g 34 (.mv (t 1)),
 g 35 (.bin .leq (t 33) (t 34))])
 (C (t 35)
 Z
 (X 4)))
 (K 5
 (S (R [g 36 (.mv (t 0)),
 g 37 (.mv (t 7)),
 g 38 (.mv (t 7)),
 g 39 (.mv (t 6)),
 g 40 (.bin .add (t 38) (t 39)),
 g 41 (.mv (t 8)),
 g 42 (.mv (t 2)),
 g 43 (.call .inl f_sl_symMergeCmpFunc_Fault [(t 36), (t 37), (t 40), (t 41), (t 42)])])
 (S (R [g 44 (.mv (t 8)),
 g 7 (.mv (t 44))])
 (R [g 45 (.mv (t 8)),
 g 46 (.mv (t 6)),
 g 47 (.bin .mul (i 2) (t 46)),
 g 48 (.bin .add (t 45) (t 47)),
 g 8 (.mv (t 48))])))))))
 (S (S (R [g 49 (.mv (t 7)),
 g 50 (.mv (t 6)),
 g 51 (.bin .add (t 49) (t 50)),
 g 9 (.mv (t 51))])
 (S (R [g 52 (.mv (t 9)),
 g 53 (.mv (t 1)),
 g 54 (.bin .lss (t 52) (t 53))])
 (C (t 54)
 (R [g 55 (.mv (t 0)),
 g 56 (.mv (t 7)),
 g 57 (.mv (t 9)),
 g 58 (.mv (t 1)),
 g 59 (.mv (t 2)),
 g 60 (.call .inl f_sl_symMergeCmpFunc_Fault [(t 55), (t 56), (t 57), (t 58), (t 59)])])
 Z)))
 (R [g 61 (.mv (t 6)),
 g 62 (.bin .mul (t 61) (i 2)),
 g 6 (.mv (t 62))]))))))))))))⟩
def pf_unit_clean : PF := ⟨1, [.tmp 2],
 (S (R [g 2 (.mv (.c (nilsl)))])
 (S (R [g 3 (.mv (t 0)),
 g 4 (.call .own f_sl_Clone_int_int [(t 3)]),
 g 5 (.call .inl f_sl_DeleteFunc_int_int [(t 4), (.c (.fn f_unit_clean_1 [] []))]),
 g 6 (.call .iso f_lit_Sort [(t 5)]),
 g 2 (.mv (t 6))])
 Q))⟩
def pf_unit_Unit_visit : PF := ⟨2, [],
 (S (R [g 4 (.mv (i 0))])
 (S (S (R [g 7 (.mv (t 1)),
 g 8 (.len 1 (t 7)),
 g 9 (.mv (i 0))])
 (K 0
 (L [0, 1, 4, 7, 8, 9]
 (S (R [g 10 (.bin .lss (t 9) (t 8))])
 (S (C (t 10)
 Z
 (X 0))
 (S (K 1
 (S (R [g 11 (.iaddr 1 (t 7) (t 9)),
 g 12 (.load 1 false (t 11)),
 g 6 (.mv (t 12))])
 (K 2
 (S (R [g 14 (.mv (t 0)),
 g 15 (.nilCheck (t 14)),
 g 16 (.faddr 2 (t 15)),
 g 17 (.load 1 false (t 16)),
 g 18 (.mv (t 6)),
 g 19 (.look (.sc .i) false (.bool false) (t 17) (t 18)),
 g 13 (.mv (t 19))])
 (C (t 13)
 Q
 (S (R [g 21 (.mv (t 0)),
 g 22 (.nilCheck (t 21)),
 g 23 (.faddr 2 (t 22)),
 g 24 (.load 1 false (t 23)),
 g 25 (.mv (t 6)),
 g 26 (.un .neg (t 25)),
 g 27 (.look (.sc .i) false (.bool false) (t 24) (t 26)),
 g 28 (.un .not (t 27)),
 g 29 (.mv (t 28)),
 gg 30 29 true (.mv (t 4)),
 gg 31 29 true (.bin .neq (t 30) (i 0)),
 g 32 (.pick (t 29) (t 31) (b false)),
 g 20 (.mv (t 32))])
 (C (t 20)
 Q
 (S (R [g 34 (.mv (t 0)),
 g 35 (.nilCheck (t 34)),
 g 36 (.faddr 2 (t 35)),
 g 37 (.load 1 false (t 36)),
 g 38 (.mv (t 6)),
 g 39 (.un .neg (t 38)),
 g 40 (.look (.sc .i) false (.bool false) (t 37) (t 39)),
 g 41 (.un .not (t 40)),
 g 33 (.mv (t 41))])
 (C (t 33)
 (R [g 42 (.mv (t 6)),
 g 4 (.mv (t 42))])
 Z)))))))))
 (R [g 43 (.bin .add (t 9) (i 1)),
 g 9 (.mv (t 43))])))))))
 (S (S (R [g 44 (.mv (t 4)),
 g 45 (.bin .neq (t 44) (i 0))])
 (C (t 45)
 (S (R [g 46 (.mv (t 0)),
 g 47 (.mv (t 4)),
 g 48 (.mv (t 1)),
 g 49 (.call .inl f_unit_Unit_mark [(t 46), (t 47), (t 48)])])
 Q)
 Z))
 (R [g 50 (.mv (t 0)),
 g 51 (.mv (t 0)),
 g 52 (.mv (t 1)),
 g 53 (.call .own f_sl_Clone_int_int [(t 52)]),
 g 54 (.nilCheck (t 50)),
 g 55 (.faddr 6 (t 54)),
 u (.store 1 (t 55) (b true)),
 g 56 (.nilCheck (t 51)),
 g 57 (.faddr 5 (t 56)),
 u (.store 1 (t 57) (t 53))]))))⟩
def pf_unit_Unit_spread : PF := ⟨2, [],
 (K 0
 (L [0, 1]
 (S (S (R [g 6 (.mv (t 1)),
 g 7 (.mv (t 0)),
 g 8 (.nilCheck (t 7)),
 g 9 (.faddr 3 (t 8)),
 g 10 (.load 1 false (t 9)),
 g 11 (.len 1 (t 10)),
 g 12 (.bin .lss (t 6) (t 11)),
 g 13 (.mv (t 12)),
 gg 14 13 true (.mv (t 0)),
 gg 15 13 true (.nilCheck (t 14)),
 gg 16 13 true (.faddr 6 (t 15)),
 gg 17 13 true (.load 1 false (t 16)),
 gg 18 13 true (.un .not (t 17)),
 g 19 (.pick (t 13) (t 18) (b false))])
 (C (t 19)
 Z
 (X 0)))
 (S (K 1
 (S (D [] [g 22 (.mv (t 0)),
 g 23 (.nilCheck (t 22)),
 g 24 (.faddr 1 (t 23)),
 g 25 (.load 1 false (t 24)),
 g 26 (.mv (t 0)),
 g 27 (.nilCheck (t 26)),
 g 28 (.faddr 3 (t 27)),
 g 29 (.load 1 false (t 28)),
 g 30 (.mv (t 1)),
 g 31 (.iaddr 3 (t 29) (t 30)),
 g 32 (.faddr 0 (t 31)),
 g 33 (.load 1 false (t 32)),
 g 34 (.look (.sc .i) false (nilsl) (t 25) (t 33)),
 g 35 (.len 1 (t 34)),
 g 36 (.mv (i 0))])
 (K 2
 (L [0, 1, 34, 35, 36]
 (S (R [g 37 (.bin .lss (t 36) (t 35))])
 (S (C (t 37)
 Z
 (X 2))
 (S (K 3
 (S (R [g 38 (.iaddr 1 (t 34) (t 36)),
 g 39 (.load 1 false (t 38)),
 g 5 (.mv (t 39))])
 (S (S (R [g 40 (.mv (t 0)),
 g 41 (.nilCheck (t 40)),
 g 42 (.faddr 6 (t 41)),
 g 43 (.load 1 false (t 42))])
 (C (t 43)
 Q
 Z))
 (R [g 44 (.mv (t 0)),
 g 45 (.mv (t 0)),
 g 46 (.nilCheck (t 45)),
 g 47 (.faddr 0 (t 46)),
 g 48 (.load 1 false (t 47)),
 g 49 (.mv (t 5)),
 g 50 (.iaddr 1 (t 48) (t 49)),
 g 51 (.load 1 false (t 50)),
 g 52 (.call .inl f_unit_Unit_visit [(t 44), (t 51)])]))))
 (R [g 53 (.bin .add (t 36) (i 1)),
 g 36 (.mv (t 53))]))))))))
 (R [g 20 (.mv (t 1)),
 g 21 (.bin .add (t 20) (i 1)),
 g 1 (.mv (t 21))])))))⟩
def pf_axiom_book_sides : PF := ⟨2, [.tmp 4, .tmp 5],
 (S (R [g 4 (.mv (.c (nilsl))),
 g 5 (.mv (b false))])
 (S (R [g 6 (.mv (.c (nilsl)))])
 (S (S (R [g 13 (.mv (t 1)),
 g 14 (.len 1 (t 13)),
 g 15 (.mv (i 0))])
 (K 0
 (L [0, 6, 13, 14, 15]
 (S (R [g 16 (.bin .lss (t 15) (t 14))])
 (S (C (t 16)
 Z
 (X 0))
 (S (K 1
 (S (R [g 17 (.iaddr 1 (t 13) (t 15)),
 g 18 (.load 1 false (t 17)),
 g 8 (.mv (t 18))])
 (S (R [g 20 (.mv (t 0)),
 g 21 (.nilCheck (t 20)),
 g 22 (.faddr 20 (t 21)),
 g 23 (.load 1 false (t 22)),
 g 24 (.mv (t 8)),
 g 25 (.call .iso f_lit_Map_What [(t 23), (t 24)]),
 g 19 (.mv (t 25)),
 g 26 (.ext (t 19) 0),
 g 27 (.ext (t 19) 1),
 g 9 (.alloc (.agg [i64 0, .bool false, i64 0])),
 u (.store 3 (t 9) (t 26)),
 g 10 (.mv (t 27))])
 (S (S (R [g 28 (.mv (t 10)),
 g 29 (.un .not (t 28)),
 g 30 (.mv (t 29)),
 gg 31 30 false (.mv (t 8)),
 gg 32 30 false (.bin .gtr (t 31) (i 0)),
 g 33 (.pick (t 30) (b true) (t 32))])
 (C (t 33)
 (S (R [g 4 (.mv (.c (nilsl))),
 g 5 (.mv (b false))])
 Q)
 Z))
 (S (R [g 34 (.mv (t 6)),
 g 35 (.mkfn f_axiom_book_sides_1 [] [(t 9)]),
 g 36 (.call .iso f_sl_IndexFunc_axiom_side_axiom_side [(t 34), (t 35)]),
 g 11 (.mv (t 36))])
 (S (S (R [g 37 (.mv (t 11)),
 g 38 (.bin .lss (t 37) (i 0))])
 (C (t 38)
 (S (R [g 39 (.mv (t 6)),
 g 40 (.len 1 (t 39)),
 g 11 (.mv (t 40))])
 (R [g 41 (.mv (t 6)),
 g 42 (.faddr 0 (t 9)),
 g 43 (.load 1 false (t 42)),
 g 44 (.build [i64 0, i64 0, i64 0] [(0, 1, (t 43)), (1, 1, (i (-1))), (2, 1, (i (-1)))]),
 g 45 (.lits 3 1 (.agg [i64 0, i64 0, i64 0]) [(0, (t 44))]),
 g 46 (.app 24 (.agg [i64 0, i64 0, i64 0]) (t 41) (t 45)),
 g 6 (.mv (t 46))]))
 Z))
 (S (R [g 47 (.mv (t 6)),
 g 48 (.mv (t 11)),
 g 49 (.iaddr 3 (t 47) (t 48)),
 g 50 (.faddr 1 (t 49)),
 g 12 (.mv (t 50))])
 (S (S (R [g 51 (.faddr 1 (t 9)),
 g 52 (.load 1 false (t 51))])
 (C (t 52)
 (R [g 53 (.mv (t 6)),
 g 54 (.mv (t 11)),
 g 55 (.iaddr 3 (t 53) (t 54)),
 g 56 (.faddr 2 (t 55)),
 g 12 (.mv (t 56))])
 Z))
 (S (S (R [g 57 (.mv (t 12)),
 g 58 (.nilCheck (t 57)),
 g 59 (.load 1 false (t 58)),
 g 60 (.bin .geq (t 59) (i 0))])
 (C (t 60)
 (S (R [g 4 (.mv (.c (nilsl))),
 g 5 (.mv (b false))])
 Q)
 Z))
 (R [g 61 (.mv (t 12)),
 g 62 (.faddr 2 (t 9)),
 g 63 (.load 1 false (t 62)),
 g 64 (.nilCheck (t 61)),
 u (.store 1 (t 64) (t 63))]))))))))))
 (R [g 65 (.bin .add (t 15) (i 1)),
 g 15 (.mv (t 65))])))))))
 (S (R [g 66 (.mv (t 6)),
 g 4 (.mv (t 66)),
 g 5 (.mv (b true))])
 Q))))⟩
def pf_axiom_book_budget : PF := ⟨2, [.tmp 4],
 (S (R [g 3 (.box 3 (t 1)),
 g 4 (.mv (b false))])
 (S (D [] [g 8 (.mv (t 0)),
 g 9 (.nilCheck (t 8)),
 g 10 (.faddr 20 (t 9)),
 g 11 (.load 1 false (t 10)),
 g 12 (.faddr 2 (t 3)),
 g 13 (.load 1 false (t 12)),
 g 14 (.call .iso f_axiom_turned [(t 13)]),
 g 15 (.call .iso f_lit_Map_Seats [(t 11), (t 14)]),
 g 7 (.mv (t 15)),
 g 16 (.ext (t 7) 0),
 g 17 (.ext (t 7) 1),
 g 5 (.mv (t 16)),
 g 6 (.mv (t 17))])
 (S (D [] [g 18 (.mv (t 6)),
 g 19 (.mv (t 18)),
 gg 20 19 true (.faddr 1 (t 3)),
 gg 21 19 true (.load 1 false (t 20)),
 gg 22 19 true (.bin .eql (t 21) (i 0)),
 g 23 (.pick (t 19) (t 22) (b false)),
 g 24 (.mv (t 23)),
 gg 25 24 true (.mv (t 0)),
 gg 26 24 true (.nilCheck (t 25)),
 gg 27 24 true (.faddr 0 (t 26)),
 gg 28 24 true (.faddr 16 (t 27)),
 gg 29 24 true (.load 1 false (t 28)),
 gg 30 24 true (.bin .neq (t 29) (i 0)),
 g 31 (.pick (t 24) (t 30) (b false)),
 g 32 (.mv (t 31)),
 gg 33 32 true (.mv (t 0)),
 gg 34 32 true (.nilCheck (t 33)),
 gg 35 32 true (.faddr 0 (t 34)),
 gg 36 32 true (.load 20 true (t 35)),
 gg 37 32 true (.mv (t 5)),
 gg 38 32 true (.call .iso f_reason_Spent [(t 36), (t 37)]),
 gg 39 32 true (.mv (t 0)),
 gg 40 32 true (.nilCheck (t 39)),
 gg 41 32 true (.faddr 0 (t 40)),
 gg 42 32 true (.faddr 19 (t 41)),
 gg 43 32 true (.load 1 false (t 42)),
 gg 44 32 true (.bin .gtr (t 38) (t 43)),
 g 45 (.pick (t 32) (t 44) (b false)),
 g 4 (.mv (t 45))])
 Q)))⟩
def pf_when_tame : PF := ⟨1, [.tmp 2],
 (S (R [g 1 (.box 4 (t 0)),
 g 2 (.mv (b false))])
 (S (R [g 3 (.faddr 2 (t 1)),
 g 4 (.load 1 false (t 3)),
 g 5 (.call .iso f_when_within [(t 4), (i 0), (i 96)]),
 g 6 (.mv (t 5)),
 gg 7 6 true (.faddr 3 (t 1)),
 gg 8 6 true (.load 1 false (t 7)),
 gg 9 6 true (.call .iso f_when_within [(t 8), (i 1), (i 96)]),
 g 10 (.pick (t 6) (t 9) (b false)),
 g 2 (.mv (t 10))])
 Q))⟩
def pf_class_cheap : PF := ⟨1, [.tmp 2],
 (S (R [g 2 (.mv (b false))])
 (S (R [g 3 (.mv (t 0)),
 g 4 (.bin .geq (t 3) (i 0)),
 g 5 (.mv (t 4)),
 gg 6 5 true (.mv (t 0)),
 gg 7 5 true (.bin .leq (t 6) (i 1000)),
 g 8 (.pick (t 5) (t 7) (b false)),
 g 2 (.mv (t 8))])
 Q))⟩
def pf_sl_insertionSortCmpFunc_int : PF := ⟨4, [],
 (S (R [g 10 (.mv (t 1)),
 g 11 (.bin .add (t 10) (i 1)),
 g 8 (.mv (t 11))])
 (K 0
 (L [0, 1, 2, 3, 8]
 (S (S (R [g 12 (.mv (t 8)),
 g 13 (.mv (t 2)),
 g 14 (.bin .lss (t 12) (t 13))])
 (C (t 14)
 Z
 (X 0)))
 (S (K 1
 (S (R [g 17 (.mv (t 8)),
 g 9 (.mv (t 17))])
 (K 2
 (L [0, 1, 2, 3, 8, 9]
 (S (S (D [] [g 18 (.mv (t 9)),
 g 19 (.mv (t 1)),
 g 20 (.bin .gtr (t 18) (t 19)),
 g 21 (.mv (t 20)),
 gg 22 21 true (.mv (t 3)),
 gg 23 21 true (.mv (t 0)),
 gg 24 21 true (.mv (t 9)),
 gg 25 21 true (.iaddr 1 (t 23) (t 24)),
 gg 26 21 true (.load 1 false (t 25)),
 gg 27 21 true (.mv (t 0)),
 gg 28 21 true (.mv (t 9)),
 gg 29 21 true (.bin .sub (t 28) (i 1)),
 gg 30 21 true (.iaddr 1 (t 27) (t 29)),
 gg 31 21 true (.load 1 false (t 30)),
 gg 32 21 true (.callv .iso (t 22) [(t 26), (t 31)]),
 gg 33 21 true (.bin .lss (t 32) (i 0)),
 g 34 (.pick (t 21) (t 33) (b false))])
 (C (t 34)
 Z
 (X 2)))
 (S (K 3
 (D [] [g 37 (.mv (t 0)),
 g 38 (.mv (t 9)),
 g 39 (.mv (t 0)),
 g 40 (.mv (t 9)),
 g 41 (.bin .sub (t 40) (i 1)),
 g 42 (.mv (t 0)),
 g 43 (.mv (t 9)),
 g 44 (.bin .sub (t 43) (i 1)),
 g 45 (.iaddr 1 (t 42) (t 44)),
 g 46 (.load 1 false (t 45)),
 g 47 (.mv (t 0)),
 g 48 (.mv (t 9)),
 g 49 (.iaddr 1 (t 47) (t 48)),
 g 50 (.load 1 false (t 49)),
 g 51 (.iaddr 1 (t 37) (t 38)),
 u (.store 1 (t 51) (t 46)),
 g 52 (.iaddr 1 (t 39) (t 41)),
 u (.store 1 (t 52) (t 50))]))
 (R [g 35 (.mv (t 9)),
 g 36 (.bin .sub (t 35) (i 1)),
 g 9 (.mv (t 36))])))))))
 (R [g 15 (.mv (t 8)),
 g 16 (.bin .add (t 15) (i 1)),
 g 8 (.mv (t 16))]))))))⟩
def pf_bits_Len64 : PF := ⟨1, [.tmp 2],
 (S (R [g 2 (.mv (i 0))])
 (S (S (R [g 3 (.mv (t 0)),
 g 4 (.bin .geq (t 3) (.c (.int .u64 (4294967296))))])
 (C (t 4)
 (S (R [g 5 (.mv (t 0)),
 g 6 (.bin .shr (t 5) (.c (.int .u64 (32)))),
 g 0 (.mv (t 6))])
 (R [g 2 (.mv (i 32))]))
 Z))
 (S (S (R [g 7 (.mv (t 0)),
 g 8 (.bin .geq (t 7) (.c (.int .u64 (65536))))])
 (C (t 8)
 (S (R [g 9 (.mv (t 0)),
 g 10 (.bin .shr (t 9) (.c (.int .u64 (16)))),
 g 0 (.mv (t 10))])
 (R [g 11 (.mv (t 2)),
 g 12 (.bin .add (t 11) (i 16)),
 g 2 (.mv (t 12))]))
 Z))
 (S (S (R [g 13 (.mv (t 0)),
 g 14 (.bin .geq (t 13) (.c (.int .u64 (256))))])
 (C (t 14)
 (S (R [g 15 (.mv (t 0)),
 g 16 (.bin .shr (t 15) (.c (.int .u64 (8)))),
 g 0 (.mv (t 16))])
 (R [g 17 (.mv (t 2)),
 g 18 (.bin .add (t 17) (i 8)),
 g 2 (.mv (t 18))]))
 Z))
 (S (R [g 19 (.mv (t 2)),
 g 20 (.mv (t 0)),
 g 21 (.conv .u8 (t 20)),
 g 22 (.sidx (.c (.str ⟨#[0, 1, 2, 2, 3, 3, 3, 3, 4, 4, 4, 4, 4, 4, 4, 4, 5, 5, 5, 5, 5, 5, 5, 5, 5, 5, 5, 5, 5, 5, 5, 5, 6, 6, 6, 6, 6, 6, 6, 6, 6, 6, 6, 6, 6, 6, 6, 6, 6, 6, 6, 6, 6, 6, 6, 6, 6, 6, 6, 6, 6, 6, 6, 6, 7, 7, 7, 7, 7, 7, 7, 7, 7, 7, 7, 7, 7, 7, 7, 7, 7, 7, 7, 7, 7, 7, 7, 7, 7, 7, 7, 7, 7, 7, 7, 7, 7, 7, 7, 7, 7, 7, 7, 7, 7, 7, 7, 7, 7, 7, 7, 7, 7, 7, 7, 7, 7, 7, 7, 7, 7, 7, 7, 7, 7, 7, 7, 7, 8, 8, 8, 8, 8, 8, 8, 8, 8, 8, 8, 8, 8, 8, 8, 8, 8, 8, 8, 8, 8, 8, 8, 8, 8, 8, 8, 8, 8, 8, 8, 8, 8, 8, 8, 8, 8, 8, 8, 8, 8, 8, 8, 8, 8, 8, 8, 8, 8, 8, 8, 8, 8, 8, 8, 8, 8, 8, 8, 8, 8, 8, 8, 8, 8, 8, 8, 8, 8, 8, 8, 8, 8, 8, 8, 8, 8, 8, 8, 8, 8, 8, 8, 8, 8, 8, 8, 8, 8, 8, 8, 8, 8, 8, 8, 8, 8, 8, 8, 8, 8, 8, 8, 8, 8, 8, 8, 8, 8, 8, 8, 8, 8, 8, 8, 8, 8, 8, 8, 8, 8, 8, 8, 8, 8, 8, 8, 8]⟩)) (t 21)),
 g 23 (.conv .i64 (t 22)),
 g 24 (.bin .add (t 19) (t 23)),
 g 2 (.mv (t 24))])
 Q)))))⟩
def pf_sl_insertionSortCmpFunc_Fault : PF := ⟨4, [],
 (S (R [g 10 (.mv (t 1)),
 g 11 (.bin .add (t 10) (i 1)),
 g 8 (.mv (t 11))])
 (K 0
 (L [0, 1, 2, 3, 8]
 (S (S (R [g 12 (.mv (t 8)),
 g 13 (.mv (t 2)),
 g 14 (.bin .lss (t 12) (t 13))])
 (C (t 14)
 Z
 (X 0)))
 (S (K 1
 (S (R [g 17 (.mv (t 8)),
 g 9 (.mv (t 17))])
 (K 2
 (L [0, 1, 2, 3, 8, 9]
 (S (S (D [] [g 18 (.mv (t 9)),
 g 19 (.mv (t 1)),
 g 20 (.bin .gtr (t 18) (t 19)),
 g 21 (.mv (t 20)),
 gg 22 21 true (.mv (t 3)),
 gg 23 21 true (.mv (t 0)),
 gg 24 21 true (.mv (t 9)),
 gg 25 21 true (.iaddr 4 (t 23) (t 24)),
 gg 26 21 true (.load 4 true (t 25)),
 gg 27 21 true (.mv (t 0)),
 gg 28 21 true (.mv (t 9)),
 gg 29 21 true (.bin .sub (t 28) (i 1)),
 gg 30 21 true (.iaddr 4 (t 27) (t 29)),
 gg 31 21 true (.load 4 true (t 30)),
 gg 32 21 true (.callv .iso (t 22) [(t 26), (t 31)]),
 gg 33 21 true (.bin .lss (t 32) (i 0)),
 g 34 (.pick (t 21) (t 33) (b false))])
 (C (t 34)
 Z
 (X 2)))
 (S (K 3
 (D [] [g 37 (.mv (t 0)),
 g 38 (.mv (t 9)),
 g 39 (.mv (t 0)),
 g 40 (.mv (t 9)),
 g 41 (.bin .sub (t 40) (i 1)),
 g 42 (.mv (t 0)),
 g 43 (.mv (t 9)),
 g 44 (.bin .sub (t 43) (i 1)),
 g 45 (.iaddr 4 (t 42) (t 44)),
 g 46 (.load 4 true (t 45)),
 g 47 (.mv (t 0)),
 g 48 (.mv (t 9)),
 g 49 (.iaddr 4 (t 47) (t 48)),
 g 50 (.load 4 true (t 49)),
 g 51 (.iaddr 4 (t 37) (t 38)),
 u (.store 4 (t 51) (t 46)),
 g 52 (.iaddr 4 (t 39) (t 41)),
 u (.store 4 (t 52) (t 50))]))
 (R [g 35 (.mv (t 9)),
 g 36 (.bin .sub (t 35) (i 1)),
 g 9 (.mv (t 36))])))))))
 (R [g 15 (.mv (t 8)),
 g 16 (.bin .add (t 15) (i 1)),
 g 8 (.mv (t 16))]))))))⟩
def pf_lit_Map_Seats : PF := ⟨2, [.tmp 4, .tmp 5],
 (S (R [g 4 (.mv (.c (nilsl))),
 g 5 (.mv (b false))])
 (S (S (R [g 12 (.mv (t 0)),
 g 13 (.eq .ptr false (t 12) (.c (.nilp)))])
 (C (t 13)
 (S (R [g 4 (.mv (.c (nilsl))),
 g 5 (.mv (b false))])
 Q)
 Z))
 (S (R [g 14 (.mv (t 0)),
 g 15 (.nilCheck (t 14)),
 g 16 (.faddr 0 (t 15)),
 g 17 (.load 15 true (t 16)),
 g 18 (.call .inn f_plan_Empty [(t 17)]),
 g 6 (.mv (t 18))])
 (S (S (R [g 19 (.mv (t 1)),
 g 20 (.len 1 (t 19)),
 g 21 (.mv (i 0))])
 (K 0
 (L [0, 6, 19, 20, 21]
 (S (R [g 22 (.bin .lss (t 21) (t 20))])
 (S (C (t 22)
 Z
 (X 0))
 (S (K 1
 (S (R [g 23 (.iaddr 1 (t 19) (t 21)),
 g 24 (.load 1 false (t 23)),
 g 8 (.mv (t 24))])
 (S (R [g 26 (.mv (t 0)),
 g 27 (.mv (t 8)),
 g 28 (.call .iso f_lit_Map_What [(t 26), (t 27)]),
 g 25 (.mv (t 28)),
 g 29 (.ext (t 25) 0),
 g 30 (.ext (t 25) 1),
 g 9 (.alloc (.agg [i64 0, .bool false, i64 0])),
 u (.store 3 (t 9) (t 29)),
 g 10 (.mv (t 30))])
 (S (S (R [g 31 (.mv (t 10)),
 g 32 (.un .not (t 31)),
 g 33 (.mv (t 32)),
 gg 34 33 false (.mv (t 8)),
 gg 35 33 false (.bin .lss (t 34) (i 0)),
 g 36 (.pick (t 33) (b true) (t 35))])
 (C (t 36)
 (X 1)
 Z))
 (S (R [g 37 (.mv (t 6)),
 g 38 (.faddr 0 (t 9)),
 g 39 (.load 1 false (t 38)),
 g 40 (.iaddr 2 (t 37) (t 39)),
 g 41 (.faddr 0 (t 40)),
 g 11 (.mv (t 41))])
 (S (S (R [g 42 (.faddr 1 (t 9)),
 g 43 (.load 1 false (t 42))])
 (C (t 43)
 (R [g 44 (.mv (t 6)),
 g 45 (.faddr 0 (t 9)),
 g 46 (.load 1 false (t 45)),
 g 47 (.iaddr 2 (t 44) (t 46)),
 g 48 (.faddr 1 (t 47)),
 g 11 (.mv (t 48))])
 Z))
 (S (S (D [] [g 49 (.mv (t 11)),
 g 50 (.nilCheck (t 49)),
 g 51 (.load 1 false (t 50)),
 g 52 (.bin .geq (t 51) (i 0)),
 g 53 (.mv (t 52)),
 gg 54 53 true (.mv (t 11)),
 gg 55 53 true (.nilCheck (t 54)),
 gg 56 53 true (.load 1 false (t 55)),
 gg 57 53 true (.faddr 2 (t 9)),
 gg 58 53 true (.load 1 false (t 57)),
 gg 59 53 true (.bin .neq (t 56) (t 58)),
 g 60 (.pick (t 53) (t 59) (b false))])
 (C (t 60)
 (S (R [g 4 (.mv (.c (nilsl))),
 g 5 (.mv (b false))])
 Q)
 Z))
 (R [g 61 (.mv (t 11)),
 g 62 (.faddr 2 (t 9)),
 g 63 (.load 1 false (t 62)),
 g 64 (.nilCheck (t 61)),
 u (.store 1 (t 64) (t 63))]))))))))
 (R [g 65 (.bin .add (t 21) (i 1)),
 g 21 (.mv (t 65))])))))))
 (S (R [g 66 (.mv (t 6)),
 g 4 (.mv (t 66)),
 g 5 (.mv (b true))])
 Q)))))⟩
def pf_axiom_turned : PF := ⟨1, [.tmp 2],
 (S (R [g 2 (.mv (.c (nilsl)))])
 (S (R [g 3 (.mv (.c (nilsl)))])
 (S (S (R [g 6 (.mv (t 0)),
 g 7 (.len 1 (t 6)),
 g 8 (.mv (i 0))])
 (K 0
 (L [3, 6, 7, 8]
 (S (R [g 9 (.bin .lss (t 8) (t 7))])
 (S (C (t 9)
 Z
 (X 0))
 (S (K 1
 (S (R [g 10 (.iaddr 1 (t 6) (t 8)),
 g 11 (.load 1 false (t 10)),
 g 5 (.mv (t 11))])
 (R [g 12 (.mv (t 3)),
 g 13 (.mv (t 5)),
 g 14 (.un .neg (t 13)),
 g 15 (.lits 1 1 (i64 0) [(0, (t 14))]),
 g 16 (.app 8 (i64 0) (t 12) (t 15)),
 g 3 (.mv (t 16))])))
 (R [g 17 (.bin .add (t 8) (i 1)),
 g 8 (.mv (t 17))])))))))
 (S (R [g 18 (.mv (t 3)),
 g 2 (.mv (t 18))])
 Q))))⟩
end Hp.T
