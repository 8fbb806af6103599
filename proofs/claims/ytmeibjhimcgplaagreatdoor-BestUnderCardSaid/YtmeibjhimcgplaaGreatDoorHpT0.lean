/- Texts. -/
import Derived.Test.YtmeibjhimcgplaaGreatDoorHpD
set_option linter.all false
set_option maxRecDepth 100000
namespace Hp.T
open Go
def pf_law40_BestUnder : PF := ⟨2, [.tmp 4],
 (S (R [g 2 (.box 20 (t 0)),
 g 4 (.mv (b false))])
 (S (S (R [g 5 (.load 20 true (t 2)),
 g 6 (.call .iso f_law40_small [(t 5)]),
 g 7 (.un .not (t 6))])
 (C (t 7)
 (S (R [g 8 (.call .iso f_law40_heads []),
 g 4 (.mv (t 8))])
 Q)
 Z))
 (S (D [] [g 9 (.load 20 true (t 2)),
 g 10 (.mv (t 1)),
 g 11 (.call .iso f_best_Under [(t 9), (t 10)]),
 g 12 (.load 20 true (t 2)),
 g 13 (.mv (t 1)),
 g 14 (.call .iso f_ref40_Under [(t 12), (t 13)]),
 g 15 (.call .iso f_ref28_Same [(t 11), (t 14)]),
 g 16 (.mv (t 15)),
 gg 17 16 true (.call .iso f_law40_heads []),
 g 18 (.pick (t 16) (t 17) (b false)),
 g 4 (.mv (t 18))])
 Q)))⟩
def pf_law40_small : PF := ⟨1, [.tmp 2],
 (S (R [g 1 (.box 20 (t 0)),
 g 2 (.mv (b false))])
 (S (R [g 5 (.faddr 0 (t 1)),
 g 6 (.load 15 true (t 5)),
 g 3 (.alloc (.agg [.str ⟨#[]⟩, i64 0, i64 0, i64 0, nilsl, nilsl, nilsl, nilsl, nilsl, nilsl, nilsl, i64 0, i64 0, i64 0, i64 0])),
 u (.store 15 (t 3) (t 6))])
 (S (S (R [g 7 (.faddr 7 (t 3)),
 g 8 (.load 1 false (t 7)),
 g 9 (.len 1 (t 8)),
 g 10 (.bin .gtr (t 9) (i 5)),
 g 11 (.mv (t 10)),
 gg 12 11 false (.faddr 10 (t 3)),
 gg 13 11 false (.load 1 false (t 12)),
 gg 14 11 false (.len 1 (t 13)),
 gg 15 11 false (.bin .gtr (t 14) (i 6)),
 g 16 (.pick (t 11) (b true) (t 15)),
 g 17 (.mv (t 16)),
 gg 18 17 false (.faddr 4 (t 3)),
 gg 19 17 false (.load 1 false (t 18)),
 gg 20 17 false (.len 1 (t 19)),
 gg 21 17 false (.bin .gtr (t 20) (i 6)),
 g 22 (.pick (t 17) (b true) (t 21)),
 g 23 (.mv (t 22)),
 gg 24 23 false (.faddr 6 (t 3)),
 gg 25 23 false (.load 1 false (t 24)),
 gg 26 23 false (.len 1 (t 25)),
 gg 27 23 false (.bin .gtr (t 26) (i 6)),
 g 28 (.pick (t 23) (b true) (t 27)),
 g 29 (.mv (t 28)),
 gg 30 29 false (.faddr 8 (t 3)),
 gg 31 29 false (.load 1 false (t 30)),
 gg 32 29 false (.len 1 (t 31)),
 gg 33 29 false (.bin .gtr (t 32) (i 6)),
 g 34 (.pick (t 29) (b true) (t 33)),
 g 35 (.mv (t 34)),
 gg 36 35 false (.faddr 9 (t 3)),
 gg 37 35 false (.load 1 false (t 36)),
 gg 38 35 false (.len 1 (t 37)),
 gg 39 35 false (.bin .gtr (t 38) (i 8)),
 g 40 (.pick (t 35) (b true) (t 39)),
 g 41 (.mv (t 40)),
 gg 42 41 false (.faddr 15 (t 1)),
 gg 43 41 false (.load 1 false (t 42)),
 gg 44 41 false (.len 1 (t 43)),
 gg 45 41 false (.bin .gtr (t 44) (i 30)),
 g 46 (.pick (t 41) (b true) (t 45)),
 g 47 (.mv (t 46)),
 gg 48 47 false (.faddr 17 (t 1)),
 gg 49 47 false (.load 1 false (t 48)),
 gg 50 47 false (.len 1 (t 49)),
 gg 51 47 false (.bin .gtr (t 50) (i 20)),
 g 52 (.pick (t 47) (b true) (t 51)),
 g 53 (.mv (t 52)),
 gg 54 53 false (.faddr 18 (t 1)),
 gg 55 53 false (.load 1 false (t 54)),
 gg 56 53 false (.len 1 (t 55)),
 gg 57 53 false (.bin .gtr (t 56) (i 20)),
 g 58 (.pick (t 53) (b true) (t 57))])
 (C (t 58)
 (S (R [g 2 (.mv (b false))])
 Q)
 Z))
 (S (S (R [g 4 (.mv (i 0))])
 (K 0
 (L [3, 4]
 (S (S (R [g 59 (.mv (t 4)),
 g 60 (.faddr 7 (t 3)),
 g 61 (.load 1 false (t 60)),
 g 62 (.len 1 (t 61)),
 g 63 (.bin .lss (t 59) (t 62))])
 (C (t 63)
 Z
 (X 0)))
 (S (K 1
 (S (R [g 66 (.faddr 7 (t 3)),
 g 67 (.load 1 false (t 66)),
 g 68 (.mv (t 4)),
 g 69 (.iaddr 7 (t 67) (t 68)),
 g 70 (.faddr 4 (t 69)),
 g 71 (.load 1 false (t 70)),
 g 72 (.len 1 (t 71)),
 g 73 (.bin .gtr (t 72) (i 4)),
 g 74 (.mv (t 73)),
 gg 75 74 false (.faddr 7 (t 3)),
 gg 76 74 false (.load 1 false (t 75)),
 gg 77 74 false (.mv (t 4)),
 gg 78 74 false (.iaddr 7 (t 76) (t 77)),
 gg 79 74 false (.faddr 5 (t 78)),
 gg 80 74 false (.load 1 false (t 79)),
 gg 81 74 false (.len 1 (t 80)),
 gg 82 74 false (.bin .gtr (t 81) (i 4)),
 g 83 (.pick (t 74) (b true) (t 82))])
 (C (t 83)
 (S (R [g 2 (.mv (b false))])
 Q)
 Z)))
 (R [g 64 (.mv (t 4)),
 g 65 (.bin .add (t 64) (i 1)),
 g 4 (.mv (t 65))]))))))
 (S (R [g 2 (.mv (b true))])
 Q)))))⟩
def pf_law40_heads : PF := ⟨0, [.tmp 0],
 (S (R [g 0 (.mv (b false))])
 (S (R [g 6 (.call .iso f_law40_some []),
 g 7 (.build [.str ⟨#[]⟩, i64 0, i64 0, i64 0, nilsl, nilsl, nilsl, nilsl, nilsl, nilsl, nilsl, i64 0, i64 0, i64 0, i64 0, nilsl, i64 0, nilsl, nilsl, i64 0] [(0, 15, (t 6))]),
 g 1 (.alloc (.agg [.str ⟨#[]⟩, i64 0, i64 0, i64 0, nilsl, nilsl, nilsl, nilsl, nilsl, nilsl, nilsl, i64 0, i64 0, i64 0, i64 0, nilsl, i64 0, nilsl, nilsl, i64 0])),
 u (.store 20 (t 1) (t 7))])
 (S (R [g 9 (.load 20 true (t 1)),
 g 10 (.call .iso f_best_Best [(t 9), (i 20)]),
 g 8 (.mv (t 10)),
 g 11 (.ext (t 8) 0),
 g 12 (.ext (t 8) 1),
 g 2 (.alloc (.agg [nilsl, i64 0, nilsl])),
 u (.store 3 (t 2) (t 11)),
 g 3 (.mv (t 12))])
 (S (R [g 14 (.build [.str ⟨#[]⟩, i64 0, i64 0, i64 0, nilsl, nilsl, nilsl, nilsl, nilsl, nilsl, nilsl, i64 0, i64 0, i64 0, i64 0, nilsl, i64 0, nilsl, nilsl, i64 0] []),
 g 15 (.call .iso f_best_Best [(t 14), (i 20)]),
 g 13 (.mv (t 15)),
 g 16 (.ext (t 13) 0),
 g 17 (.ext (t 13) 1),
 g 4 (.alloc (.agg [nilsl, i64 0, nilsl])),
 u (.store 3 (t 4) (t 16)),
 g 5 (.mv (t 17))])
 (S (R [g 18 (.mv (t 3)),
 g 19 (.bin .eql (t 18) (i 0)),
 g 20 (.mv (t 19)),
 gg 21 20 true (.faddr 1 (t 2)),
 gg 22 20 true (.load 1 false (t 21)),
 gg 23 20 true (.bin .eql (t 22) (i 2)),
 g 24 (.pick (t 20) (t 23) (b false)),
 g 25 (.mv (t 24)),
 gg 26 25 true (.faddr 0 (t 2)),
 gg 27 25 true (.load 1 false (t 26)),
 gg 28 25 true (.len 1 (t 27)),
 gg 29 25 true (.bin .eql (t 28) (i 1)),
 g 30 (.pick (t 25) (t 29) (b false)),
 g 31 (.mv (t 30)),
 gg 32 31 true (.faddr 0 (t 2)),
 gg 33 31 true (.load 1 false (t 32)),
 gg 34 31 true (.iaddr 2 (t 33) (i 0)),
 gg 35 31 true (.faddr 0 (t 34)),
 gg 36 31 true (.load 1 false (t 35)),
 gg 37 31 true (.bin .eql (t 36) (i 1)),
 g 38 (.pick (t 31) (t 37) (b false)),
 g 39 (.mv (t 38)),
 gg 40 39 true (.load 20 true (t 1)),
 gg 41 39 true (.load 3 true (t 2)),
 gg 42 39 true (.call .iso f_best_Right [(t 40), (t 41)]),
 g 43 (.pick (t 39) (t 42) (b false)),
 g 44 (.mv (t 43)),
 gg 45 44 true (.mv (t 5)),
 gg 46 44 true (.bin .eql (t 45) (i 20)),
 g 47 (.pick (t 44) (t 46) (b false)),
 g 0 (.mv (t 47))])
 Q)))))⟩
def pf_best_Best : PF := ⟨2, [.cell 4 3 true, .tmp 5],
 (S (R [g 2 (.box 20 (t 0)),
 g 4 (.alloc (.agg [nilsl, i64 0, nilsl])),
 g 5 (.mv (i 0))])
 (S (S (R [g 11 (.load 20 true (t 2)),
 g 12 (.call .iso f_reason_Right [(t 11)]),
 g 13 (.un .not (t 12)),
 g 14 (.mv (t 13)),
 gg 15 14 false (.faddr 16 (t 2)),
 gg 16 14 false (.load 1 false (t 15)),
 gg 17 14 false (.bin .neq (t 16) (i 0)),
 g 18 (.pick (t 14) (b true) (t 17))])
 (C (t 18)
 (S (R [g 19 (.build [nilsl, i64 0, nilsl] []),
 u (.store 3 (t 4) (t 19)),
 g 5 (.mv (i 20))])
 Q)
 Z))
 (S (R [g 6 (.alloc (.agg [nilsl, i64 0, nilsl]))])
 (S (R [g 20 (.load 20 true (t 2)),
 g 7 (.alloc (.agg [.str ⟨#[]⟩, i64 0, i64 0, i64 0, nilsl, nilsl, nilsl, nilsl, nilsl, nilsl, nilsl, i64 0, i64 0, i64 0, i64 0, nilsl, i64 0, nilsl, nilsl, i64 0])),
 u (.store 20 (t 7) (t 20)),
 g 8 (.mv (b false))])
 (K 0
 (L [1, 2, 4, 6, 7, 8]
 (K 1
 (S (R [g 22 (.load 20 true (t 7)),
 g 23 (.mv (t 1)),
 g 24 (.call .ext f_seek_Seek [(t 22), (t 23)]),
 g 21 (.mv (t 24)),
 g 25 (.ext (t 21) 0),
 g 26 (.ext (t 21) 1),
 g 9 (.alloc (.agg [i64 0, nilsl, nilsl, i64 0])),
 u (.store 4 (t 9) (t 25)),
 g 10 (.mv (t 26))])
 (S (K 2
 (S (R [g 28 (.mv (t 10)),
 g 29 (.bin .neq (t 28) (i 0)),
 g 27 (.mv (t 29))])
 (C (t 27)
 (S (R [g 30 (.build [nilsl, i64 0, nilsl] []),
 g 31 (.mv (t 10)),
 u (.store 3 (t 4) (t 30)),
 g 5 (.mv (t 31))])
 Q)
 (S (R [g 33 (.faddr 0 (t 9)),
 g 34 (.load 1 false (t 33)),
 g 35 (.bin .eql (t 34) (i 3)),
 g 32 (.mv (t 35))])
 (C (t 32)
 (S (R [g 36 (.build [nilsl, i64 0, nilsl] []),
 u (.store 3 (t 4) (t 36)),
 g 5 (.mv (i 24))])
 Q)
 (S (R [g 38 (.faddr 0 (t 9)),
 g 39 (.load 1 false (t 38)),
 g 40 (.bin .eql (t 39) (i 2)),
 g 41 (.mv (t 40)),
 gg 42 41 true (.mv (t 8)),
 gg 43 41 true (.un .not (t 42)),
 g 44 (.pick (t 41) (t 43) (b false)),
 g 37 (.mv (t 44))])
 (C (t 37)
 (S (R [g 45 (.build [nilsl, i64 0, nilsl] []),
 u (.store 3 (t 4) (t 45)),
 g 5 (.mv (i 25))])
 Q)
 (S (R [g 47 (.faddr 0 (t 9)),
 g 48 (.load 1 false (t 47)),
 g 49 (.bin .eql (t 48) (i 2)),
 g 46 (.mv (t 49))])
 (C (t 46)
 (S (R [g 50 (.faddr 2 (t 9)),
 g 51 (.load 1 false (t 50)),
 g 52 (.faddr 2 (t 6)),
 u (.store 1 (t 52) (t 51))])
 (S (R [g 53 (.load 3 true (t 6)),
 u (.store 3 (t 4) (t 53)),
 g 5 (.mv (i 0))])
 Q))
 Z)))))))))
 (S (R [g 8 (.mv (b true))])
 (S (R [g 54 (.faddr 1 (t 9)),
 g 55 (.load 1 false (t 54)),
 g 56 (.faddr 0 (t 6)),
 u (.store 1 (t 56) (t 55))])
 (S (R [g 58 (.faddr 0 (t 2)),
 g 59 (.load 15 true (t 58)),
 g 60 (.faddr 1 (t 9)),
 g 61 (.load 1 false (t 60)),
 g 62 (.call .iso f_price_Of [(t 59), (t 61)]),
 g 57 (.mv (t 62)),
 g 63 (.ext (t 57) 0),
 g 64 (.ext (t 57) 1),
 g 65 (.faddr 1 (t 6)),
 u (.store 1 (t 65) (t 63))])
 (S (S (R [g 66 (.faddr 1 (t 6)),
 g 67 (.load 1 false (t 66)),
 g 68 (.bin .eql (t 67) (i 0))])
 (C (t 68)
 (S (R [g 69 (.load 3 true (t 6)),
 u (.store 3 (t 4) (t 69)),
 g 5 (.mv (i 0))])
 Q)
 Z))
 (R [g 70 (.load 20 true (t 2)),
 g 71 (.faddr 1 (t 6)),
 g 72 (.load 1 false (t 71)),
 g 73 (.bin .sub (t 72) (i 1)),
 g 74 (.call .iso f_best_Under [(t 70), (t 73)]),
 u (.store 20 (t 7) (t 74))]))))))))))))))⟩
def pf_best_Right : PF := ⟨2, [.tmp 4],
 (S (R [g 2 (.box 20 (t 0)),
 g 3 (.box 3 (t 1)),
 g 4 (.mv (b false))])
 (S (R [g 10 (.faddr 0 (t 2)),
 g 11 (.load 15 true (t 10)),
 g 12 (.faddr 0 (t 3)),
 g 13 (.load 1 false (t 12)),
 g 14 (.call .iso f_price_Of [(t 11), (t 13)]),
 g 9 (.mv (t 14)),
 g 15 (.ext (t 9) 0),
 g 16 (.ext (t 9) 1),
 g 5 (.mv (t 15)),
 g 6 (.mv (t 16))])
 (S (S (R [g 17 (.load 20 true (t 2)),
 g 18 (.faddr 0 (t 3)),
 g 19 (.load 1 false (t 18)),
 g 20 (.call .iso f_reason_Kept [(t 17), (t 19)]),
 g 21 (.un .not (t 20)),
 g 22 (.mv (t 21)),
 gg 23 22 false (.mv (t 6)),
 gg 24 22 false (.un .not (t 23)),
 g 25 (.pick (t 22) (b true) (t 24)),
 g 26 (.mv (t 25)),
 gg 27 26 false (.mv (t 5)),
 gg 28 26 false (.faddr 1 (t 3)),
 gg 29 26 false (.load 1 false (t 28)),
 gg 30 26 false (.bin .neq (t 27) (t 29)),
 g 31 (.pick (t 26) (b true) (t 30))])
 (C (t 31)
 (S (R [g 4 (.mv (b false))])
 Q)
 Z))
 (S (S (R [g 32 (.faddr 1 (t 3)),
 g 33 (.load 1 false (t 32)),
 g 34 (.bin .eql (t 33) (i 0))])
 (C (t 34)
 (S (R [g 35 (.faddr 2 (t 3)),
 g 36 (.load 1 false (t 35)),
 g 37 (.len 1 (t 36)),
 g 38 (.bin .eql (t 37) (i 0)),
 g 4 (.mv (t 38))])
 Q)
 Z))
 (S (D [] [g 40 (.load 20 true (t 2)),
 g 41 (.faddr 1 (t 3)),
 g 42 (.load 1 false (t 41)),
 g 43 (.bin .sub (t 42) (i 1)),
 g 44 (.call .iso f_best_Under [(t 40), (t 43)]),
 g 45 (.faddr 2 (t 3)),
 g 46 (.load 1 false (t 45)),
 g 47 (.call .iso f_judge_Judge [(t 44), (t 46)]),
 g 39 (.mv (t 47)),
 g 48 (.ext (t 39) 0),
 g 49 (.ext (t 39) 1),
 g 7 (.mv (t 48)),
 g 8 (.mv (t 49))])
 (S (R [g 50 (.mv (t 8)),
 g 51 (.bin .eql (t 50) (i 0)),
 g 4 (.mv (t 51))])
 Q))))))⟩
def pf_ref28_Same : PF := ⟨2, [.tmp 4],
 (S (R [g 2 (.box 20 (t 0)),
 g 3 (.box 20 (t 1)),
 g 4 (.mv (b false))])
 (S (R [g 5 (.faddr 0 (t 2)),
 g 6 (.load 15 true (t 5)),
 g 7 (.faddr 0 (t 3)),
 g 8 (.load 15 true (t 7)),
 g 9 (.call .iso f_ref17_Same [(t 6), (t 8)]),
 g 10 (.mv (t 9)),
 gg 11 10 true (.faddr 15 (t 2)),
 gg 12 10 true (.load 1 false (t 11)),
 gg 13 10 true (.faddr 15 (t 3)),
 gg 14 10 true (.load 1 false (t 13)),
 gg 15 10 true (.call .iso f_ref28_Rows [(t 12), (t 14)]),
 g 16 (.pick (t 10) (t 15) (b false)),
 g 17 (.mv (t 16)),
 gg 18 17 true (.faddr 16 (t 2)),
 gg 19 17 true (.load 1 false (t 18)),
 gg 20 17 true (.faddr 16 (t 3)),
 gg 21 17 true (.load 1 false (t 20)),
 gg 22 17 true (.bin .eql (t 19) (t 21)),
 g 23 (.pick (t 17) (t 22) (b false)),
 g 24 (.mv (t 23)),
 gg 25 24 true (.faddr 17 (t 2)),
 gg 26 24 true (.load 1 false (t 25)),
 gg 27 24 true (.faddr 17 (t 3)),
 gg 28 24 true (.load 1 false (t 27)),
 gg 29 24 true (.call .iso f_ref19_Same [(t 26), (t 28)]),
 g 30 (.pick (t 24) (t 29) (b false)),
 g 31 (.mv (t 30)),
 gg 32 31 true (.faddr 18 (t 2)),
 gg 33 31 true (.load 1 false (t 32)),
 gg 34 31 true (.faddr 18 (t 3)),
 gg 35 31 true (.load 1 false (t 34)),
 gg 36 31 true (.call .iso f_ref28_ints [(t 33), (t 35)]),
 g 37 (.pick (t 31) (t 36) (b false)),
 g 38 (.mv (t 37)),
 gg 39 38 true (.faddr 19 (t 2)),
 gg 40 38 true (.load 1 false (t 39)),
 gg 41 38 true (.faddr 19 (t 3)),
 gg 42 38 true (.load 1 false (t 41)),
 gg 43 38 true (.bin .eql (t 40) (t 42)),
 g 44 (.pick (t 38) (t 43) (b false)),
 g 4 (.mv (t 44))])
 Q))⟩
def pf_best_Under : PF := ⟨2, [.cell 4 20 true],
 (S (R [g 2 (.box 20 (t 0)),
 g 4 (.alloc (.agg [.str ⟨#[]⟩, i64 0, i64 0, i64 0, nilsl, nilsl, nilsl, nilsl, nilsl, nilsl, nilsl, i64 0, i64 0, i64 0, i64 0, nilsl, i64 0, nilsl, nilsl, i64 0]))])
 (S (D [(1, 3), (2, 3), (3, 5)] [g 5 (.faddr 0 (t 2)),
 g 6 (.load 15 true (t 5)),
 g 7 (.call .iso f_problem_Copy [(t 6)]),
 g 8 (.lits 2 0 (.agg [i64 0, i64 0]) []),
 g 9 (.faddr 15 (t 2)),
 g 10 (.load 1 false (t 9)),
 g 11 (.app 16 (.agg [i64 0, i64 0]) (t 8) (t 10)),
 g 12 (.faddr 0 (t 2)),
 u (.store 15 (t 12) (t 7)),
 g 13 (.faddr 15 (t 2)),
 u (.store 1 (t 13) (t 11))])
 (S (R [g 14 (.mv (t 1)),
 g 15 (.faddr 16 (t 2)),
 u (.store 1 (t 15) (i 1)),
 g 16 (.faddr 19 (t 2)),
 u (.store 1 (t 16) (t 14)),
 g 17 (.faddr 17 (t 2)),
 u (.store 1 (t 17) (.c (nilsl))),
 g 18 (.faddr 18 (t 2)),
 u (.store 1 (t 18) (.c (nilsl)))])
 (S (R [g 19 (.load 20 true (t 2)),
 u (.store 20 (t 4) (t 19))])
 Q))))⟩
def pf_ref40_Under : PF := ⟨2, [.cell 4 20 true],
 (S (R [g 2 (.box 20 (t 0)),
 g 4 (.alloc (.agg [.str ⟨#[]⟩, i64 0, i64 0, i64 0, nilsl, nilsl, nilsl, nilsl, nilsl, nilsl, nilsl, i64 0, i64 0, i64 0, i64 0, nilsl, i64 0, nilsl, nilsl, i64 0]))])
 (S (R [g 5 (.faddr 0 (t 2)),
 g 6 (.load 15 true (t 5)),
 g 7 (.faddr 15 (t 2)),
 g 8 (.load 1 false (t 7)),
 g 9 (.mv (t 1)),
 g 10 (.build [.str ⟨#[]⟩, i64 0, i64 0, i64 0, nilsl, nilsl, nilsl, nilsl, nilsl, nilsl, nilsl, i64 0, i64 0, i64 0, i64 0, nilsl, i64 0, nilsl, nilsl, i64 0] [(0, 15, (t 6)), (15, 1, (t 8)), (16, 1, (i 1)), (19, 1, (t 9))]),
 u (.store 20 (t 4) (t 10))])
 Q))⟩
def pf_ref19_Same : PF := ⟨2, [.tmp 4],
 (S (R [g 4 (.mv (b false))])
 (S (S (R [g 6 (.mv (t 0)),
 g 7 (.len 1 (t 6)),
 g 8 (.mv (t 1)),
 g 9 (.len 1 (t 8)),
 g 10 (.bin .neq (t 7) (t 9))])
 (C (t 10)
 (S (R [g 4 (.mv (b false))])
 Q)
 Z))
 (S (S (R [g 5 (.mv (i 0))])
 (K 0
 (L [0, 1, 5]
 (S (S (R [g 11 (.mv (t 5)),
 g 12 (.mv (t 0)),
 g 13 (.len 1 (t 12)),
 g 14 (.bin .lss (t 11) (t 13))])
 (C (t 14)
 Z
 (X 0)))
 (S (K 1
 (S (D [] [g 17 (.mv (t 0)),
 g 18 (.mv (t 5)),
 g 19 (.iaddr 2 (t 17) (t 18)),
 g 20 (.load 2 true (t 19)),
 g 21 (.mv (t 1)),
 g 22 (.mv (t 5)),
 g 23 (.iaddr 2 (t 21) (t 22)),
 g 24 (.load 2 true (t 23)),
 g 25 (.eq (.st [.i, .i]) true (t 20) (t 24))])
 (C (t 25)
 (S (R [g 4 (.mv (b false))])
 Q)
 Z)))
 (R [g 15 (.mv (t 5)),
 g 16 (.bin .add (t 15) (i 1)),
 g 5 (.mv (t 16))]))))))
 (S (R [g 4 (.mv (b true))])
 Q))))⟩
def pf_reason_Right : PF := ⟨1, [.tmp 2],
 (S (R [g 1 (.box 20 (t 0)),
 g 2 (.mv (b false))])
 (S (S (R [g 5 (.faddr 0 (t 1)),
 g 6 (.load 15 true (t 5)),
 g 7 (.call .iso f_problem_Right [(t 6)]),
 g 8 (.un .not (t 7)),
 g 9 (.mv (t 8)),
 gg 10 9 false (.faddr 0 (t 1)),
 gg 11 9 false (.load 15 true (t 10)),
 gg 12 9 false (.faddr 15 (t 1)),
 gg 13 9 false (.load 1 false (t 12)),
 gg 14 9 false (.call .iso f_reason_off [(t 11), (t 13)]),
 gg 15 9 false (.un .not (t 14)),
 g 16 (.pick (t 9) (b true) (t 15))])
 (C (t 16)
 (S (R [g 2 (.mv (b false))])
 Q)
 Z))
 (S (R [g 17 (.faddr 17 (t 1)),
 g 18 (.load 1 false (t 17)),
 g 19 (.len 1 (t 18)),
 g 20 (.bin .eql (t 19) (i 0)),
 g 21 (.mv (t 20)),
 gg 22 21 true (.faddr 18 (t 1)),
 gg 23 21 true (.load 1 false (t 22)),
 gg 24 21 true (.len 1 (t 23)),
 gg 25 21 true (.bin .eql (t 24) (i 0)),
 g 26 (.pick (t 21) (t 25) (b false)),
 g 3 (.mv (t 26))])
 (S (R [g 27 (.faddr 19 (t 1)),
 g 28 (.load 1 false (t 27)),
 g 29 (.bin .geq (t 28) (i 0)),
 g 30 (.mv (t 29)),
 gg 31 30 true (.faddr 19 (t 1)),
 gg 32 30 true (.load 1 false (t 31)),
 gg 33 30 true (.bin .leq (t 32) (i 1000000000000)),
 g 34 (.pick (t 30) (t 33) (b false)),
 g 4 (.mv (t 34))])
 (S (S (R [g 35 (.faddr 16 (t 1)),
 g 36 (.load 1 false (t 35))])
 (K 0
 (S (R [g 38 (.bin .eql (t 36) (i 0)),
 g 37 (.mv (t 38))])
 (C (t 37)
 (S (R [g 39 (.mv (t 3)),
 g 40 (.mv (t 39)),
 gg 41 40 true (.faddr 19 (t 1)),
 gg 42 40 true (.load 1 false (t 41)),
 gg 43 40 true (.bin .eql (t 42) (i 0)),
 g 44 (.pick (t 40) (t 43) (b false)),
 g 2 (.mv (t 44))])
 Q)
 (S (R [g 46 (.bin .eql (t 36) (i 1)),
 g 45 (.mv (t 46))])
 (C (t 45)
 (S (R [g 47 (.mv (t 3)),
 g 48 (.mv (t 47)),
 gg 49 48 true (.mv (t 4)),
 g 50 (.pick (t 48) (t 49) (b false)),
 g 2 (.mv (t 50))])
 Q)
 (S (R [g 52 (.bin .eql (t 36) (i 2)),
 g 51 (.mv (t 52))])
 (C (t 51)
 (S (R [g 53 (.mv (t 4)),
 g 54 (.mv (t 53)),
 gg 55 54 true (.faddr 0 (t 1)),
 gg 56 54 true (.load 15 true (t 55)),
 gg 57 54 true (.faddr 17 (t 1)),
 gg 58 54 true (.load 1 false (t 57)),
 gg 59 54 true (.call .iso f_plan_Right [(t 56), (t 58)]),
 g 60 (.pick (t 54) (t 59) (b false)),
 g 61 (.mv (t 60)),
 gg 62 61 true (.faddr 18 (t 1)),
 gg 63 61 true (.load 1 false (t 62)),
 gg 64 61 true (.faddr 0 (t 1)),
 gg 65 61 true (.faddr 7 (t 64)),
 gg 66 61 true (.load 1 false (t 65)),
 gg 67 61 true (.len 1 (t 66)),
 gg 68 61 true (.call .iso f_reason_weights [(t 63), (t 67)]),
 g 69 (.pick (t 61) (t 68) (b false)),
 g 2 (.mv (t 69))])
 Q)
 Z))))))))
 (S (R [g 2 (.mv (b false))])
 Q))))))⟩
def pf_lit_New : PF := ⟨1, [.tmp 2],
 (S (R [g 1 (.box 15 (t 0)),
 g 2 (.mv (.c (.nilp)))])
 (S (S (R [g 8 (.load 15 true (t 1)),
 g 9 (.call .iso f_problem_Right [(t 8)]),
 g 10 (.un .not (t 9))])
 (C (t 10)
 (S (R [g 2 (.mv (.c (.nilp)))])
 Q)
 Z))
 (S (R [g 11 (.load 15 true (t 1)),
 g 12 (.call .iso f_problem_Copy [(t 11)]),
 g 13 (.build [.str ⟨#[]⟩, i64 0, i64 0, i64 0, nilsl, nilsl, nilsl, nilsl, nilsl, nilsl, nilsl, i64 0, i64 0, i64 0, i64 0, nilsl, nilsl, nilsl] [(0, 15, (t 12))]),
 g 14 (.box 18 (t 13)),
 g 3 (.mv (t 14))])
 (S (S (R [g 15 (.faddr 7 (t 1)),
 g 16 (.load 1 false (t 15)),
 g 17 (.len 1 (t 16)),
 g 18 (.mv (i 0))])
 (K 0
 (L [3, 16, 17, 18]
 (S (R [g 19 (.bin .lss (t 18) (t 17))])
 (S (C (t 19)
 Z
 (X 0))
 (S (K 1
 (S (R [g 20 (.mv (t 18)),
 g 21 (.iaddr 7 (t 16) (t 18)),
 g 22 (.load 7 true (t 21)),
 g 5 (.alloc (.agg [.str ⟨#[]⟩, i64 0, .int .u16 (0), nilsl, nilsl, nilsl, i64 0])),
 g 4 (.mv (t 20)),
 u (.store 7 (t 5) (t 22))])
 (S (D [(4, 10)] [g 23 (.mv (t 3)),
 g 24 (.mv (t 3)),
 g 25 (.nilCheck (t 24)),
 g 26 (.faddr 16 (t 25)),
 g 27 (.load 1 false (t 26)),
 g 28 (.mv (t 3)),
 g 29 (.nilCheck (t 28)),
 g 30 (.faddr 15 (t 29)),
 g 31 (.load 1 false (t 30)),
 g 32 (.len 1 (t 31)),
 g 33 (.lits 1 1 (i64 0) [(0, (t 32))]),
 g 34 (.app 8 (i64 0) (t 27) (t 33)),
 g 35 (.nilCheck (t 23)),
 g 36 (.faddr 16 (t 35)),
 u (.store 1 (t 36) (t 34))])
 (S (S (R [g 37 (.faddr 4 (t 5)),
 g 38 (.load 1 false (t 37)),
 g 39 (.len 1 (t 38)),
 g 40 (.mv (i 0))])
 (K 2
 (L [3, 4, 5, 16, 17, 18, 39, 40]
 (S (R [g 41 (.bin .lss (t 40) (t 39))])
 (S (C (t 41)
 Z
 (X 2))
 (S (K 3
 (S (R [g 42 (.mv (t 40)),
 g 6 (.mv (t 42))])
 (R [g 43 (.mv (t 3)),
 g 44 (.mv (t 3)),
 g 45 (.nilCheck (t 44)),
 g 46 (.faddr 15 (t 45)),
 g 47 (.load 1 false (t 46)),
 g 48 (.mv (t 4)),
 g 49 (.mv (t 6)),
 g 50 (.build [i64 0, .bool false, i64 0] [(0, 1, (t 48)), (2, 1, (t 49))]),
 g 51 (.lits 3 1 (.agg [i64 0, .bool false, i64 0]) [(0, (t 50))]),
 g 52 (.app 24 (.agg [i64 0, .bool false, i64 0]) (t 47) (t 51)),
 g 53 (.nilCheck (t 43)),
 g 54 (.faddr 15 (t 53)),
 u (.store 1 (t 54) (t 52))])))
 (R [g 55 (.bin .add (t 40) (i 1)),
 g 40 (.mv (t 55))])))))))
 (S (D [(4, 10)] [g 56 (.mv (t 3)),
 g 57 (.mv (t 3)),
 g 58 (.nilCheck (t 57)),
 g 59 (.faddr 17 (t 58)),
 g 60 (.load 1 false (t 59)),
 g 61 (.mv (t 3)),
 g 62 (.nilCheck (t 61)),
 g 63 (.faddr 15 (t 62)),
 g 64 (.load 1 false (t 63)),
 g 65 (.len 1 (t 64)),
 g 66 (.lits 1 1 (i64 0) [(0, (t 65))]),
 g 67 (.app 8 (i64 0) (t 60) (t 66)),
 g 68 (.nilCheck (t 56)),
 g 69 (.faddr 17 (t 68)),
 u (.store 1 (t 69) (t 67))])
 (S (R [g 70 (.faddr 5 (t 5)),
 g 71 (.load 1 false (t 70)),
 g 72 (.len 1 (t 71)),
 g 73 (.mv (i 0))])
 (K 4
 (L [3, 4, 16, 17, 18, 72, 73]
 (S (R [g 74 (.bin .lss (t 73) (t 72))])
 (S (C (t 74)
 Z
 (X 4))
 (S (K 5
 (S (R [g 75 (.mv (t 73)),
 g 7 (.mv (t 75))])
 (R [g 76 (.mv (t 3)),
 g 77 (.mv (t 3)),
 g 78 (.nilCheck (t 77)),
 g 79 (.faddr 15 (t 78)),
 g 80 (.load 1 false (t 79)),
 g 81 (.mv (t 4)),
 g 82 (.mv (t 7)),
 g 83 (.build [i64 0, .bool false, i64 0] [(0, 1, (t 81)), (1, 1, (b true)), (2, 1, (t 82))]),
 g 84 (.lits 3 1 (.agg [i64 0, .bool false, i64 0]) [(0, (t 83))]),
 g 85 (.app 24 (.agg [i64 0, .bool false, i64 0]) (t 80) (t 84)),
 g 86 (.nilCheck (t 76)),
 g 87 (.faddr 15 (t 86)),
 u (.store 1 (t 87) (t 85))])))
 (R [g 88 (.bin .add (t 73) (i 1)),
 g 73 (.mv (t 88))]))))))))))))
 (R [g 89 (.bin .add (t 18) (i 1)),
 g 18 (.mv (t 89))])))))))
 (S (R [g 90 (.mv (t 3)),
 g 2 (.mv (t 90))])
 Q)))))⟩
def pf_seek_search_run : PF := ⟨1, [.cell 2 4 true],
 (S (R [g 2 (.alloc (.agg [i64 0, nilsl, nilsl, i64 0]))])
 (S (R [g 7 (.mv (t 0)),
 g 8 (.nilCheck (t 7)),
 g 9 (.faddr 0 (t 8)),
 g 10 (.faddr 0 (t 9)),
 g 11 (.load 15 true (t 10)),
 g 12 (.call .iso f_plan_Empty [(t 11)]),
 g 3 (.mv (t 12))])
 (S (R [g 4 (.mv (i 0))])
 (S (S (R [g 14 (.mv (t 0)),
 g 15 (.nilCheck (t 14)),
 g 16 (.faddr 0 (t 15)),
 g 17 (.load 20 true (t 16)),
 g 18 (.mv (t 3)),
 g 19 (.call .iso f_spring_Broken [(t 17), (t 18)]),
 g 13 (.mv (t 19)),
 g 20 (.ext (t 13) 0),
 g 21 (.ext (t 13) 1),
 g 5 (.alloc (.agg [i64 0, i64 0, nilsl])),
 u (.store 3 (t 5) (t 20)),
 g 6 (.mv (t 21))])
 (S (R [g 22 (.mv (t 6))])
 (C (t 22)
 (R [g 23 (.mv (t 0)),
 g 24 (.load 3 true (t 5)),
 g 25 (.call .inl f_seek_search_broken [(t 23), (t 24)]),
 g 4 (.mv (t 25))])
 (R [g 26 (.mv (t 0)),
 g 27 (.mv (t 3)),
 g 28 (.call .inl f_seek_search_solve [(t 26), (t 27)]),
 g 4 (.mv (t 28))]))))
 (S (S (R [g 29 (.mv (t 0)),
 g 30 (.nilCheck (t 29)),
 g 31 (.faddr 23 (t 30)),
 g 32 (.load 1 false (t 31)),
 g 33 (.bin .eql (t 32) (i 1))])
 (C (t 33)
 (S (D [] [g 34 (.mv (t 0)),
 g 35 (.nilCheck (t 34)),
 g 36 (.faddr 26 (t 35)),
 g 37 (.load 1 false (t 36)),
 g 38 (.mv (t 0)),
 g 39 (.nilCheck (t 38)),
 g 40 (.faddr 22 (t 39)),
 g 41 (.load 1 false (t 40)),
 g 42 (.build [i64 0, nilsl, nilsl, i64 0] [(0, 1, (i 1)), (1, 1, (t 37)), (3, 1, (t 41))]),
 u (.store 4 (t 2) (t 42))])
 Q)
 Z))
 (S (R [g 43 (.mv (t 0)),
 g 44 (.nilCheck (t 43)),
 g 45 (.faddr 23 (t 44)),
 u (.store 1 (t 45) (i 2))])
 (S (D [] [g 46 (.mv (t 0)),
 g 47 (.mv (t 4)),
 g 48 (.call .iso f_seek_search_steps [(t 46), (t 47)]),
 g 49 (.mv (t 0)),
 g 50 (.nilCheck (t 49)),
 g 51 (.faddr 22 (t 50)),
 g 52 (.load 1 false (t 51)),
 g 53 (.build [i64 0, nilsl, nilsl, i64 0] [(0, 1, (i 2)), (2, 1, (t 48)), (3, 1, (t 52))]),
 u (.store 4 (t 2) (t 53))])
 Q)))))))⟩
def pf_law40_some : PF := ⟨0, [.cell 0 15 true],
 (S (R [g 0 (.alloc (.agg [.str ⟨#[]⟩, i64 0, i64 0, i64 0, nilsl, nilsl, nilsl, nilsl, nilsl, nilsl, nilsl, i64 0, i64 0, i64 0, i64 0]))])
 (S (R [g 3 (.build [.int .u32 (0), .int .u8 (0), i64 0, i64 0] [(0, 1, (.c (.int .u32 (1)))), (1, 1, (.c (.int .u8 (1)))), (3, 1, (i 1))]),
 g 1 (.alloc (.agg [.int .u32 (0), .int .u8 (0), i64 0, i64 0])),
 u (.store 4 (t 1) (t 3))])
 (S (R [g 4 (.build [.int .u32 (0), .int .u8 (0), i64 0, i64 0] [(0, 1, (.c (.int .u32 (1)))), (1, 1, (.c (.int .u8 (2)))), (3, 1, (i 1))]),
 g 2 (.alloc (.agg [.int .u32 (0), .int .u8 (0), i64 0, i64 0])),
 u (.store 4 (t 2) (t 4))])
 (S (R [g 5 (.build [i64 0, i64 0, i64 0] [(0, 1, (i 1)), (1, 1, (i 2)), (2, 1, (i 4))]),
 g 6 (.load 4 true (t 2)),
 g 7 (.build [.int .u32 (0), .int .u8 (0), i64 0, i64 0, i64 0] [(0, 4, (t 6)), (4, 1, (i 5))]),
 g 8 (.load 4 true (t 1)),
 g 9 (.build [.int .u32 (0), .int .u8 (0), i64 0, i64 0, i64 0] [(0, 4, (t 8)), (4, 1, (i 2))]),
 g 10 (.lits 5 2 (.agg [.int .u32 (0), .int .u8 (0), i64 0, i64 0, i64 0]) [(0, (t 7)), (1, (t 9))]),
 g 11 (.build [.str ⟨#[]⟩, i64 0, .int .u16 (0), nilsl, nilsl, nilsl, i64 0] [(0, 1, (.c (.str ⟨#[97]⟩))), (4, 1, (t 10)), (6, 1, (i (-1)))]),
 g 12 (.lits 7 1 (.agg [.str ⟨#[]⟩, i64 0, .int .u16 (0), nilsl, nilsl, nilsl, i64 0]) [(0, (t 11))]),
 g 13 (.build [i64 0, i64 0, i64 0, i64 0] [(0, 1, (i 1))]),
 g 14 (.build [.str ⟨#[]⟩, i64 0, i64 0, i64 0, nilsl, nilsl, nilsl, nilsl, nilsl, nilsl, nilsl, i64 0, i64 0, i64 0, i64 0] [(0, 1, (.c (.str ⟨#[112]⟩))), (1, 3, (t 5)), (7, 1, (t 12)), (11, 4, (t 13))]),
 u (.store 15 (t 0) (t 14))])
 Q))))⟩
def pf_price_Of : PF := ⟨2, [.tmp 4, .tmp 5],
 (S (R [g 2 (.box 15 (t 0)),
 g 4 (.mv (i 0)),
 g 5 (.mv (b false))])
 (S (S (R [g 6 (.load 15 true (t 2)),
 g 7 (.mv (t 1)),
 g 8 (.call .iso f_plan_Whole [(t 6), (t 7)]),
 g 9 (.un .not (t 8))])
 (C (t 9)
 (S (R [g 4 (.mv (i 0)),
 g 5 (.mv (b false))])
 Q)
 Z))
 (S (R [g 10 (.load 15 true (t 2)),
 g 11 (.mv (t 1)),
 g 12 (.call .iso f_price_Least [(t 10), (t 11)]),
 g 4 (.mv (t 12)),
 g 5 (.mv (b true))])
 Q)))⟩
def pf_reason_Kept : PF := ⟨2, [.tmp 4],
 (S (R [g 2 (.box 20 (t 0)),
 g 4 (.mv (b false))])
 (S (S (R [g 5 (.load 20 true (t 2)),
 g 6 (.call .iso f_reason_Right [(t 5)]),
 g 7 (.un .not (t 6)),
 g 8 (.mv (t 7)),
 gg 9 8 false (.faddr 0 (t 2)),
 gg 10 8 false (.load 15 true (t 9)),
 gg 11 8 false (.mv (t 1)),
 gg 12 8 false (.call .iso f_plan_Whole [(t 10), (t 11)]),
 gg 13 8 false (.un .not (t 12)),
 g 14 (.pick (t 8) (b true) (t 13)),
 g 15 (.mv (t 14)),
 gg 16 15 false (.faddr 0 (t 2)),
 gg 17 15 false (.load 15 true (t 16)),
 gg 18 15 false (.mv (t 1)),
 gg 19 15 false (.faddr 15 (t 2)),
 gg 20 15 false (.load 1 false (t 19)),
 gg 21 15 false (.call .iso f_check_Left [(t 17), (t 18), (t 20)]),
 gg 22 15 false (.len 1 (t 21)),
 gg 23 15 false (.bin .gtr (t 22) (i 0)),
 g 24 (.pick (t 15) (b true) (t 23))])
 (C (t 24)
 (S (R [g 4 (.mv (b false))])
 Q)
 Z))
 (S (D [] [g 25 (.faddr 16 (t 2)),
 g 26 (.load 1 false (t 25)),
 g 27 (.bin .eql (t 26) (i 0)),
 g 28 (.mv (t 27)),
 gg 29 28 false (.load 20 true (t 2)),
 gg 30 28 false (.mv (t 1)),
 gg 31 28 false (.call .iso f_reason_Spent [(t 29), (t 30)]),
 gg 32 28 false (.faddr 19 (t 2)),
 gg 33 28 false (.load 1 false (t 32)),
 gg 34 28 false (.bin .leq (t 31) (t 33)),
 g 35 (.pick (t 28) (b true) (t 34)),
 g 4 (.mv (t 35))])
 Q)))⟩
def pf_judge_Judge : PF := ⟨2, [.tmp 4, .tmp 5],
 (S (R [g 2 (.box 20 (t 0)),
 g 4 (.mv (i 0)),
 g 5 (.mv (i 0))])
 (S (K 0
 (S (R [g 11 (.load 20 true (t 2)),
 g 12 (.call .iso f_reason_Right [(t 11)]),
 g 13 (.un .not (t 12)),
 g 10 (.mv (t 13))])
 (C (t 10)
 (S (R [g 4 (.mv (i 0)),
 g 5 (.mv (i 20))])
 Q)
 (S (R [g 15 (.mv (t 1)),
 g 16 (.len 1 (t 15)),
 g 17 (.bin .gtr (t 16) (i 200000)),
 g 14 (.mv (t 17))])
 (C (t 14)
 (S (R [g 4 (.mv (i 200000)),
 g 5 (.mv (i 5))])
 Q)
 Z)))))
 (S (R [g 18 (.load 20 true (t 2)),
 g 19 (.call .inn f_judge_open [(t 18)]),
 g 6 (.mv (t 19))])
 (S (S (R [g 20 (.mv (t 1)),
 g 21 (.len 1 (t 20)),
 g 22 (.mv (i 0))])
 (K 1
 (L [1, 6, 20, 21, 22]
 (S (R [g 23 (.bin .lss (t 22) (t 21))])
 (S (C (t 23)
 Z
 (X 1))
 (S (K 2
 (S (R [g 24 (.mv (t 22)),
 g 25 (.iaddr 3 (t 20) (t 22)),
 g 26 (.load 3 true (t 25)),
 g 8 (.alloc (.agg [i64 0, i64 0, nilsl])),
 g 7 (.mv (t 24)),
 u (.store 3 (t 8) (t 26))])
 (S (R [g 27 (.mv (t 6)),
 g 28 (.load 3 true (t 8)),
 g 29 (.call .inl f_judge_court_take [(t 27), (t 28)]),
 g 9 (.mv (t 29))])
 (S (R [g 30 (.mv (t 9)),
 g 31 (.bin .neq (t 30) (i 0))])
 (C (t 31)
 (S (R [g 32 (.mv (t 7)),
 g 33 (.mv (t 9)),
 g 4 (.mv (t 32)),
 g 5 (.mv (t 33))])
 Q)
 Z)))))
 (R [g 34 (.bin .add (t 22) (i 1)),
 g 22 (.mv (t 34))])))))))
 (S (S (R [g 35 (.mv (t 6)),
 g 36 (.nilCheck (t 35)),
 g 37 (.faddr 21 (t 36)),
 g 38 (.load 1 false (t 37)),
 g 39 (.un .not (t 38))])
 (C (t 39)
 (S (R [g 40 (.mv (t 1)),
 g 41 (.len 1 (t 40)),
 g 4 (.mv (t 41)),
 g 5 (.mv (i 23))])
 Q)
 Z))
 (S (R [g 42 (.mv (t 1)),
 g 43 (.len 1 (t 42)),
 g 4 (.mv (t 43)),
 g 5 (.mv (i 0))])
 Q))))))⟩
def pf_ref17_Same : PF := ⟨2, [.tmp 4],
 (S (R [g 2 (.box 15 (t 0)),
 g 3 (.box 15 (t 1)),
 g 4 (.mv (b false))])
 (S (S (R [g 12 (.faddr 0 (t 2)),
 g 13 (.load 1 false (t 12)),
 g 14 (.faddr 0 (t 3)),
 g 15 (.load 1 false (t 14)),
 g 16 (.bin .neq (t 13) (t 15)),
 g 17 (.mv (t 16)),
 gg 18 17 false (.faddr 1 (t 2)),
 gg 19 17 false (.load 3 true (t 18)),
 gg 20 17 false (.faddr 1 (t 3)),
 gg 21 17 false (.load 3 true (t 20)),
 gg 22 17 false (.eq (.st [.i, .i, .i]) true (t 19) (t 21)),
 g 23 (.pick (t 17) (b true) (t 22)),
 g 24 (.mv (t 23)),
 gg 25 24 false (.faddr 11 (t 2)),
 gg 26 24 false (.load 4 true (t 25)),
 gg 27 24 false (.faddr 11 (t 3)),
 gg 28 24 false (.load 4 true (t 27)),
 gg 29 24 false (.eq (.st [.i, .i, .i, .i]) true (t 26) (t 28)),
 g 30 (.pick (t 24) (b true) (t 29)),
 g 31 (.mv (t 30)),
 gg 32 31 false (.faddr 5 (t 2)),
 gg 33 31 false (.load 1 false (t 32)),
 gg 34 31 false (.faddr 5 (t 3)),
 gg 35 31 false (.load 1 false (t 34)),
 gg 36 31 false (.call .iso f_ref14_Rows [(t 33), (t 35)]),
 gg 37 31 false (.un .not (t 36)),
 g 38 (.pick (t 31) (b true) (t 37)),
 g 39 (.mv (t 38)),
 gg 40 39 false (.faddr 4 (t 2)),
 gg 41 39 false (.load 1 false (t 40)),
 gg 42 39 false (.len 1 (t 41)),
 gg 43 39 false (.faddr 4 (t 3)),
 gg 44 39 false (.load 1 false (t 43)),
 gg 45 39 false (.len 1 (t 44)),
 gg 46 39 false (.bin .neq (t 42) (t 45)),
 g 47 (.pick (t 39) (b true) (t 46)),
 g 48 (.mv (t 47)),
 gg 49 48 false (.faddr 6 (t 2)),
 gg 50 48 false (.load 1 false (t 49)),
 gg 51 48 false (.len 1 (t 50)),
 gg 52 48 false (.faddr 6 (t 3)),
 gg 53 48 false (.load 1 false (t 52)),
 gg 54 48 false (.len 1 (t 53)),
 gg 55 48 false (.bin .neq (t 51) (t 54)),
 g 56 (.pick (t 48) (b true) (t 55)),
 g 57 (.mv (t 56)),
 gg 58 57 false (.faddr 7 (t 2)),
 gg 59 57 false (.load 1 false (t 58)),
 gg 60 57 false (.len 1 (t 59)),
 gg 61 57 false (.faddr 7 (t 3)),
 gg 62 57 false (.load 1 false (t 61)),
 gg 63 57 false (.len 1 (t 62)),
 gg 64 57 false (.bin .neq (t 60) (t 63)),
 g 65 (.pick (t 57) (b true) (t 64)),
 g 66 (.mv (t 65)),
 gg 67 66 false (.faddr 8 (t 2)),
 gg 68 66 false (.load 1 false (t 67)),
 gg 69 66 false (.len 1 (t 68)),
 gg 70 66 false (.faddr 8 (t 3)),
 gg 71 66 false (.load 1 false (t 70)),
 gg 72 66 false (.len 1 (t 71)),
 gg 73 66 false (.bin .neq (t 69) (t 72)),
 g 74 (.pick (t 66) (b true) (t 73)),
 g 75 (.mv (t 74)),
 gg 76 75 false (.faddr 9 (t 2)),
 gg 77 75 false (.load 1 false (t 76)),
 gg 78 75 false (.len 1 (t 77)),
 gg 79 75 false (.faddr 9 (t 3)),
 gg 80 75 false (.load 1 false (t 79)),
 gg 81 75 false (.len 1 (t 80)),
 gg 82 75 false (.bin .neq (t 78) (t 81)),
 g 83 (.pick (t 75) (b true) (t 82)),
 g 84 (.mv (t 83)),
 gg 85 84 false (.faddr 10 (t 2)),
 gg 86 84 false (.load 1 false (t 85)),
 gg 87 84 false (.len 1 (t 86)),
 gg 88 84 false (.faddr 10 (t 3)),
 gg 89 84 false (.load 1 false (t 88)),
 gg 90 84 false (.len 1 (t 89)),
 gg 91 84 false (.bin .neq (t 87) (t 90)),
 g 92 (.pick (t 84) (b true) (t 91))])
 (C (t 92)
 (S (R [g 4 (.mv (b false))])
 Q)
 Z))
 (S (R [g 5 (.mv (b true))])
 (S (S (R [g 6 (.mv (i 0))])
 (K 0
 (L [2, 3, 5, 6]
 (S (S (R [g 93 (.mv (t 6)),
 g 94 (.faddr 4 (t 2)),
 g 95 (.load 1 false (t 94)),
 g 96 (.len 1 (t 95)),
 g 97 (.bin .lss (t 93) (t 96))])
 (C (t 97)
 Z
 (X 0)))
 (S (K 1
 (D [] [g 100 (.mv (t 5)),
 g 101 (.mv (t 100)),
 gg 102 101 true (.faddr 4 (t 2)),
 gg 103 101 true (.load 1 false (t 102)),
 gg 104 101 true (.mv (t 6)),
 gg 105 101 true (.iaddr 4 (t 103) (t 104)),
 gg 106 101 true (.load 4 true (t 105)),
 gg 107 101 true (.faddr 4 (t 3)),
 gg 108 101 true (.load 1 false (t 107)),
 gg 109 101 true (.mv (t 6)),
 gg 110 101 true (.iaddr 4 (t 108) (t 109)),
 gg 111 101 true (.load 4 true (t 110)),
 gg 112 101 true (.call .iso f_ref11_Same [(t 106), (t 111)]),
 g 113 (.pick (t 101) (t 112) (b false)),
 g 5 (.mv (t 113))]))
 (R [g 98 (.mv (t 6)),
 g 99 (.bin .add (t 98) (i 1)),
 g 6 (.mv (t 99))]))))))
 (S (S (R [g 7 (.mv (i 0))])
 (K 2
 (L [2, 3, 5, 7]
 (S (S (R [g 114 (.mv (t 7)),
 g 115 (.faddr 6 (t 2)),
 g 116 (.load 1 false (t 115)),
 g 117 (.len 1 (t 116)),
 g 118 (.bin .lss (t 114) (t 117))])
 (C (t 118)
 Z
 (X 2)))
 (S (K 3
 (D [] [g 121 (.mv (t 5)),
 g 122 (.mv (t 121)),
 gg 123 122 true (.faddr 6 (t 2)),
 gg 124 122 true (.load 1 false (t 123)),
 gg 125 122 true (.mv (t 7)),
 gg 126 122 true (.iaddr 2 (t 124) (t 125)),
 gg 127 122 true (.load 2 true (t 126)),
 gg 128 122 true (.faddr 6 (t 3)),
 gg 129 122 true (.load 1 false (t 128)),
 gg 130 122 true (.mv (t 7)),
 gg 131 122 true (.iaddr 2 (t 129) (t 130)),
 gg 132 122 true (.load 2 true (t 131)),
 gg 133 122 true (.call .iso f_ref12_Same [(t 127), (t 132)]),
 g 134 (.pick (t 122) (t 133) (b false)),
 g 5 (.mv (t 134))]))
 (R [g 119 (.mv (t 7)),
 g 120 (.bin .add (t 119) (i 1)),
 g 7 (.mv (t 120))]))))))
 (S (S (R [g 8 (.mv (i 0))])
 (K 4
 (L [2, 3, 5, 8]
 (S (S (R [g 135 (.mv (t 8)),
 g 136 (.faddr 7 (t 2)),
 g 137 (.load 1 false (t 136)),
 g 138 (.len 1 (t 137)),
 g 139 (.bin .lss (t 135) (t 138))])
 (C (t 139)
 Z
 (X 4)))
 (S (K 5
 (D [] [g 142 (.mv (t 5)),
 g 143 (.mv (t 142)),
 gg 144 143 true (.faddr 7 (t 2)),
 gg 145 143 true (.load 1 false (t 144)),
 gg 146 143 true (.mv (t 8)),
 gg 147 143 true (.iaddr 7 (t 145) (t 146)),
 gg 148 143 true (.load 7 true (t 147)),
 gg 149 143 true (.faddr 7 (t 3)),
 gg 150 143 true (.load 1 false (t 149)),
 gg 151 143 true (.mv (t 8)),
 gg 152 143 true (.iaddr 7 (t 150) (t 151)),
 gg 153 143 true (.load 7 true (t 152)),
 gg 154 143 true (.call .iso f_ref13_Same [(t 148), (t 153)]),
 g 155 (.pick (t 143) (t 154) (b false)),
 g 5 (.mv (t 155))]))
 (R [g 140 (.mv (t 8)),
 g 141 (.bin .add (t 140) (i 1)),
 g 8 (.mv (t 141))]))))))
 (S (S (R [g 9 (.mv (i 0))])
 (K 6
 (L [2, 3, 5, 9]
 (S (S (R [g 156 (.mv (t 9)),
 g 157 (.faddr 8 (t 2)),
 g 158 (.load 1 false (t 157)),
 g 159 (.len 1 (t 158)),
 g 160 (.bin .lss (t 156) (t 159))])
 (C (t 160)
 Z
 (X 6)))
 (S (K 7
 (D [] [g 163 (.mv (t 5)),
 g 164 (.mv (t 163)),
 gg 165 164 true (.faddr 8 (t 2)),
 gg 166 164 true (.load 1 false (t 165)),
 gg 167 164 true (.mv (t 9)),
 gg 168 164 true (.iaddr 2 (t 166) (t 167)),
 gg 169 164 true (.load 2 true (t 168)),
 gg 170 164 true (.faddr 8 (t 3)),
 gg 171 164 true (.load 1 false (t 170)),
 gg 172 164 true (.mv (t 9)),
 gg 173 164 true (.iaddr 2 (t 171) (t 172)),
 gg 174 164 true (.load 2 true (t 173)),
 gg 175 164 true (.call .iso f_ref14_Same [(t 169), (t 174)]),
 g 176 (.pick (t 164) (t 175) (b false)),
 g 5 (.mv (t 176))]))
 (R [g 161 (.mv (t 9)),
 g 162 (.bin .add (t 161) (i 1)),
 g 9 (.mv (t 162))]))))))
 (S (S (R [g 10 (.mv (i 0))])
 (K 8
 (L [2, 3, 5, 10]
 (S (S (R [g 177 (.mv (t 10)),
 g 178 (.faddr 9 (t 2)),
 g 179 (.load 1 false (t 178)),
 g 180 (.len 1 (t 179)),
 g 181 (.bin .lss (t 177) (t 180))])
 (C (t 181)
 Z
 (X 8)))
 (S (K 9
 (D [] [g 184 (.mv (t 5)),
 g 185 (.mv (t 184)),
 gg 186 185 true (.faddr 9 (t 2)),
 gg 187 185 true (.load 1 false (t 186)),
 gg 188 185 true (.mv (t 10)),
 gg 189 185 true (.iaddr 2 (t 187) (t 188)),
 gg 190 185 true (.faddr 0 (t 189)),
 gg 191 185 true (.load 1 false (t 190)),
 gg 192 185 true (.faddr 9 (t 3)),
 gg 193 185 true (.load 1 false (t 192)),
 gg 194 185 true (.mv (t 10)),
 gg 195 185 true (.iaddr 2 (t 193) (t 194)),
 gg 196 185 true (.faddr 0 (t 195)),
 gg 197 185 true (.load 1 false (t 196)),
 gg 198 185 true (.bin .eql (t 191) (t 197)),
 g 199 (.pick (t 185) (t 198) (b false)),
 g 200 (.mv (t 199)),
 gg 201 200 true (.faddr 9 (t 2)),
 gg 202 200 true (.load 1 false (t 201)),
 gg 203 200 true (.mv (t 10)),
 gg 204 200 true (.iaddr 2 (t 202) (t 203)),
 gg 205 200 true (.faddr 1 (t 204)),
 gg 206 200 true (.load 1 false (t 205)),
 gg 207 200 true (.faddr 9 (t 3)),
 gg 208 200 true (.load 1 false (t 207)),
 gg 209 200 true (.mv (t 10)),
 gg 210 200 true (.iaddr 2 (t 208) (t 209)),
 gg 211 200 true (.faddr 1 (t 210)),
 gg 212 200 true (.load 1 false (t 211)),
 gg 213 200 true (.call .iso f_ref03_Ints [(t 206), (t 212)]),
 g 214 (.pick (t 200) (t 213) (b false)),
 g 5 (.mv (t 214))]))
 (R [g 182 (.mv (t 10)),
 g 183 (.bin .add (t 182) (i 1)),
 g 10 (.mv (t 183))]))))))
 (S (S (R [g 11 (.mv (i 0))])
 (K 10
 (L [2, 3, 5, 11]
 (S (S (R [g 215 (.mv (t 11)),
 g 216 (.faddr 10 (t 2)),
 g 217 (.load 1 false (t 216)),
 g 218 (.len 1 (t 217)),
 g 219 (.bin .lss (t 215) (t 218))])
 (C (t 219)
 Z
 (X 10)))
 (S (K 11
 (D [] [g 222 (.mv (t 5)),
 g 223 (.mv (t 222)),
 gg 224 223 true (.faddr 10 (t 2)),
 gg 225 223 true (.load 1 false (t 224)),
 gg 226 223 true (.mv (t 11)),
 gg 227 223 true (.iaddr 6 (t 225) (t 226)),
 gg 228 223 true (.load 6 true (t 227)),
 gg 229 223 true (.faddr 10 (t 3)),
 gg 230 223 true (.load 1 false (t 229)),
 gg 231 223 true (.mv (t 11)),
 gg 232 223 true (.iaddr 6 (t 230) (t 231)),
 gg 233 223 true (.load 6 true (t 232)),
 gg 234 223 true (.call .iso f_ref17_sameRule [(t 228), (t 233)]),
 g 235 (.pick (t 223) (t 234) (b false)),
 g 5 (.mv (t 235))]))
 (R [g 220 (.mv (t 11)),
 g 221 (.bin .add (t 220) (i 1)),
 g 11 (.mv (t 221))]))))))
 (S (R [g 236 (.mv (t 5)),
 g 4 (.mv (t 236))])
 Q))))))))))⟩
def pf_ref28_Rows : PF := ⟨2, [.tmp 4],
 (S (R [g 4 (.mv (b false))])
 (S (S (R [g 6 (.mv (t 0)),
 g 7 (.len 1 (t 6)),
 g 8 (.mv (t 1)),
 g 9 (.len 1 (t 8)),
 g 10 (.bin .neq (t 7) (t 9))])
 (C (t 10)
 (S (R [g 4 (.mv (b false))])
 Q)
 Z))
 (S (S (R [g 5 (.mv (i 0))])
 (K 0
 (L [0, 1, 5]
 (S (S (R [g 11 (.mv (t 5)),
 g 12 (.mv (t 0)),
 g 13 (.len 1 (t 12)),
 g 14 (.bin .lss (t 11) (t 13))])
 (C (t 14)
 Z
 (X 0)))
 (S (K 1
 (S (D [] [g 17 (.mv (t 0)),
 g 18 (.mv (t 5)),
 g 19 (.iaddr 2 (t 17) (t 18)),
 g 20 (.load 2 true (t 19)),
 g 21 (.mv (t 1)),
 g 22 (.mv (t 5)),
 g 23 (.iaddr 2 (t 21) (t 22)),
 g 24 (.load 2 true (t 23)),
 g 25 (.eq (.st [.i, .i]) true (t 20) (t 24))])
 (C (t 25)
 (S (R [g 4 (.mv (b false))])
 Q)
 Z)))
 (R [g 15 (.mv (t 5)),
 g 16 (.bin .add (t 15) (i 1)),
 g 5 (.mv (t 16))]))))))
 (S (R [g 4 (.mv (b true))])
 Q))))⟩
def pf_ref28_ints : PF := ⟨2, [.tmp 4],
 (S (R [g 4 (.mv (b false))])
 (S (S (R [g 6 (.mv (t 0)),
 g 7 (.len 1 (t 6)),
 g 8 (.mv (t 1)),
 g 9 (.len 1 (t 8)),
 g 10 (.bin .neq (t 7) (t 9))])
 (C (t 10)
 (S (R [g 4 (.mv (b false))])
 Q)
 Z))
 (S (S (R [g 5 (.mv (i 0))])
 (K 0
 (L [0, 1, 5]
 (S (S (R [g 11 (.mv (t 5)),
 g 12 (.mv (t 0)),
 g 13 (.len 1 (t 12)),
 g 14 (.bin .lss (t 11) (t 13))])
 (C (t 14)
 Z
 (X 0)))
 (S (K 1
 (S (D [] [g 17 (.mv (t 0)),
 g 18 (.mv (t 5)),
 g 19 (.iaddr 1 (t 17) (t 18)),
 g 20 (.load 1 false (t 19)),
 g 21 (.mv (t 1)),
 g 22 (.mv (t 5)),
 g 23 (.iaddr 1 (t 21) (t 22)),
 g 24 (.load 1 false (t 23)),
 g 25 (.bin .neq (t 20) (t 24))])
 (C (t 25)
 (S (R [g 4 (.mv (b false))])
 Q)
 Z)))
 (R [g 15 (.mv (t 5)),
 g 16 (.bin .add (t 15) (i 1)),
 g 5 (.mv (t 16))]))))))
 (S (R [g 4 (.mv (b true))])
 Q))))⟩
def pf_problem_Copy : PF := ⟨1, [.cell 2 15 true],
 (S (R [g 1 (.box 15 (t 0)),
 g 2 (.alloc (.agg [.str ⟨#[]⟩, i64 0, i64 0, i64 0, nilsl, nilsl, nilsl, nilsl, nilsl, nilsl, nilsl, i64 0, i64 0, i64 0, i64 0]))])
 (S (R [g 12 (.faddr 4 (t 1)),
 g 13 (.load 1 false (t 12)),
 g 14 (.call .own f_sl_Clone_Room_Room [(t 13)]),
 g 15 (.faddr 4 (t 1)),
 u (.store 1 (t 15) (t 14))])
 (S (S (R [g 16 (.faddr 4 (t 1)),
 g 17 (.load 1 false (t 16)),
 g 18 (.len 1 (t 17)),
 g 19 (.mv (i 0))])
 (K 0
 (L [1, 2, 18, 19]
 (S (R [g 20 (.bin .lss (t 19) (t 18))])
 (S (C (t 20)
 Z
 (X 0))
 (S (K 1
 (S (R [g 21 (.mv (t 19)),
 g 3 (.mv (t 21))])
 (D [(1, 9)] [g 22 (.faddr 4 (t 1)),
 g 23 (.load 1 false (t 22)),
 g 24 (.mv (t 3)),
 g 25 (.faddr 4 (t 1)),
 g 26 (.load 1 false (t 25)),
 g 27 (.mv (t 3)),
 g 28 (.iaddr 4 (t 26) (t 27)),
 g 29 (.faddr 3 (t 28)),
 g 30 (.load 1 false (t 29)),
 g 31 (.call .own f_sl_Clone_When_When [(t 30)]),
 g 32 (.iaddr 4 (t 23) (t 24)),
 g 33 (.faddr 3 (t 32)),
 u (.store 1 (t 33) (t 31))])))
 (R [g 34 (.bin .add (t 19) (i 1)),
 g 19 (.mv (t 34))])))))))
 (S (R [g 35 (.faddr 5 (t 1)),
 g 36 (.load 1 false (t 35)),
 g 37 (.call .iso f_problem_rows [(t 36)]),
 g 38 (.faddr 5 (t 1)),
 u (.store 1 (t 38) (t 37))])
 (S (R [g 39 (.faddr 6 (t 1)),
 g 40 (.load 1 false (t 39)),
 g 41 (.call .own f_sl_Clone_Person_Person [(t 40)]),
 g 42 (.faddr 6 (t 1)),
 u (.store 1 (t 42) (t 41))])
 (S (S (R [g 43 (.faddr 6 (t 1)),
 g 44 (.load 1 false (t 43)),
 g 45 (.len 1 (t 44)),
 g 46 (.mv (i 0))])
 (K 2
 (L [1, 2, 45, 46]
 (S (R [g 47 (.bin .lss (t 46) (t 45))])
 (S (C (t 47)
 Z
 (X 2))
 (S (K 3
 (S (R [g 48 (.mv (t 46)),
 g 4 (.mv (t 48))])
 (D [(1, 9)] [g 49 (.faddr 6 (t 1)),
 g 50 (.load 1 false (t 49)),
 g 51 (.mv (t 4)),
 g 52 (.faddr 6 (t 1)),
 g 53 (.load 1 false (t 52)),
 g 54 (.mv (t 4)),
 g 55 (.iaddr 2 (t 53) (t 54)),
 g 56 (.faddr 1 (t 55)),
 g 57 (.load 1 false (t 56)),
 g 58 (.call .own f_sl_Clone_When_When [(t 57)]),
 g 59 (.iaddr 2 (t 50) (t 51)),
 g 60 (.faddr 1 (t 59)),
 u (.store 1 (t 60) (t 58))])))
 (R [g 61 (.bin .add (t 46) (i 1)),
 g 46 (.mv (t 61))])))))))
 (S (R [g 62 (.faddr 7 (t 1)),
 g 63 (.load 1 false (t 62)),
 g 64 (.call .own f_sl_Clone_Class_Class [(t 63)]),
 g 65 (.faddr 7 (t 1)),
 u (.store 1 (t 65) (t 64))])
 (S (S (R [g 66 (.faddr 7 (t 1)),
 g 67 (.load 1 false (t 66)),
 g 68 (.len 1 (t 67)),
 g 69 (.mv (i 0))])
 (K 4
 (L [1, 2, 68, 69]
 (S (R [g 70 (.bin .lss (t 69) (t 68))])
 (S (C (t 70)
 Z
 (X 4))
 (S (K 5
 (S (R [g 71 (.mv (t 69)),
 g 5 (.mv (t 71))])
 (S (R [g 72 (.faddr 7 (t 1)),
 g 73 (.load 1 false (t 72)),
 g 74 (.mv (t 5)),
 g 75 (.iaddr 7 (t 73) (t 74)),
 g 6 (.mv (t 75))])
 (D [(7, 11), (7, 16), (12, 16)] [g 76 (.mv (t 6)),
 g 77 (.mv (t 6)),
 g 78 (.mv (t 6)),
 g 79 (.mv (t 6)),
 g 80 (.nilCheck (t 79)),
 g 81 (.faddr 3 (t 80)),
 g 82 (.load 1 false (t 81)),
 g 83 (.call .own f_sl_Clone_int_int [(t 82)]),
 g 84 (.mv (t 6)),
 g 85 (.nilCheck (t 84)),
 g 86 (.faddr 4 (t 85)),
 g 87 (.load 1 false (t 86)),
 g 88 (.call .own f_sl_Clone_Time_Time [(t 87)]),
 g 89 (.mv (t 6)),
 g 90 (.nilCheck (t 89)),
 g 91 (.faddr 5 (t 90)),
 g 92 (.load 1 false (t 91)),
 g 93 (.call .own f_sl_Clone_Place_Place [(t 92)]),
 g 94 (.nilCheck (t 76)),
 g 95 (.faddr 3 (t 94)),
 u (.store 1 (t 95) (t 83)),
 g 96 (.nilCheck (t 77)),
 g 97 (.faddr 4 (t 96)),
 u (.store 1 (t 97) (t 88)),
 g 98 (.nilCheck (t 78)),
 g 99 (.faddr 5 (t 98)),
 u (.store 1 (t 99) (t 93))]))))
 (R [g 100 (.bin .add (t 69) (i 1)),
 g 69 (.mv (t 100))])))))))
 (S (R [g 101 (.faddr 8 (t 1)),
 g 102 (.load 1 false (t 101)),
 g 103 (.call .own f_sl_Clone_Course_Course [(t 102)]),
 g 104 (.faddr 8 (t 1)),
 u (.store 1 (t 104) (t 103))])
 (S (S (R [g 105 (.faddr 8 (t 1)),
 g 106 (.load 1 false (t 105)),
 g 107 (.len 1 (t 106)),
 g 108 (.mv (i 0))])
 (K 6
 (L [1, 2, 107, 108]
 (S (R [g 109 (.bin .lss (t 108) (t 107))])
 (S (C (t 109)
 Z
 (X 6))
 (S (K 7
 (S (R [g 110 (.mv (t 108)),
 g 7 (.mv (t 110))])
 (S (R [g 111 (.faddr 8 (t 1)),
 g 112 (.load 1 false (t 111)),
 g 113 (.mv (t 7)),
 g 114 (.iaddr 2 (t 112) (t 113)),
 g 8 (.mv (t 114))])
 (S (R [g 115 (.mv (t 8)),
 g 116 (.mv (t 8)),
 g 117 (.nilCheck (t 116)),
 g 118 (.faddr 1 (t 117)),
 g 119 (.load 1 false (t 118)),
 g 120 (.call .own f_sl_Clone_Way_Way [(t 119)]),
 g 121 (.nilCheck (t 115)),
 g 122 (.faddr 1 (t 121)),
 u (.store 1 (t 122) (t 120))])
 (S (R [g 123 (.mv (t 8)),
 g 124 (.nilCheck (t 123)),
 g 125 (.faddr 1 (t 124)),
 g 126 (.load 1 false (t 125)),
 g 127 (.len 1 (t 126)),
 g 128 (.mv (i 0))])
 (K 8
 (L [1, 2, 8, 107, 108, 127, 128]
 (S (R [g 129 (.bin .lss (t 128) (t 127))])
 (S (C (t 129)
 Z
 (X 8))
 (S (K 9
 (S (R [g 130 (.mv (t 128)),
 g 9 (.mv (t 130))])
 (D [] [g 131 (.mv (t 8)),
 g 132 (.nilCheck (t 131)),
 g 133 (.faddr 1 (t 132)),
 g 134 (.load 1 false (t 133)),
 g 135 (.mv (t 9)),
 g 136 (.mv (t 8)),
 g 137 (.nilCheck (t 136)),
 g 138 (.faddr 1 (t 137)),
 g 139 (.load 1 false (t 138)),
 g 140 (.mv (t 9)),
 g 141 (.iaddr 1 (t 139) (t 140)),
 g 142 (.faddr 0 (t 141)),
 g 143 (.load 1 false (t 142)),
 g 144 (.call .iso f_problem_rows [(t 143)]),
 g 145 (.iaddr 1 (t 134) (t 135)),
 g 146 (.faddr 0 (t 145)),
 u (.store 1 (t 146) (t 144))])))
 (R [g 147 (.bin .add (t 128) (i 1)),
 g 128 (.mv (t 147))])))))))))))
 (R [g 148 (.bin .add (t 108) (i 1)),
 g 108 (.mv (t 148))])))))))
 (S (R [g 149 (.faddr 9 (t 1)),
 g 150 (.load 1 false (t 149)),
 g 151 (.call .own f_sl_Clone_Student_Student [(t 150)]),
 g 152 (.faddr 9 (t 1)),
 u (.store 1 (t 152) (t 151))])
 (S (S (R [g 153 (.faddr 9 (t 1)),
 g 154 (.load 1 false (t 153)),
 g 155 (.len 1 (t 154)),
 g 156 (.mv (i 0))])
 (K 10
 (L [1, 2, 155, 156]
 (S (R [g 157 (.bin .lss (t 156) (t 155))])
 (S (C (t 157)
 Z
 (X 10))
 (S (K 11
 (S (R [g 158 (.mv (t 156)),
 g 10 (.mv (t 158))])
 (D [(1, 9)] [g 159 (.faddr 9 (t 1)),
 g 160 (.load 1 false (t 159)),
 g 161 (.mv (t 10)),
 g 162 (.faddr 9 (t 1)),
 g 163 (.load 1 false (t 162)),
 g 164 (.mv (t 10)),
 g 165 (.iaddr 2 (t 163) (t 164)),
 g 166 (.faddr 1 (t 165)),
 g 167 (.load 1 false (t 166)),
 g 168 (.call .own f_sl_Clone_int_int [(t 167)]),
 g 169 (.iaddr 2 (t 160) (t 161)),
 g 170 (.faddr 1 (t 169)),
 u (.store 1 (t 170) (t 168))])))
 (R [g 171 (.bin .add (t 156) (i 1)),
 g 156 (.mv (t 171))])))))))
 (S (R [g 172 (.faddr 10 (t 1)),
 g 173 (.load 1 false (t 172)),
 g 174 (.call .own f_sl_Clone_Rule_Rule [(t 173)]),
 g 175 (.faddr 10 (t 1)),
 u (.store 1 (t 175) (t 174))])
 (S (S (R [g 176 (.faddr 10 (t 1)),
 g 177 (.load 1 false (t 176)),
 g 178 (.len 1 (t 177)),
 g 179 (.mv (i 0))])
 (K 12
 (L [1, 2, 178, 179]
 (S (R [g 180 (.bin .lss (t 179) (t 178))])
 (S (C (t 180)
 Z
 (X 12))
 (S (K 13
 (S (R [g 181 (.mv (t 179)),
 g 11 (.mv (t 181))])
 (D [(1, 9)] [g 182 (.faddr 10 (t 1)),
 g 183 (.load 1 false (t 182)),
 g 184 (.mv (t 11)),
 g 185 (.faddr 10 (t 1)),
 g 186 (.load 1 false (t 185)),
 g 187 (.mv (t 11)),
 g 188 (.iaddr 6 (t 186) (t 187)),
 g 189 (.faddr 1 (t 188)),
 g 190 (.load 1 false (t 189)),
 g 191 (.call .own f_sl_Clone_int_int [(t 190)]),
 g 192 (.iaddr 6 (t 183) (t 184)),
 g 193 (.faddr 1 (t 192)),
 u (.store 1 (t 193) (t 191))])))
 (R [g 194 (.bin .add (t 179) (i 1)),
 g 179 (.mv (t 194))])))))))
 (S (R [g 195 (.load 15 true (t 1)),
 u (.store 15 (t 2) (t 195))])
 Q)))))))))))))))⟩
def pf_ref03_Ints : PF := ⟨2, [.tmp 4],
 (S (R [g 4 (.mv (b false))])
 (S (S (R [g 6 (.mv (t 0)),
 g 7 (.len 1 (t 6)),
 g 8 (.mv (t 1)),
 g 9 (.len 1 (t 8)),
 g 10 (.bin .neq (t 7) (t 9))])
 (C (t 10)
 (S (R [g 4 (.mv (b false))])
 Q)
 Z))
 (S (S (R [g 5 (.mv (i 0))])
 (K 0
 (L [0, 1, 5]
 (S (S (R [g 11 (.mv (t 5)),
 g 12 (.mv (t 0)),
 g 13 (.len 1 (t 12)),
 g 14 (.bin .lss (t 11) (t 13))])
 (C (t 14)
 Z
 (X 0)))
 (S (K 1
 (S (D [] [g 17 (.mv (t 0)),
 g 18 (.mv (t 5)),
 g 19 (.iaddr 1 (t 17) (t 18)),
 g 20 (.load 1 false (t 19)),
 g 21 (.mv (t 1)),
 g 22 (.mv (t 5)),
 g 23 (.iaddr 1 (t 21) (t 22)),
 g 24 (.load 1 false (t 23)),
 g 25 (.bin .neq (t 20) (t 24))])
 (C (t 25)
 (S (R [g 4 (.mv (b false))])
 Q)
 Z)))
 (R [g 15 (.mv (t 5)),
 g 16 (.bin .add (t 15) (i 1)),
 g 5 (.mv (t 16))]))))))
 (S (R [g 4 (.mv (b true))])
 Q))))⟩
def pf_problem_Right : PF := ⟨1, [.tmp 2],
 (S (R [g 1 (.box 15 (t 0)),
 g 2 (.mv (b false))])
 (S (R [g 6 (.load 15 true (t 1)),
 g 7 (.call .iso f_problem_Check [(t 6)]),
 g 5 (.mv (t 7)),
 g 8 (.ext (t 5) 0),
 g 9 (.ext (t 5) 1),
 g 3 (.mv (t 8)),
 g 4 (.mv (t 9))])
 (S (R [g 10 (.mv (t 3)),
 g 11 (.bin .eql (t 10) (i 0)),
 g 2 (.mv (t 11))])
 Q)))⟩
def pf_reason_off : PF := ⟨2, [.tmp 4],
 (S (R [g 2 (.box 15 (t 0)),
 g 4 (.mv (b false))])
 (S (S (R [g 7 (.mv (t 1)),
 g 8 (.len 1 (t 7)),
 g 9 (.mv (i 0))])
 (K 0
 (L [1, 2, 7, 8, 9]
 (S (R [g 10 (.bin .lss (t 9) (t 8))])
 (S (C (t 10)
 Z
 (X 0))
 (S (K 1
 (S (R [g 11 (.mv (t 9)),
 g 12 (.iaddr 2 (t 7) (t 9)),
 g 13 (.load 2 true (t 12)),
 g 6 (.alloc (.agg [i64 0, i64 0])),
 g 5 (.mv (t 11)),
 u (.store 2 (t 6) (t 13))])
 (S (D [] [g 14 (.load 15 true (t 2)),
 g 15 (.load 2 true (t 6)),
 g 16 (.call .iso f_reason_is [(t 14), (t 15)]),
 g 17 (.un .not (t 16)),
 g 18 (.mv (t 17)),
 gg 19 18 false (.mv (t 5)),
 gg 20 18 false (.bin .gtr (t 19) (i 0)),
 gg 21 18 false (.mv (t 20)),
 gg 22 21 true (.mv (t 1)),
 gg 23 21 true (.mv (t 5)),
 gg 24 21 true (.bin .sub (t 23) (i 1)),
 gg 25 21 true (.iaddr 2 (t 22) (t 24)),
 gg 26 21 true (.load 2 true (t 25)),
 gg 27 21 true (.load 2 true (t 6)),
 gg 28 21 true (.call .iso f_reason_Less [(t 26), (t 27)]),
 gg 29 21 true (.un .not (t 28)),
 gg 30 18 false (.pick (t 21) (t 29) (b false)),
 g 31 (.pick (t 18) (b true) (t 30))])
 (C (t 31)
 (S (R [g 4 (.mv (b false))])
 Q)
 Z))))
 (R [g 32 (.bin .add (t 9) (i 1)),
 g 9 (.mv (t 32))])))))))
 (S (R [g 4 (.mv (b true))])
 Q)))⟩
def pf_plan_Right : PF := ⟨2, [.tmp 4],
 (S (R [g 2 (.box 15 (t 0)),
 g 4 (.mv (b false))])
 (S (R [g 5 (.load 15 true (t 2)),
 g 6 (.mv (t 1)),
 g 7 (.call .iso f_plan_each [(t 5), (t 6), (.c (.fn f_class_Seat [] []))]),
 g 4 (.mv (t 7))])
 Q))⟩
def pf_plan_Empty : PF := ⟨1, [.tmp 2],
 (S (R [g 1 (.box 15 (t 0)),
 g 2 (.mv (.c (nilsl)))])
 (S (S (R [g 5 (.load 15 true (t 1)),
 g 6 (.call .iso f_problem_Right [(t 5)]),
 g 7 (.un .not (t 6))])
 (C (t 7)
 (S (R [g 2 (.mv (.c (nilsl)))])
 Q)
 Z))
 (S (R [g 8 (.faddr 7 (t 1)),
 g 9 (.load 1 false (t 8)),
 g 10 (.len 1 (t 9)),
 g 11 (.mkslice 2 16 (.agg [i64 0, i64 0]) (t 10) (t 10)),
 g 3 (.mv (t 11))])
 (S (S (R [g 12 (.mv (t 3)),
 g 13 (.len 1 (t 12)),
 g 14 (.mv (i 0))])
 (K 0
 (L [3, 13, 14]
 (S (R [g 15 (.bin .lss (t 14) (t 13))])
 (S (C (t 15)
 Z
 (X 0))
 (S (K 1
 (S (R [g 16 (.mv (t 14)),
 g 4 (.mv (t 16))])
 (R [g 17 (.mv (t 3)),
 g 18 (.mv (t 4)),
 g 19 (.build [i64 0, i64 0] [(0, 1, (i (-1))), (1, 1, (i (-1)))]),
 g 20 (.iaddr 2 (t 17) (t 18)),
 u (.store 2 (t 20) (t 19))])))
 (R [g 21 (.bin .add (t 14) (i 1)),
 g 14 (.mv (t 21))])))))))
 (S (R [g 22 (.mv (t 3)),
 g 2 (.mv (t 22))])
 Q)))))⟩
def pf_spring_Broken : PF := ⟨2, [.cell 4 3 true, .tmp 5],
 (S (R [g 2 (.box 20 (t 0)),
 g 4 (.alloc (.agg [i64 0, i64 0, nilsl])),
 g 5 (.mv (b false))])
 (S (R [g 9 (.load 20 true (t 2)),
 g 10 (.mv (t 1)),
 g 11 (.call .iso f_spring_open [(t 9), (t 10)]),
 g 8 (.mv (t 11)),
 g 12 (.ext (t 8) 0),
 g 13 (.ext (t 8) 1),
 g 6 (.mv (t 12)),
 g 7 (.mv (t 13))])
 (S (S (R [g 14 (.mv (t 7)),
 g 15 (.un .not (t 14))])
 (C (t 15)
 (S (R [g 16 (.build [i64 0, i64 0, nilsl] []),
 u (.store 3 (t 4) (t 16)),
 g 5 (.mv (b false))])
 Q)
 Z))
 (S (R [g 17 (.mv (t 6)),
 g 18 (.call .iso f_spring_state_broken [(t 17)]),
 g 19 (.ext (t 18) 0),
 g 20 (.ext (t 18) 1),
 u (.store 3 (t 4) (t 19)),
 g 5 (.mv (t 20))])
 Q))))⟩
def pf_seek_search_broken : PF := ⟨2, [.tmp 4],
 (S (R [g 3 (.box 3 (t 1)),
 g 4 (.mv (i 0))])
 (S (S (D [] [g 5 (.mv (t 0)),
 g 6 (.nilCheck (t 5)),
 g 7 (.faddr 22 (t 6)),
 g 8 (.load 1 false (t 7)),
 g 9 (.mv (t 0)),
 g 10 (.nilCheck (t 9)),
 g 11 (.faddr 21 (t 10)),
 g 12 (.load 1 false (t 11)),
 g 13 (.bin .eql (t 8) (t 12))])
 (C (t 13)
 (R [g 14 (.build [] []),
 g 15 (.mkifc 95 (t 14)),
 u (.panic (t 15))])
 Z))
 (S (R [g 16 (.mv (t 0)),
 g 17 (.nilCheck (t 16)),
 g 18 (.faddr 22 (t 17)),
 g 19 (.load 1 false (t 18)),
 g 20 (.bin .add (t 19) (i 1)),
 g 21 (.nilCheck (t 16)),
 g 22 (.faddr 22 (t 21)),
 u (.store 1 (t 22) (t 20))])
 (S (R [g 23 (.mv (t 0)),
 g 24 (.faddr 0 (t 3)),
 g 25 (.load 1 false (t 24)),
 g 26 (.faddr 1 (t 3)),
 g 27 (.load 1 false (t 26)),
 g 28 (.faddr 2 (t 3)),
 g 29 (.load 1 false (t 28)),
 g 30 (.build [i64 0, i64 0, nilsl] [(0, 1, (t 25)), (1, 1, (t 27)), (2, 1, (t 29))]),
 g 31 (.call .inl f_seek_search_add [(t 23), (t 30), (.c (nilsl))]),
 g 4 (.mv (t 31))])
 Q))))⟩
def pf_seek_search_solve : PF := ⟨2, [.tmp 4],
 (S (R [g 4 (.mv (i 0))])
 (S (R [g 17 (.mv (t 0)),
 g 18 (.mv (t 1)),
 g 19 (.call .inl f_seek_search_next [(t 17), (t 18)]),
 g 16 (.mv (t 19)),
 g 20 (.ext (t 16) 0),
 g 21 (.ext (t 16) 1),
 g 5 (.alloc (.agg [i64 0, .bool false])),
 u (.store 2 (t 5) (t 20)),
 g 6 (.mv (t 21))])
 (S (S (R [g 22 (.mv (t 6)),
 g 23 (.un .not (t 22))])
 (C (t 23)
 (S (R [g 24 (.mv (t 0)),
 g 25 (.mv (t 0)),
 g 26 (.mv (t 1)),
 g 27 (.nilCheck (t 24)),
 g 28 (.faddr 23 (t 27)),
 u (.store 1 (t 28) (i 1)),
 g 29 (.nilCheck (t 25)),
 g 30 (.faddr 26 (t 29)),
 u (.store 1 (t 30) (t 26))])
 (S (R [g 4 (.mv (i 0))])
 Q))
 Z))
 (S (R [g 7 (.mv (.c (nilsl))),
 g 8 (.mv (.c (nilsl)))])
 (S (S (R [g 31 (.mv (t 0)),
 g 32 (.load 2 true (t 5)),
 g 33 (.call .inl f_seek_search_choices [(t 31), (t 32)]),
 g 34 (.len 1 (t 33)),
 g 35 (.mv (i 0))])
 (K 0
 (L [0, 1, 5, 7, 8, 33, 34, 35]
 (S (R [g 36 (.bin .lss (t 35) (t 34))])
 (S (C (t 36)
 Z
 (X 0))
 (S (K 1
 (S (R [g 37 (.iaddr 3 (t 33) (t 35)),
 g 38 (.load 3 true (t 37)),
 g 10 (.alloc (.agg [i64 0, .bool false, i64 0])),
 u (.store 3 (t 10) (t 38))])
 (S (R [g 39 (.mv (t 0)),
 g 40 (.mv (t 1)),
 g 41 (.load 3 true (t 10)),
 g 42 (.call .inl f_seek_search_try [(t 39), (t 40), (t 41)]),
 g 11 (.mv (t 42))])
 (S (S (R [g 43 (.mv (t 0)),
 g 44 (.nilCheck (t 43)),
 g 45 (.faddr 23 (t 44)),
 g 46 (.load 1 false (t 45)),
 g 47 (.bin .eql (t 46) (i 1))])
 (C (t 47)
 (S (R [g 4 (.mv (i 0))])
 Q)
 Z))
 (S (D [] [g 48 (.mv (t 0)),
 g 49 (.nilCheck (t 48)),
 g 50 (.faddr 20 (t 49)),
 g 51 (.load 1 false (t 50)),
 g 52 (.load 3 true (t 10)),
 g 53 (.call .iso f_lit_Map_Of [(t 51), (t 52)]),
 g 54 (.un .neg (t 53)),
 g 55 (.mv (t 0)),
 g 56 (.nilCheck (t 55)),
 g 57 (.faddr 24 (t 56)),
 g 58 (.load 1 false (t 57)),
 g 59 (.mv (t 11)),
 g 60 (.iaddr 4 (t 58) (t 59)),
 g 61 (.faddr 0 (t 60)),
 g 62 (.faddr 2 (t 61)),
 g 63 (.load 1 false (t 62)),
 g 12 (.mv (t 54)),
 g 13 (.mv (t 63))])
 (S (S (R [g 64 (.mv (t 13)),
 g 65 (.mv (t 12)),
 g 66 (.call .iso f_sl_Contains_int_int [(t 64), (t 65)]),
 g 67 (.un .not (t 66))])
 (C (t 67)
 (S (R [g 68 (.mv (t 11)),
 g 4 (.mv (t 68))])
 Q)
 Z))
 (S (R [g 69 (.mv (t 8)),
 g 70 (.mv (t 11)),
 g 71 (.lits 1 1 (i64 0) [(0, (t 70))]),
 g 72 (.app 8 (i64 0) (t 69) (t 71)),
 g 8 (.mv (t 72))])
 (S (R [g 73 (.mv (t 13)),
 g 74 (.len 1 (t 73)),
 g 75 (.mv (i 0))])
 (K 2
 (L [0, 1, 5, 7, 8, 12, 33, 34, 35, 73, 74, 75]
 (S (R [g 76 (.bin .lss (t 75) (t 74))])
 (S (C (t 76)
 Z
 (X 2))
 (S (K 3
 (S (R [g 77 (.iaddr 1 (t 73) (t 75)),
 g 78 (.load 1 false (t 77)),
 g 15 (.mv (t 78))])
 (S (R [g 79 (.mv (t 15)),
 g 80 (.mv (t 12)),
 g 81 (.bin .neq (t 79) (t 80))])
 (C (t 81)
 (R [g 82 (.mv (t 7)),
 g 83 (.mv (t 15)),
 g 84 (.lits 1 1 (i64 0) [(0, (t 83))]),
 g 85 (.app 8 (i64 0) (t 82) (t 84)),
 g 7 (.mv (t 85))])
 Z))))
 (R [g 86 (.bin .add (t 75) (i 1)),
 g 75 (.mv (t 86))]))))))))))))))
 (R [g 87 (.bin .add (t 35) (i 1)),
 g 35 (.mv (t 87))])))))))
 (S (D [] [g 88 (.mv (t 0)),
 g 89 (.mv (t 7)),
 g 90 (.call .iso f_lit_Sort [(t 89)]),
 g 91 (.build [i64 0, i64 0, nilsl] [(2, 1, (t 90))]),
 g 92 (.mv (t 8)),
 g 93 (.mv (t 0)),
 g 94 (.load 2 true (t 5)),
 g 95 (.call .inl f_seek_search_has [(t 93), (t 94)]),
 g 96 (.lits 1 1 (i64 0) [(0, (t 95))]),
 g 97 (.app 8 (i64 0) (t 92) (t 96)),
 g 98 (.call .inl f_seek_search_add [(t 88), (t 91), (t 97)]),
 g 4 (.mv (t 98))])
 Q))))))⟩
def pf_seek_search_steps : PF := ⟨2, [.tmp 4],
 (S (R [g 4 (.mv (.c (nilsl)))])
 (S (R [g 11 (.mkmap),
 g 12 (.mv (t 1)),
 u (.mupd (.sc .i) (t 11) (t 12) (b true)),
 g 13 (.mv (t 11)),
 g 5 (.mv (t 13))])
 (S (S (R [g 14 (.mv (t 1)),
 g 6 (.mv (t 14))])
 (K 0
 (L [0, 1, 5, 6]
 (S (S (R [g 15 (.mv (t 6)),
 g 16 (.bin .geq (t 15) (i 0))])
 (C (t 16)
 Z
 (X 0)))
 (S (K 1
 (S (R [g 19 (.mv (t 5)),
 g 20 (.mv (t 6)),
 g 21 (.look (.sc .i) false (.bool false) (t 19) (t 20))])
 (C (t 21)
 (S (R [g 22 (.mv (t 0)),
 g 23 (.nilCheck (t 22)),
 g 24 (.faddr 24 (t 23)),
 g 25 (.load 1 false (t 24)),
 g 26 (.mv (t 6)),
 g 27 (.iaddr 4 (t 25) (t 26)),
 g 28 (.faddr 3 (t 27)),
 g 29 (.load 1 false (t 28)),
 g 30 (.len 1 (t 29)),
 g 31 (.mv (i 0))])
 (K 2
 (L [0, 1, 5, 6, 29, 30, 31]
 (S (R [g 32 (.bin .lss (t 31) (t 30))])
 (S (C (t 32)
 Z
 (X 2))
 (S (K 3
 (S (R [g 33 (.iaddr 1 (t 29) (t 31)),
 g 34 (.load 1 false (t 33)),
 g 8 (.mv (t 34))])
 (R [g 35 (.mv (t 5)),
 g 36 (.mv (t 8)),
 u (.mupd (.sc .i) (t 35) (t 36) (b true))])))
 (R [g 37 (.bin .add (t 31) (i 1)),
 g 31 (.mv (t 37))])))))))
 Z)))
 (R [g 17 (.mv (t 6)),
 g 18 (.bin .sub (t 17) (i 1)),
 g 6 (.mv (t 18))]))))))
 (S (R [g 9 (.mv (.c (nilsl)))])
 (S (S (R [g 10 (.mv (i 0))])
 (K 4
 (L [0, 1, 5, 9, 10]
 (S (S (R [g 38 (.mv (t 10)),
 g 39 (.mv (t 1)),
 g 40 (.bin .leq (t 38) (t 39))])
 (C (t 40)
 Z
 (X 4)))
 (S (K 5
 (S (R [g 43 (.mv (t 5)),
 g 44 (.mv (t 10)),
 g 45 (.look (.sc .i) false (.bool false) (t 43) (t 44))])
 (C (t 45)
 (R [g 46 (.mv (t 9)),
 g 47 (.mv (t 0)),
 g 48 (.nilCheck (t 47)),
 g 49 (.faddr 24 (t 48)),
 g 50 (.load 1 false (t 49)),
 g 51 (.mv (t 10)),
 g 52 (.iaddr 4 (t 50) (t 51)),
 g 53 (.faddr 0 (t 52)),
 g 54 (.load 3 true (t 53)),
 g 55 (.lits 3 1 (.agg [i64 0, i64 0, nilsl]) [(0, (t 54))]),
 g 56 (.app 40 (.agg [i64 0, i64 0, nilsl]) (t 46) (t 55)),
 g 9 (.mv (t 56))])
 Z)))
 (R [g 41 (.mv (t 10)),
 g 42 (.bin .add (t 41) (i 1)),
 g 10 (.mv (t 42))]))))))
 (S (R [g 57 (.mv (t 9)),
 g 4 (.mv (t 57))])
 Q))))))⟩
def pf_plan_Whole : PF := ⟨2, [.tmp 4],
 (S (R [g 2 (.box 15 (t 0)),
 g 4 (.mv (b false))])
 (S (R [g 5 (.load 15 true (t 2)),
 g 6 (.mv (t 1)),
 g 7 (.call .iso f_plan_each [(t 5), (t 6), (.c (.fn f_class_Whole [] []))]),
 g 4 (.mv (t 7))])
 Q))⟩
def pf_price_Least : PF := ⟨2, [.tmp 4],
 (S (R [g 2 (.box 15 (t 0)),
 g 4 (.mv (i 0))])
 (S (R [g 9 (.load 15 true (t 2)),
 g 10 (.mv (t 1)),
 g 11 (.call .iso f_price_Parts [(t 9), (t 10)]),
 g 8 (.mv (t 11)),
 g 12 (.ext (t 8) 0),
 g 13 (.ext (t 8) 1),
 g 14 (.ext (t 8) 2),
 g 5 (.mv (t 12)),
 g 6 (.mv (t 13)),
 g 7 (.mv (t 14))])
 (S (R [g 15 (.faddr 11 (t 2)),
 g 16 (.faddr 0 (t 15)),
 g 17 (.load 1 false (t 16)),
 g 18 (.mv (t 5)),
 g 19 (.bin .mul (t 17) (t 18)),
 g 20 (.faddr 11 (t 2)),
 g 21 (.faddr 1 (t 20)),
 g 22 (.load 1 false (t 21)),
 g 23 (.mv (t 6)),
 g 24 (.bin .mul (t 22) (t 23)),
 g 25 (.bin .add (t 19) (t 24)),
 g 26 (.faddr 11 (t 2)),
 g 27 (.faddr 2 (t 26)),
 g 28 (.load 1 false (t 27)),
 g 29 (.mv (t 7)),
 g 30 (.bin .mul (t 28) (t 29)),
 g 31 (.bin .add (t 25) (t 30)),
 g 4 (.mv (t 31))])
 Q)))⟩
def pf_check_Left : PF := ⟨3, [.tmp 6],
 (S (R [g 3 (.box 15 (t 0)),
 g 5 (.box 1 (t 2)),
 g 6 (.mv (.c (nilsl)))])
 (S (R [g 7 (.load 15 true (t 3)),
 g 8 (.mv (t 1)),
 g 9 (.call .inn f_check_Faults [(t 7), (t 8)]),
 g 10 (.mkfn f_check_Left_1 [] [(t 5)]),
 g 11 (.call .inl f_sl_DeleteFunc_Fault_Fault [(t 9), (t 10)]),
 g 6 (.mv (t 11))])
 Q))⟩
def pf_reason_Spent : PF := ⟨2, [.tmp 4],
 (S (R [g 2 (.box 20 (t 0)),
 g 4 (.mv (i 0))])
 (S (S (R [g 5 (.load 20 true (t 2)),
 g 6 (.call .iso f_reason_Right [(t 5)]),
 g 7 (.un .not (t 6)),
 g 8 (.mv (t 7)),
 gg 9 8 false (.faddr 0 (t 2)),
 gg 10 8 false (.load 15 true (t 9)),
 gg 11 8 false (.mv (t 1)),
 gg 12 8 false (.call .iso f_plan_Right [(t 10), (t 11)]),
 gg 13 8 false (.un .not (t 12)),
 g 14 (.pick (t 8) (b true) (t 13))])
 (C (t 14)
 (S (R [g 4 (.mv (i 0))])
 Q)
 Z))
 (S (S (R [g 15 (.faddr 16 (t 2)),
 g 16 (.load 1 false (t 15))])
 (K 0
 (S (R [g 18 (.bin .eql (t 16) (i 1)),
 g 17 (.mv (t 18))])
 (C (t 17)
 (S (R [g 19 (.faddr 0 (t 2)),
 g 20 (.load 15 true (t 19)),
 g 21 (.mv (t 1)),
 g 22 (.call .iso f_price_Least [(t 20), (t 21)]),
 g 4 (.mv (t 22))])
 Q)
 (S (R [g 24 (.bin .eql (t 16) (i 2)),
 g 23 (.mv (t 24))])
 (C (t 23)
 (S (R [g 25 (.faddr 0 (t 2)),
 g 26 (.load 15 true (t 25)),
 g 27 (.faddr 17 (t 2)),
 g 28 (.load 1 false (t 27)),
 g 29 (.mv (t 1)),
 g 30 (.faddr 18 (t 2)),
 g 31 (.load 1 false (t 30)),
 g 32 (.call .iso f_diff_Weight [(t 26), (t 28), (t 29), (t 31)]),
 g 4 (.mv (t 32))])
 Q)
 Z))))))
 (S (R [g 4 (.mv (i 0))])
 Q))))⟩
def pf_judge_open : PF := ⟨1, [.tmp 2],
 (S (R [g 1 (.box 20 (t 0)),
 g 2 (.mv (.c (.nilp)))])
 (S (D [(0, 1)] [g 3 (.load 20 true (t 1)),
 g 4 (.call .inn f_unit_New [(.c (nilsl))]),
 g 5 (.build [.str ⟨#[]⟩, i64 0, i64 0, i64 0, nilsl, nilsl, nilsl, nilsl, nilsl, nilsl, nilsl, i64 0, i64 0, i64 0, i64 0, nilsl, i64 0, nilsl, nilsl, i64 0, .nilp, .bool false] [(0, 20, (t 3)), (20, 1, (t 4))]),
 g 6 (.box 22 (t 5)),
 g 2 (.mv (t 6))])
 Q))⟩
def pf_judge_court_take : PF := ⟨2, [.tmp 4],
 (S (R [g 3 (.box 3 (t 1)),
 g 4 (.mv (i 0))])
 (S (K 0
 (S (R [g 6 (.load 3 true (t 3)),
 g 7 (.call .iso f_proof_Right [(t 6)]),
 g 8 (.un .not (t 7)),
 g 5 (.mv (t 8))])
 (C (t 5)
 (S (R [g 4 (.mv (i 22))])
 Q)
 (S (R [g 10 (.faddr 0 (t 3)),
 g 11 (.load 1 false (t 10)),
 g 12 (.bin .neq (t 11) (i 0)),
 g 9 (.mv (t 12))])
 (C (t 9)
 (S (D [] [g 13 (.mv (t 0)),
 g 14 (.nilCheck (t 13)),
 g 15 (.faddr 0 (t 14)),
 g 16 (.load 20 true (t 15)),
 g 17 (.faddr 0 (t 3)),
 g 18 (.load 1 false (t 17)),
 g 19 (.faddr 1 (t 3)),
 g 20 (.load 1 false (t 19)),
 g 21 (.faddr 2 (t 3)),
 g 22 (.load 1 false (t 21)),
 g 23 (.build [i64 0, i64 0, nilsl] [(0, 1, (t 18)), (1, 1, (t 20)), (2, 1, (t 22))]),
 g 24 (.call .iso f_axiom_Right [(t 16), (t 23)]),
 g 25 (.bin .neq (t 24) (i 0))])
 (C (t 25)
 (S (R [g 4 (.mv (i 21))])
 Q)
 Z))
 (S (R [g 27 (.mv (t 0)),
 g 28 (.faddr 2 (t 3)),
 g 29 (.load 1 false (t 28)),
 g 30 (.call .inl f_judge_court_follows [(t 27), (t 29)]),
 g 31 (.un .not (t 30)),
 g 26 (.mv (t 31))])
 (C (t 26)
 (S (R [g 4 (.mv (i 22))])
 Q)
 Z)))))))
 (S (D [] [g 32 (.mv (t 0)),
 g 33 (.nilCheck (t 32)),
 g 34 (.faddr 20 (t 33)),
 g 35 (.load 1 false (t 34)),
 g 36 (.faddr 2 (t 3)),
 g 37 (.load 1 false (t 36)),
 g 38 (.call .inl f_unit_Unit_Add [(t 35), (t 37)])])
 (S (R [g 39 (.mv (t 0)),
 g 40 (.mv (t 0)),
 g 41 (.nilCheck (t 40)),
 g 42 (.faddr 21 (t 41)),
 g 43 (.load 1 false (t 42)),
 g 44 (.mv (t 43)),
 gg 45 44 false (.faddr 2 (t 3)),
 gg 46 44 false (.load 1 false (t 45)),
 gg 47 44 false (.len 1 (t 46)),
 gg 48 44 false (.bin .eql (t 47) (i 0)),
 g 49 (.pick (t 44) (b true) (t 48)),
 g 50 (.nilCheck (t 39)),
 g 51 (.faddr 21 (t 50)),
 u (.store 1 (t 51) (t 49))])
 (S (R [g 4 (.mv (i 0))])
 Q)))))⟩
def pf_ref14_Rows : PF := ⟨2, [.tmp 4],
 (S (R [g 4 (.mv (b false))])
 (S (S (R [g 6 (.mv (t 0)),
 g 7 (.len 1 (t 6)),
 g 8 (.mv (t 1)),
 g 9 (.len 1 (t 8)),
 g 10 (.bin .neq (t 7) (t 9))])
 (C (t 10)
 (S (R [g 4 (.mv (b false))])
 Q)
 Z))
 (S (S (R [g 5 (.mv (i 0))])
 (K 0
 (L [0, 1, 5]
 (S (S (R [g 11 (.mv (t 5)),
 g 12 (.mv (t 0)),
 g 13 (.len 1 (t 12)),
 g 14 (.bin .lss (t 11) (t 13))])
 (C (t 14)
 Z
 (X 0)))
 (S (K 1
 (S (D [] [g 17 (.mv (t 0)),
 g 18 (.mv (t 5)),
 g 19 (.iaddr 1 (t 17) (t 18)),
 g 20 (.load 1 false (t 19)),
 g 21 (.mv (t 1)),
 g 22 (.mv (t 5)),
 g 23 (.iaddr 1 (t 21) (t 22)),
 g 24 (.load 1 false (t 23)),
 g 25 (.call .iso f_ref03_Ints [(t 20), (t 24)]),
 g 26 (.un .not (t 25))])
 (C (t 26)
 (S (R [g 4 (.mv (b false))])
 Q)
 Z)))
 (R [g 15 (.mv (t 5)),
 g 16 (.bin .add (t 15) (i 1)),
 g 5 (.mv (t 16))]))))))
 (S (R [g 4 (.mv (b true))])
 Q))))⟩
def pf_ref11_Same : PF := ⟨2, [.tmp 4],
 (S (R [g 2 (.box 4 (t 0)),
 g 3 (.box 4 (t 1)),
 g 4 (.mv (b false))])
 (S (R [g 5 (.faddr 0 (t 2)),
 g 6 (.load 1 false (t 5)),
 g 7 (.faddr 0 (t 3)),
 g 8 (.load 1 false (t 7)),
 g 9 (.bin .eql (t 6) (t 8)),
 g 10 (.mv (t 9)),
 gg 11 10 true (.faddr 1 (t 2)),
 gg 12 10 true (.load 1 false (t 11)),
 gg 13 10 true (.faddr 1 (t 3)),
 gg 14 10 true (.load 1 false (t 13)),
 gg 15 10 true (.bin .eql (t 12) (t 14)),
 g 16 (.pick (t 10) (t 15) (b false)),
 g 17 (.mv (t 16)),
 gg 18 17 true (.faddr 2 (t 2)),
 gg 19 17 true (.load 1 false (t 18)),
 gg 20 17 true (.faddr 2 (t 3)),
 gg 21 17 true (.load 1 false (t 20)),
 gg 22 17 true (.bin .eql (t 19) (t 21)),
 g 23 (.pick (t 17) (t 22) (b false)),
 g 24 (.mv (t 23)),
 gg 25 24 true (.faddr 3 (t 2)),
 gg 26 24 true (.load 1 false (t 25)),
 gg 27 24 true (.faddr 3 (t 3)),
 gg 28 24 true (.load 1 false (t 27)),
 gg 29 24 true (.call .iso f_ref11_Rows [(t 26), (t 28)]),
 g 30 (.pick (t 24) (t 29) (b false)),
 g 4 (.mv (t 30))])
 Q))⟩
def pf_ref12_Same : PF := ⟨2, [.tmp 4],
 (S (R [g 2 (.box 2 (t 0)),
 g 3 (.box 2 (t 1)),
 g 4 (.mv (b false))])
 (S (R [g 5 (.faddr 0 (t 2)),
 g 6 (.load 1 false (t 5)),
 g 7 (.faddr 0 (t 3)),
 g 8 (.load 1 false (t 7)),
 g 9 (.bin .eql (t 6) (t 8)),
 g 10 (.mv (t 9)),
 gg 11 10 true (.faddr 1 (t 2)),
 gg 12 10 true (.load 1 false (t 11)),
 gg 13 10 true (.faddr 1 (t 3)),
 gg 14 10 true (.load 1 false (t 13)),
 gg 15 10 true (.call .iso f_ref11_Rows [(t 12), (t 14)]),
 g 16 (.pick (t 10) (t 15) (b false)),
 g 4 (.mv (t 16))])
 Q))⟩
def pf_ref13_Same : PF := ⟨2, [.tmp 4],
 (S (R [g 2 (.box 7 (t 0)),
 g 3 (.box 7 (t 1)),
 g 4 (.mv (b false))])
 (S (S (R [g 7 (.faddr 0 (t 2)),
 g 8 (.load 1 false (t 7)),
 g 9 (.faddr 0 (t 3)),
 g 10 (.load 1 false (t 9)),
 g 11 (.bin .neq (t 8) (t 10)),
 g 12 (.mv (t 11)),
 gg 13 12 false (.faddr 1 (t 2)),
 gg 14 12 false (.load 1 false (t 13)),
 gg 15 12 false (.faddr 1 (t 3)),
 gg 16 12 false (.load 1 false (t 15)),
 gg 17 12 false (.bin .neq (t 14) (t 16)),
 g 18 (.pick (t 12) (b true) (t 17)),
 g 19 (.mv (t 18)),
 gg 20 19 false (.faddr 2 (t 2)),
 gg 21 19 false (.load 1 false (t 20)),
 gg 22 19 false (.faddr 2 (t 3)),
 gg 23 19 false (.load 1 false (t 22)),
 gg 24 19 false (.bin .neq (t 21) (t 23)),
 g 25 (.pick (t 19) (b true) (t 24)),
 g 26 (.mv (t 25)),
 gg 27 26 false (.faddr 6 (t 2)),
 gg 28 26 false (.load 1 false (t 27)),
 gg 29 26 false (.faddr 6 (t 3)),
 gg 30 26 false (.load 1 false (t 29)),
 gg 31 26 false (.bin .neq (t 28) (t 30)),
 g 32 (.pick (t 26) (b true) (t 31)),
 g 33 (.mv (t 32)),
 gg 34 33 false (.faddr 3 (t 2)),
 gg 35 33 false (.load 1 false (t 34)),
 gg 36 33 false (.faddr 3 (t 3)),
 gg 37 33 false (.load 1 false (t 36)),
 gg 38 33 false (.call .iso f_ref03_Ints [(t 35), (t 37)]),
 gg 39 33 false (.un .not (t 38)),
 g 40 (.pick (t 33) (b true) (t 39)),
 g 41 (.mv (t 40)),
 gg 42 41 false (.faddr 4 (t 2)),
 gg 43 41 false (.load 1 false (t 42)),
 gg 44 41 false (.len 1 (t 43)),
 gg 45 41 false (.faddr 4 (t 3)),
 gg 46 41 false (.load 1 false (t 45)),
 gg 47 41 false (.len 1 (t 46)),
 gg 48 41 false (.bin .neq (t 44) (t 47)),
 g 49 (.pick (t 41) (b true) (t 48)),
 g 50 (.mv (t 49)),
 gg 51 50 false (.faddr 5 (t 2)),
 gg 52 50 false (.load 1 false (t 51)),
 gg 53 50 false (.len 1 (t 52)),
 gg 54 50 false (.faddr 5 (t 3)),
 gg 55 50 false (.load 1 false (t 54)),
 gg 56 50 false (.len 1 (t 55)),
 gg 57 50 false (.bin .neq (t 53) (t 56)),
 g 58 (.pick (t 50) (b true) (t 57))])
 (C (t 58)
 (S (R [g 4 (.mv (b false))])
 Q)
 Z))
 (S (S (R [g 5 (.mv (i 0))])
 (K 0
 (L [2, 3, 5]
 (S (S (R [g 59 (.mv (t 5)),
 g 60 (.faddr 4 (t 2)),
 g 61 (.load 1 false (t 60)),
 g 62 (.len 1 (t 61)),
 g 63 (.bin .lss (t 59) (t 62))])
 (C (t 63)
 Z
 (X 0)))
 (S (K 1
 (S (D [] [g 66 (.faddr 4 (t 2)),
 g 67 (.load 1 false (t 66)),
 g 68 (.mv (t 5)),
 g 69 (.iaddr 5 (t 67) (t 68)),
 g 70 (.load 5 true (t 69)),
 g 71 (.faddr 4 (t 3)),
 g 72 (.load 1 false (t 71)),
 g 73 (.mv (t 5)),
 g 74 (.iaddr 5 (t 72) (t 73)),
 g 75 (.load 5 true (t 74)),
 g 76 (.eq (.ns [.i, .i, .i, .i, .i]) true (t 70) (t 75))])
 (C (t 76)
 (S (R [g 4 (.mv (b false))])
 Q)
 Z)))
 (R [g 64 (.mv (t 5)),
 g 65 (.bin .add (t 64) (i 1)),
 g 5 (.mv (t 65))]))))))
 (S (S (R [g 6 (.mv (i 0))])
 (K 2
 (L [2, 3, 6]
 (S (S (R [g 77 (.mv (t 6)),
 g 78 (.faddr 5 (t 2)),
 g 79 (.load 1 false (t 78)),
 g 80 (.len 1 (t 79)),
 g 81 (.bin .lss (t 77) (t 80))])
 (C (t 81)
 Z
 (X 2)))
 (S (K 3
 (S (D [] [g 84 (.faddr 5 (t 2)),
 g 85 (.load 1 false (t 84)),
 g 86 (.mv (t 6)),
 g 87 (.iaddr 2 (t 85) (t 86)),
 g 88 (.load 2 true (t 87)),
 g 89 (.faddr 5 (t 3)),
 g 90 (.load 1 false (t 89)),
 g 91 (.mv (t 6)),
 g 92 (.iaddr 2 (t 90) (t 91)),
 g 93 (.load 2 true (t 92)),
 g 94 (.eq (.st [.i, .i]) true (t 88) (t 93))])
 (C (t 94)
 (S (R [g 4 (.mv (b false))])
 Q)
 Z)))
 (R [g 82 (.mv (t 6)),
 g 83 (.bin .add (t 82) (i 1)),
 g 6 (.mv (t 83))]))))))
 (S (R [g 4 (.mv (b true))])
 Q)))))⟩
def pf_ref14_Same : PF := ⟨2, [.tmp 4],
 (S (R [g 2 (.box 2 (t 0)),
 g 3 (.box 2 (t 1)),
 g 4 (.mv (b false))])
 (S (S (R [g 6 (.faddr 0 (t 2)),
 g 7 (.load 1 false (t 6)),
 g 8 (.faddr 0 (t 3)),
 g 9 (.load 1 false (t 8)),
 g 10 (.bin .neq (t 7) (t 9)),
 g 11 (.mv (t 10)),
 gg 12 11 false (.faddr 1 (t 2)),
 gg 13 11 false (.load 1 false (t 12)),
 gg 14 11 false (.len 1 (t 13)),
 gg 15 11 false (.faddr 1 (t 3)),
 gg 16 11 false (.load 1 false (t 15)),
 gg 17 11 false (.len 1 (t 16)),
 gg 18 11 false (.bin .neq (t 14) (t 17)),
 g 19 (.pick (t 11) (b true) (t 18))])
 (C (t 19)
 (S (R [g 4 (.mv (b false))])
 Q)
 Z))
 (S (S (R [g 5 (.mv (i 0))])
 (K 0
 (L [2, 3, 5]
 (S (S (R [g 20 (.mv (t 5)),
 g 21 (.faddr 1 (t 2)),
 g 22 (.load 1 false (t 21)),
 g 23 (.len 1 (t 22)),
 g 24 (.bin .lss (t 20) (t 23))])
 (C (t 24)
 Z
 (X 0)))
 (S (K 1
 (S (D [] [g 27 (.faddr 1 (t 2)),
 g 28 (.load 1 false (t 27)),
 g 29 (.mv (t 5)),
 g 30 (.iaddr 1 (t 28) (t 29)),
 g 31 (.faddr 0 (t 30)),
 g 32 (.load 1 false (t 31)),
 g 33 (.faddr 1 (t 3)),
 g 34 (.load 1 false (t 33)),
 g 35 (.mv (t 5)),
 g 36 (.iaddr 1 (t 34) (t 35)),
 g 37 (.faddr 0 (t 36)),
 g 38 (.load 1 false (t 37)),
 g 39 (.call .iso f_ref14_Rows [(t 32), (t 38)]),
 g 40 (.un .not (t 39))])
 (C (t 40)
 (S (R [g 4 (.mv (b false))])
 Q)
 Z)))
 (R [g 25 (.mv (t 5)),
 g 26 (.bin .add (t 25) (i 1)),
 g 5 (.mv (t 26))]))))))
 (S (R [g 4 (.mv (b true))])
 Q))))⟩
def pf_ref17_sameRule : PF := ⟨2, [.tmp 4],
 (S (R [g 2 (.box 6 (t 0)),
 g 3 (.box 6 (t 1)),
 g 4 (.mv (b false))])
 (S (R [g 5 (.faddr 0 (t 2)),
 g 6 (.load 1 false (t 5)),
 g 7 (.faddr 0 (t 3)),
 g 8 (.load 1 false (t 7)),
 g 9 (.bin .eql (t 6) (t 8)),
 g 10 (.mv (t 9)),
 gg 11 10 true (.faddr 1 (t 2)),
 gg 12 10 true (.load 1 false (t 11)),
 gg 13 10 true (.faddr 1 (t 3)),
 gg 14 10 true (.load 1 false (t 13)),
 gg 15 10 true (.call .iso f_ref03_Ints [(t 12), (t 14)]),
 g 16 (.pick (t 10) (t 15) (b false)),
 g 17 (.mv (t 16)),
 gg 18 17 true (.faddr 2 (t 2)),
 gg 19 17 true (.load 1 false (t 18)),
 gg 20 17 true (.faddr 2 (t 3)),
 gg 21 17 true (.load 1 false (t 20)),
 gg 22 17 true (.bin .eql (t 19) (t 21)),
 g 23 (.pick (t 17) (t 22) (b false)),
 g 24 (.mv (t 23)),
 gg 25 24 true (.faddr 3 (t 2)),
 gg 26 24 true (.load 1 false (t 25)),
 gg 27 24 true (.faddr 3 (t 3)),
 gg 28 24 true (.load 1 false (t 27)),
 gg 29 24 true (.bin .eql (t 26) (t 28)),
 g 30 (.pick (t 24) (t 29) (b false)),
 g 31 (.mv (t 30)),
 gg 32 31 true (.faddr 4 (t 2)),
 gg 33 31 true (.load 1 false (t 32)),
 gg 34 31 true (.faddr 4 (t 3)),
 gg 35 31 true (.load 1 false (t 34)),
 gg 36 31 true (.eq (.sc .b) false (t 33) (t 35)),
 g 37 (.pick (t 31) (t 36) (b false)),
 g 38 (.mv (t 37)),
 gg 39 38 true (.faddr 5 (t 2)),
 gg 40 38 true (.load 1 false (t 39)),
 gg 41 38 true (.faddr 5 (t 3)),
 gg 42 38 true (.load 1 false (t 41)),
 gg 43 38 true (.bin .eql (t 40) (t 42)),
 g 44 (.pick (t 38) (t 43) (b false)),
 g 4 (.mv (t 44))])
 Q))⟩
def pf_problem_rows : PF := ⟨1, [.tmp 2],
 (S (R [g 2 (.mv (.c (nilsl)))])
 (S (R [g 5 (.mv (t 0)),
 g 6 (.call .own f_sl_Clone__int__int [(t 5)]),
 g 3 (.mv (t 6))])
 (S (S (R [g 7 (.mv (t 3)),
 g 8 (.len 1 (t 7)),
 g 9 (.mv (i 0))])
 (K 0
 (L [3, 8, 9]
 (S (R [g 10 (.bin .lss (t 9) (t 8))])
 (S (C (t 10)
 Z
 (X 0))
 (S (K 1
 (S (R [g 11 (.mv (t 9)),
 g 4 (.mv (t 11))])
 (R [g 12 (.mv (t 3)),
 g 13 (.mv (t 4)),
 g 14 (.mv (t 3)),
 g 15 (.mv (t 4)),
 g 16 (.iaddr 1 (t 14) (t 15)),
 g 17 (.load 1 false (t 16)),
 g 18 (.call .own f_sl_Clone_int_int [(t 17)]),
 g 19 (.iaddr 1 (t 12) (t 13)),
 u (.store 1 (t 19) (t 18))])))
 (R [g 20 (.bin .add (t 9) (i 1)),
 g 9 (.mv (t 20))])))))))
 (S (R [g 21 (.mv (t 3)),
 g 2 (.mv (t 21))])
 Q))))⟩
def pf_problem_Check : PF := ⟨1, [.tmp 2, .tmp 3],
 (S (R [g 1 (.box 15 (t 0)),
 g 2 (.mv (i 0)),
 g 3 (.mv (i 0))])
 (S (K 0
 (S (R [g 18 (.faddr 0 (t 1)),
 g 19 (.load 1 false (t 18)),
 g 20 (.call .iso f_room_Name [(t 19)]),
 g 21 (.un .not (t 20)),
 g 17 (.mv (t 21))])
 (C (t 17)
 (S (R [g 2 (.mv (i 18)),
 g 3 (.mv (i 0))])
 Q)
 (S (R [g 23 (.faddr 1 (t 1)),
 g 24 (.load 3 true (t 23)),
 g 25 (.call .iso f_when_RightGrid [(t 24)]),
 g 26 (.un .not (t 25)),
 g 22 (.mv (t 26))])
 (C (t 22)
 (S (R [g 2 (.mv (i 10)),
 g 3 (.mv (i 0))])
 Q)
 Z)))))
 (S (S (R [g 28 (.faddr 4 (t 1)),
 g 29 (.load 1 false (t 28)),
 g 30 (.mkfn f_problem_Check_1 [] [(t 1)]),
 g 31 (.call .iso f_problem_bad_Room [(t 29), (i 24), (.c (.fn f_problem_roomName [] [])), (t 30)]),
 g 27 (.mv (t 31)),
 g 32 (.ext (t 27) 0),
 g 33 (.ext (t 27) 1),
 g 4 (.mv (t 32)),
 g 5 (.mv (t 33))])
 (S (R [g 34 (.mv (t 5))])
 (C (t 34)
 (S (R [g 35 (.mv (t 4)),
 g 2 (.mv (i 11)),
 g 3 (.mv (t 35))])
 Q)
 Z)))
 (S (S (R [g 36 (.faddr 4 (t 1)),
 g 37 (.load 1 false (t 36)),
 g 38 (.len 1 (t 37)),
 g 39 (.faddr 5 (t 1)),
 g 40 (.load 1 false (t 39)),
 g 41 (.call .iso f_room_RightWalk [(t 38), (t 40)]),
 g 42 (.un .not (t 41))])
 (C (t 42)
 (S (D [] [g 43 (.faddr 4 (t 1)),
 g 44 (.load 1 false (t 43)),
 g 45 (.len 1 (t 44)),
 g 2 (.mv (i 11)),
 g 3 (.mv (t 45))])
 Q)
 Z))
 (S (S (R [g 47 (.faddr 6 (t 1)),
 g 48 (.load 1 false (t 47)),
 g 49 (.mkfn f_problem_Check_2 [] [(t 1)]),
 g 50 (.call .iso f_problem_bad_Person [(t 48), (i 24), (.c (.fn f_problem_personName [] [])), (t 49)]),
 g 46 (.mv (t 50)),
 g 51 (.ext (t 46) 0),
 g 52 (.ext (t 46) 1),
 g 6 (.mv (t 51)),
 g 7 (.mv (t 52))])
 (S (R [g 53 (.mv (t 7))])
 (C (t 53)
 (S (R [g 54 (.mv (t 6)),
 g 2 (.mv (i 12)),
 g 3 (.mv (t 54))])
 Q)
 Z)))
 (S (S (R [g 56 (.faddr 7 (t 1)),
 g 57 (.load 1 false (t 56)),
 g 58 (.mkfn f_problem_Check_3 [] [(t 1)]),
 g 59 (.call .iso f_problem_bad_Class [(t 57), (i 40), (.c (.fn f_problem_className [] [])), (t 58)]),
 g 55 (.mv (t 59)),
 g 60 (.ext (t 55) 0),
 g 61 (.ext (t 55) 1),
 g 8 (.mv (t 60)),
 g 9 (.mv (t 61))])
 (S (R [g 62 (.mv (t 9))])
 (C (t 62)
 (S (R [g 63 (.mv (t 8)),
 g 2 (.mv (i 13)),
 g 3 (.mv (t 63))])
 Q)
 Z)))
 (S (S (R [g 65 (.faddr 8 (t 1)),
 g 66 (.load 1 false (t 65)),
 g 67 (.mkfn f_problem_Check_4 [] [(t 1)]),
 g 68 (.call .iso f_problem_bad_Course [(t 66), (i 16), (.c (.fn f_problem_courseName [] [])), (t 67)]),
 g 64 (.mv (t 68)),
 g 69 (.ext (t 64) 0),
 g 70 (.ext (t 64) 1),
 g 10 (.mv (t 69)),
 g 11 (.mv (t 70))])
 (S (R [g 71 (.mv (t 11))])
 (C (t 71)
 (S (R [g 72 (.mv (t 10)),
 g 2 (.mv (i 14)),
 g 3 (.mv (t 72))])
 Q)
 Z)))
 (S (S (R [g 74 (.faddr 9 (t 1)),
 g 75 (.load 1 false (t 74)),
 g 76 (.mkfn f_problem_Check_5 [] [(t 1)]),
 g 77 (.call .iso f_problem_bad_Student [(t 75), (i 200), (.c (.fn f_problem_studentName [] [])), (t 76)]),
 g 73 (.mv (t 77)),
 g 78 (.ext (t 73) 0),
 g 79 (.ext (t 73) 1),
 g 12 (.mv (t 78)),
 g 13 (.mv (t 79))])
 (S (R [g 80 (.mv (t 13))])
 (C (t 80)
 (S (R [g 81 (.mv (t 12)),
 g 2 (.mv (i 15)),
 g 3 (.mv (t 81))])
 Q)
 Z)))
 (S (S (R [g 83 (.faddr 10 (t 1)),
 g 84 (.load 1 false (t 83)),
 g 85 (.mkfn f_problem_Check_6 [] [(t 1)]),
 g 86 (.call .iso f_problem_bad_Rule [(t 84), (i 60), (.c (.nilf)), (t 85)]),
 g 82 (.mv (t 86)),
 g 87 (.ext (t 82) 0),
 g 88 (.ext (t 82) 1),
 g 14 (.mv (t 87)),
 g 15 (.mv (t 88))])
 (S (R [g 89 (.mv (t 15))])
 (C (t 89)
 (S (R [g 90 (.mv (t 14)),
 g 2 (.mv (i 16)),
 g 3 (.mv (t 90))])
 Q)
 Z)))
 (S (S (R [g 91 (.faddr 11 (t 1)),
 g 92 (.load 4 true (t 91)),
 g 16 (.alloc (.agg [i64 0, i64 0, i64 0, i64 0])),
 u (.store 4 (t 16) (t 92))])
 (S (R [g 93 (.faddr 0 (t 16)),
 g 94 (.load 1 false (t 93)),
 g 95 (.call .iso f_problem_cost [(t 94)]),
 g 96 (.un .not (t 95)),
 g 97 (.mv (t 96)),
 gg 98 97 false (.faddr 1 (t 16)),
 gg 99 97 false (.load 1 false (t 98)),
 gg 100 97 false (.call .iso f_problem_cost [(t 99)]),
 gg 101 97 false (.un .not (t 100)),
 g 102 (.pick (t 97) (b true) (t 101)),
 g 103 (.mv (t 102)),
 gg 104 103 false (.faddr 2 (t 16)),
 gg 105 103 false (.load 1 false (t 104)),
 gg 106 103 false (.call .iso f_problem_cost [(t 105)]),
 gg 107 103 false (.un .not (t 106)),
 g 108 (.pick (t 103) (b true) (t 107)),
 g 109 (.mv (t 108)),
 gg 110 109 false (.faddr 3 (t 16)),
 gg 111 109 false (.load 1 false (t 110)),
 gg 112 109 false (.call .iso f_problem_cost [(t 111)]),
 gg 113 109 false (.un .not (t 112)),
 g 114 (.pick (t 109) (b true) (t 113))])
 (C (t 114)
 (S (R [g 2 (.mv (i 17)),
 g 3 (.mv (i 0))])
 Q)
 Z)))
 (S (R [g 2 (.mv (i 0)),
 g 3 (.mv (i 0))])
 Q)))))))))))⟩
def pf_plan_each : PF := ⟨3, [.tmp 6],
 (S (R [g 3 (.box 15 (t 0)),
 g 6 (.mv (b false))])
 (S (S (R [g 9 (.mv (t 1)),
 g 10 (.len 1 (t 9)),
 g 11 (.faddr 7 (t 3)),
 g 12 (.load 1 false (t 11)),
 g 13 (.len 1 (t 12)),
 g 14 (.bin .neq (t 10) (t 13)),
 g 15 (.mv (t 14)),
 gg 16 15 false (.load 15 true (t 3)),
 gg 17 15 false (.call .iso f_problem_Right [(t 16)]),
 gg 18 15 false (.un .not (t 17)),
 g 19 (.pick (t 15) (b true) (t 18))])
 (C (t 19)
 (S (R [g 6 (.mv (b false))])
 Q)
 Z))
 (S (S (R [g 20 (.mv (t 1)),
 g 21 (.len 1 (t 20)),
 g 22 (.mv (i 0))])
 (K 0
 (L [2, 3, 20, 21, 22]
 (S (R [g 23 (.bin .lss (t 22) (t 21))])
 (S (C (t 23)
 Z
 (X 0))
 (S (K 1
 (S (R [g 24 (.mv (t 22)),
 g 25 (.iaddr 2 (t 20) (t 22)),
 g 26 (.load 2 true (t 25)),
 g 8 (.alloc (.agg [i64 0, i64 0])),
 g 7 (.mv (t 24)),
 u (.store 2 (t 8) (t 26))])
 (S (D [] [g 27 (.mv (t 2)),
 g 28 (.faddr 7 (t 3)),
 g 29 (.load 1 false (t 28)),
 g 30 (.mv (t 7)),
 g 31 (.iaddr 7 (t 29) (t 30)),
 g 32 (.load 7 true (t 31)),
 g 33 (.load 2 true (t 8)),
 g 34 (.callv .iso (t 27) [(t 32), (t 33)]),
 g 35 (.un .not (t 34))])
 (C (t 35)
 (S (R [g 6 (.mv (b false))])
 Q)
 Z))))
 (R [g 36 (.bin .add (t 22) (i 1)),
 g 22 (.mv (t 36))])))))))
 (S (R [g 6 (.mv (b true))])
 Q))))⟩
def pf_class_Seat : PF := ⟨2, [.tmp 4],
 (S (R [g 2 (.box 7 (t 0)),
 g 3 (.box 2 (t 1)),
 g 4 (.mv (b false))])
 (S (R [g 5 (.faddr 0 (t 3)),
 g 6 (.load 1 false (t 5)),
 g 7 (.bin .geq (t 6) (i (-1))),
 g 8 (.mv (t 7)),
 gg 9 8 true (.faddr 0 (t 3)),
 gg 10 8 true (.load 1 false (t 9)),
 gg 11 8 true (.faddr 4 (t 2)),
 gg 12 8 true (.load 1 false (t 11)),
 gg 13 8 true (.len 1 (t 12)),
 gg 14 8 true (.bin .lss (t 10) (t 13)),
 g 15 (.pick (t 8) (t 14) (b false)),
 g 16 (.mv (t 15)),
 gg 17 16 true (.faddr 1 (t 3)),
 gg 18 16 true (.load 1 false (t 17)),
 gg 19 16 true (.bin .geq (t 18) (i (-1))),
 g 20 (.pick (t 16) (t 19) (b false)),
 g 21 (.mv (t 20)),
 gg 22 21 true (.faddr 1 (t 3)),
 gg 23 21 true (.load 1 false (t 22)),
 gg 24 21 true (.faddr 5 (t 2)),
 gg 25 21 true (.load 1 false (t 24)),
 gg 26 21 true (.len 1 (t 25)),
 gg 27 21 true (.bin .lss (t 23) (t 26)),
 g 28 (.pick (t 21) (t 27) (b false)),
 g 4 (.mv (t 28))])
 Q))⟩
def pf_sl_ContainsFunc_int_int : PF := ⟨2, [.tmp 4],
 (S (R [g 4 (.mv (b false))])
 (S (R [g 5 (.mv (t 0)),
 g 6 (.mv (t 1)),
 g 7 (.call .iso f_sl_IndexFunc_int_int [(t 5), (t 6)]),
 g 8 (.bin .geq (t 7) (i 0)),
 g 4 (.mv (t 8))])
 Q))⟩
def pf_spring_open : PF := ⟨2, [.tmp 4, .tmp 5],
 (S (R [g 2 (.box 20 (t 0)),
 g 4 (.mv (.c (.nilp))),
 g 5 (.mv (b false))])
 (S (S (R [g 6 (.load 20 true (t 2)),
 g 7 (.call .iso f_reason_Right [(t 6)]),
 g 8 (.un .not (t 7)),
 g 9 (.mv (t 8)),
 gg 10 9 false (.faddr 0 (t 2)),
 gg 11 9 false (.load 15 true (t 10)),
 gg 12 9 false (.mv (t 1)),
 gg 13 9 false (.call .iso f_plan_Right [(t 11), (t 12)]),
 gg 14 9 false (.un .not (t 13)),
 g 15 (.pick (t 9) (b true) (t 14))])
 (C (t 15)
 (S (R [g 4 (.mv (.c (.nilp))),
 g 5 (.mv (b false))])
 Q)
 Z))
 (S (D [] [g 16 (.load 20 true (t 2)),
 g 17 (.faddr 0 (t 2)),
 g 18 (.load 15 true (t 17)),
 g 19 (.mv (t 1)),
 g 20 (.faddr 0 (t 2)),
 g 21 (.load 15 true (t 20)),
 g 22 (.call .iso f_lit_New [(t 21)]),
 g 23 (.build [.str ⟨#[]⟩, i64 0, i64 0, i64 0, nilsl, nilsl, nilsl, nilsl, nilsl, nilsl, nilsl, i64 0, i64 0, i64 0, i64 0, nilsl, i64 0, nilsl, nilsl, i64 0, .str ⟨#[]⟩, i64 0, i64 0, i64 0, nilsl, nilsl, nilsl, nilsl, nilsl, nilsl, nilsl, i64 0, i64 0, i64 0, i64 0, nilsl, .nilp] [(0, 20, (t 16)), (20, 15, (t 18)), (35, 1, (t 19)), (36, 1, (t 22))]),
 g 24 (.box 37 (t 23)),
 g 4 (.mv (t 24)),
 g 5 (.mv (b true))])
 Q)))⟩
def pf_spring_state_broken : PF := ⟨1, [.cell 2 3 true, .tmp 3],
 (S (R [g 2 (.alloc (.agg [i64 0, i64 0, nilsl])),
 g 3 (.mv (b false))])
 (S (S (D [] [g 10 (.mv (t 0)),
 g 11 (.nilCheck (t 10)),
 g 12 (.faddr 20 (t 11)),
 g 13 (.load 15 true (t 12)),
 g 14 (.mv (t 0)),
 g 15 (.nilCheck (t 14)),
 g 16 (.faddr 35 (t 15)),
 g 17 (.load 1 false (t 16)),
 g 18 (.mv (t 0)),
 g 19 (.nilCheck (t 18)),
 g 20 (.faddr 0 (t 19)),
 g 21 (.faddr 15 (t 20)),
 g 22 (.load 1 false (t 21)),
 g 23 (.call .iso f_check_Left [(t 13), (t 17), (t 22)]),
 g 4 (.mv (t 23))])
 (S (R [g 24 (.mv (t 4)),
 g 25 (.len 1 (t 24)),
 g 26 (.bin .gtr (t 25) (i 0))])
 (C (t 26)
 (S (R [g 27 (.mv (t 0)),
 g 28 (.mv (t 4)),
 g 29 (.iaddr 4 (t 28) (i 0)),
 g 30 (.load 4 true (t 29)),
 g 31 (.call .iso f_spring_state_axiom [(t 27), (t 30)]),
 u (.store 3 (t 2) (t 31)),
 g 3 (.mv (b true))])
 Q)
 Z)))
 (S (S (R [g 33 (.mv (t 0)),
 g 34 (.call .iso f_spring_state_hall [(t 33)]),
 g 32 (.mv (t 34)),
 g 35 (.ext (t 32) 0),
 g 36 (.ext (t 32) 1),
 g 5 (.alloc (.agg [i64 0, i64 0, nilsl])),
 u (.store 3 (t 5) (t 35)),
 g 6 (.mv (t 36))])
 (S (R [g 37 (.mv (t 6))])
 (C (t 37)
 (S (R [g 38 (.load 3 true (t 5)),
 u (.store 3 (t 2) (t 38)),
 g 3 (.mv (b true))])
 Q)
 Z)))
 (S (S (D [] [g 39 (.mv (t 0)),
 g 40 (.nilCheck (t 39)),
 g 41 (.faddr 0 (t 40)),
 g 42 (.faddr 16 (t 41)),
 g 43 (.load 1 false (t 42)),
 g 44 (.bin .neq (t 43) (i 0)),
 g 45 (.mv (t 44)),
 gg 46 45 true (.mv (t 0)),
 gg 47 45 true (.nilCheck (t 46)),
 gg 48 45 true (.faddr 0 (t 47)),
 gg 49 45 true (.load 20 true (t 48)),
 gg 50 45 true (.mv (t 0)),
 gg 51 45 true (.nilCheck (t 50)),
 gg 52 45 true (.faddr 35 (t 51)),
 gg 53 45 true (.load 1 false (t 52)),
 gg 54 45 true (.call .iso f_reason_Spent [(t 49), (t 53)]),
 gg 55 45 true (.mv (t 0)),
 gg 56 45 true (.nilCheck (t 55)),
 gg 57 45 true (.faddr 0 (t 56)),
 gg 58 45 true (.faddr 19 (t 57)),
 gg 59 45 true (.load 1 false (t 58)),
 gg 60 45 true (.bin .gtr (t 54) (t 59)),
 g 61 (.pick (t 45) (t 60) (b false))])
 (C (t 61)
 (S (R [g 7 (.mv (.c (nilsl)))])
 (S (S (D [] [g 62 (.mv (t 0)),
 g 63 (.nilCheck (t 62)),
 g 64 (.faddr 36 (t 63)),
 g 65 (.load 1 false (t 64)),
 g 66 (.mv (t 0)),
 g 67 (.nilCheck (t 66)),
 g 68 (.faddr 35 (t 67)),
 g 69 (.load 1 false (t 68)),
 g 70 (.call .iso f_lit_Map_Fixed [(t 65), (t 69)]),
 g 71 (.len 1 (t 70)),
 g 72 (.mv (i 0))])
 (K 0
 (L [2, 7, 70, 71, 72]
 (S (R [g 73 (.bin .lss (t 72) (t 71))])
 (S (C (t 73)
 Z
 (X 0))
 (S (K 1
 (S (R [g 74 (.iaddr 1 (t 70) (t 72)),
 g 75 (.load 1 false (t 74)),
 g 9 (.mv (t 75))])
 (R [g 76 (.mv (t 7)),
 g 77 (.mv (t 9)),
 g 78 (.un .neg (t 77)),
 g 79 (.lits 1 1 (i64 0) [(0, (t 78))]),
 g 80 (.app 8 (i64 0) (t 76) (t 79)),
 g 7 (.mv (t 80))])))
 (R [g 81 (.bin .add (t 72) (i 1)),
 g 72 (.mv (t 81))])))))))
 (S (R [g 82 (.mv (t 7)),
 g 83 (.call .iso f_lit_Sort [(t 82)]),
 g 84 (.build [i64 0, i64 0, nilsl] [(0, 1, (i 11)), (2, 1, (t 83))]),
 u (.store 3 (t 2) (t 84)),
 g 3 (.mv (b true))])
 Q)))
 Z))
 (S (R [g 85 (.build [i64 0, i64 0, nilsl] []),
 u (.store 3 (t 2) (t 85)),
 g 3 (.mv (b false))])
 Q)))))⟩
def pf_seek_search_add : PF := ⟨3, [.tmp 6],
 (S (R [g 4 (.box 3 (t 1)),
 g 6 (.mv (i 0))])
 (S (R [g 10 (.load 3 true (t 4)),
 g 11 (.call .iso f_seek_key [(t 10)]),
 g 7 (.mv (t 11))])
 (S (S (R [g 13 (.mv (t 0)),
 g 14 (.nilCheck (t 13)),
 g 15 (.faddr 25 (t 14)),
 g 16 (.load 1 false (t 15)),
 g 17 (.mv (t 7)),
 g 18 (.look (.sc .s) true (i64 0) (t 16) (t 17)),
 g 12 (.mv (t 18)),
 g 19 (.ext (t 12) 0),
 g 20 (.ext (t 12) 1),
 g 8 (.mv (t 19)),
 g 9 (.mv (t 20))])
 (S (R [g 21 (.mv (t 9))])
 (C (t 21)
 (S (R [g 22 (.mv (t 8)),
 g 6 (.mv (t 22))])
 Q)
 Z)))
 (S (D [] [g 23 (.mv (t 0)),
 g 24 (.nilCheck (t 23)),
 g 25 (.faddr 25 (t 24)),
 g 26 (.load 1 false (t 25)),
 g 27 (.mv (t 7)),
 g 28 (.mv (t 0)),
 g 29 (.nilCheck (t 28)),
 g 30 (.faddr 24 (t 29)),
 g 31 (.load 1 false (t 30)),
 g 32 (.len 1 (t 31)),
 u (.mupd (.sc .s) (t 26) (t 27) (t 32))])
 (S (D [(4, 8)] [g 33 (.mv (t 0)),
 g 34 (.mv (t 0)),
 g 35 (.nilCheck (t 34)),
 g 36 (.faddr 24 (t 35)),
 g 37 (.load 1 false (t 36)),
 g 38 (.load 3 true (t 4)),
 g 39 (.mv (t 2)),
 g 40 (.build [i64 0, i64 0, nilsl, nilsl] [(0, 3, (t 38)), (3, 1, (t 39))]),
 g 41 (.lits 4 1 (.agg [i64 0, i64 0, nilsl, nilsl]) [(0, (t 40))]),
 g 42 (.app 64 (.agg [i64 0, i64 0, nilsl, nilsl]) (t 37) (t 41)),
 g 43 (.nilCheck (t 33)),
 g 44 (.faddr 24 (t 43)),
 u (.store 1 (t 44) (t 42))])
 (S (R [g 45 (.mv (t 0)),
 g 46 (.nilCheck (t 45)),
 g 47 (.faddr 24 (t 46)),
 g 48 (.load 1 false (t 47)),
 g 49 (.len 1 (t 48)),
 g 50 (.bin .sub (t 49) (i 1)),
 g 6 (.mv (t 50))])
 Q))))))⟩
def pf_seek_search_next : PF := ⟨2, [.cell 4 2 true, .tmp 5],
 (S (R [g 4 (.alloc (.agg [i64 0, .bool false])),
 g 5 (.mv (b false))])
 (S (R [g 13 (.mv (t 0)),
 g 14 (.mv (t 1)),
 g 15 (.call .inl f_seek_search_open [(t 13), (t 14)]),
 g 6 (.mv (t 15))])
 (S (S (R [g 16 (.mv (t 6)),
 g 17 (.len 1 (t 16)),
 g 18 (.bin .eql (t 17) (i 0))])
 (C (t 18)
 (S (R [g 19 (.build [i64 0, .bool false] []),
 u (.store 2 (t 4) (t 19)),
 g 5 (.mv (b false))])
 Q)
 Z))
 (S (R [g 20 (.mkmap),
 g 7 (.mv (t 20))])
 (S (S (R [g 21 (.mv (t 0)),
 g 22 (.nilCheck (t 21)),
 g 23 (.faddr 0 (t 22)),
 g 24 (.load 20 true (t 23)),
 g 25 (.mv (t 1)),
 g 26 (.call .iso f_spring_Free [(t 24), (t 25)]),
 g 27 (.len 1 (t 26)),
 g 28 (.mv (i 0))])
 (K 0
 (L [4, 6, 7, 26, 27, 28]
 (S (R [g 29 (.bin .lss (t 28) (t 27))])
 (S (C (t 29)
 Z
 (X 0))
 (S (K 1
 (S (R [g 30 (.iaddr 3 (t 26) (t 28)),
 g 31 (.load 3 true (t 30)),
 g 9 (.alloc (.agg [i64 0, .bool false, i64 0])),
 u (.store 3 (t 9) (t 31))])
 (D [] [g 32 (.mv (t 7)),
 g 33 (.faddr 0 (t 9)),
 g 34 (.load 1 false (t 33)),
 g 35 (.faddr 1 (t 9)),
 g 36 (.load 1 false (t 35)),
 g 37 (.build [i64 0, .bool false] [(0, 1, (t 34)), (1, 1, (t 36))]),
 g 38 (.look (.st [.i, .b]) false (i64 0) (t 32) (t 37)),
 g 39 (.bin .add (t 38) (i 1)),
 g 40 (.ment (.st [.i, .b]) (i64 0) (t 32) (t 37)),
 g 41 (.ext (t 40) 1),
 u (.mest (t 32) (t 41) (t 39))])))
 (R [g 42 (.bin .add (t 28) (i 1)),
 g 28 (.mv (t 42))])))))))
 (S (R [g 43 (.mv (t 6)),
 g 44 (.iaddr 2 (t 43) (i 0)),
 g 45 (.load 2 true (t 44)),
 g 10 (.alloc (.agg [i64 0, .bool false])),
 u (.store 2 (t 10) (t 45))])
 (S (S (R [g 46 (.mv (t 6)),
 g 47 (.len 1 (t 46)),
 g 48 (.mv (i 0))])
 (K 2
 (L [4, 7, 10, 46, 47, 48]
 (S (R [g 49 (.bin .lss (t 48) (t 47))])
 (S (C (t 49)
 Z
 (X 2))
 (S (K 3
 (S (R [g 50 (.iaddr 2 (t 46) (t 48)),
 g 51 (.load 2 true (t 50)),
 g 12 (.alloc (.agg [i64 0, .bool false])),
 u (.store 2 (t 12) (t 51))])
 (S (D [] [g 52 (.mv (t 7)),
 g 53 (.load 2 true (t 12)),
 g 54 (.look (.st [.i, .b]) false (i64 0) (t 52) (t 53)),
 g 55 (.mv (t 7)),
 g 56 (.load 2 true (t 10)),
 g 57 (.look (.st [.i, .b]) false (i64 0) (t 55) (t 56)),
 g 58 (.bin .lss (t 54) (t 57))])
 (C (t 58)
 (R [g 59 (.load 2 true (t 12)),
 u (.store 2 (t 10) (t 59))])
 Z))))
 (R [g 60 (.bin .add (t 48) (i 1)),
 g 48 (.mv (t 60))])))))))
 (S (R [g 61 (.load 2 true (t 10)),
 u (.store 2 (t 4) (t 61)),
 g 5 (.mv (b true))])
 Q))))))))⟩
def pf_seek_search_choices : PF := ⟨2, [.tmp 4],
 (S (R [g 3 (.box 2 (t 1)),
 g 4 (.mv (.c (nilsl)))])
 (S (D [(5, 10), (7, 10), (8, 10), (9, 10)] [g 9 (.mv (t 0)),
 g 10 (.nilCheck (t 9)),
 g 11 (.faddr 0 (t 10)),
 g 12 (.faddr 0 (t 11)),
 g 13 (.faddr 7 (t 12)),
 g 14 (.load 1 false (t 13)),
 g 15 (.faddr 0 (t 3)),
 g 16 (.load 1 false (t 15)),
 g 17 (.iaddr 7 (t 14) (t 16)),
 g 18 (.load 7 true (t 17)),
 g 5 (.alloc (.agg [.str ⟨#[]⟩, i64 0, .int .u16 (0), nilsl, nilsl, nilsl, i64 0])),
 u (.store 7 (t 5) (t 18))])
 (S (R [g 19 (.faddr 4 (t 5)),
 g 20 (.load 1 false (t 19)),
 g 21 (.len 1 (t 20)),
 g 6 (.mv (t 21))])
 (S (S (R [g 22 (.faddr 1 (t 3)),
 g 23 (.load 1 false (t 22))])
 (C (t 23)
 (R [g 24 (.faddr 5 (t 5)),
 g 25 (.load 1 false (t 24)),
 g 26 (.len 1 (t 25)),
 g 6 (.mv (t 26))])
 Z))
 (S (R [g 7 (.mv (.c (nilsl)))])
 (S (S (R [g 27 (.mv (t 6)),
 g 28 (.mv (i 0))])
 (K 0
 (L [3, 7, 27, 28]
 (S (R [g 29 (.bin .lss (t 28) (t 27))])
 (S (C (t 29)
 Z
 (X 0))
 (S (K 1
 (S (R [g 30 (.mv (t 28)),
 g 8 (.mv (t 30))])
 (R [g 31 (.mv (t 7)),
 g 32 (.faddr 0 (t 3)),
 g 33 (.load 1 false (t 32)),
 g 34 (.faddr 1 (t 3)),
 g 35 (.load 1 false (t 34)),
 g 36 (.mv (t 8)),
 g 37 (.build [i64 0, .bool false, i64 0] [(0, 1, (t 33)), (1, 1, (t 35)), (2, 1, (t 36))]),
 g 38 (.lits 3 1 (.agg [i64 0, .bool false, i64 0]) [(0, (t 37))]),
 g 39 (.app 24 (.agg [i64 0, .bool false, i64 0]) (t 31) (t 38)),
 g 7 (.mv (t 39))])))
 (R [g 40 (.bin .add (t 28) (i 1)),
 g 28 (.mv (t 40))])))))))
 (S (R [g 41 (.mv (t 7)),
 g 4 (.mv (t 41))])
 Q)))))))⟩
def pf_seek_search_try : PF := ⟨3, [.tmp 6],
 (S (R [g 5 (.box 3 (t 2)),
 g 6 (.mv (i 0))])
 (S (S (D [(3, 10), (5, 10), (6, 10)] [g 10 (.mv (t 0)),
 g 11 (.nilCheck (t 10)),
 g 12 (.faddr 0 (t 11)),
 g 13 (.load 20 true (t 12)),
 g 14 (.mv (t 1)),
 g 15 (.load 3 true (t 5)),
 g 16 (.call .iso f_spring_Bars [(t 13), (t 14), (t 15)]),
 g 9 (.mv (t 16)),
 g 17 (.ext (t 9) 0),
 g 18 (.ext (t 9) 1),
 g 7 (.alloc (.agg [i64 0, i64 0, nilsl])),
 u (.store 3 (t 7) (t 17)),
 g 8 (.mv (t 18))])
 (S (R [g 19 (.mv (t 8))])
 (C (t 19)
 (S (R [g 20 (.mv (t 0)),
 g 21 (.load 3 true (t 7)),
 g 22 (.call .inl f_seek_search_broken [(t 20), (t 21)]),
 g 6 (.mv (t 22))])
 Q)
 Z)))
 (S (R [g 23 (.mv (t 0)),
 g 24 (.mv (t 1)),
 g 25 (.load 3 true (t 5)),
 g 26 (.call .iso f_seek_with [(t 24), (t 25)]),
 g 27 (.call .inl f_seek_search_solve [(t 23), (t 26)]),
 g 6 (.mv (t 27))])
 Q)))⟩
def pf_lit_Map_Of : PF := ⟨2, [.tmp 4],
 (S (R [g 3 (.box 3 (t 1)),
 g 4 (.mv (i 0))])
 (S (S (R [g 5 (.faddr 1 (t 3)),
 g 6 (.load 1 false (t 5))])
 (C (t 6)
 (S (R [g 7 (.mv (t 0)),
 g 8 (.faddr 0 (t 3)),
 g 9 (.load 1 false (t 8)),
 g 10 (.faddr 2 (t 3)),
 g 11 (.load 1 false (t 10)),
 g 12 (.call .iso f_lit_Map_Place [(t 7), (t 9), (t 11)]),
 g 4 (.mv (t 12))])
 Q)
 Z))
 (S (R [g 13 (.mv (t 0)),
 g 14 (.faddr 0 (t 3)),
 g 15 (.load 1 false (t 14)),
 g 16 (.faddr 2 (t 3)),
 g 17 (.load 1 false (t 16)),
 g 18 (.call .iso f_lit_Map_Time [(t 13), (t 15), (t 17)]),
 g 4 (.mv (t 18))])
 Q)))⟩
def pf_sl_Contains_int_int : PF := ⟨2, [.tmp 4],
 (S (R [g 4 (.mv (b false))])
 (S (R [g 5 (.mv (t 0)),
 g 6 (.mv (t 1)),
 g 7 (.call .iso f_sl_Index_int_int [(t 5), (t 6)]),
 g 8 (.bin .geq (t 7) (i 0)),
 g 4 (.mv (t 8))])
 Q))⟩
def pf_lit_Sort : PF := ⟨1, [.tmp 2],
 (S (R [g 2 (.mv (.c (nilsl)))])
 (S (R [g 4 (.mv (t 0)),
 g 5 (.call .own f_sl_Clone_int_int [(t 4)]),
 g 6 (.call .inl f_sl_DeleteFunc_int_int [(t 5), (.c (.fn f_lit_Sort_1 [] []))]),
 g 3 (.mv (t 6))])
 (S (R [g 7 (.mv (t 3)),
 g 8 (.call .inl f_sl_SortFunc_int_int [(t 7), (.c (.fn f_lit_Sort_2 [] []))])])
 (S (R [g 9 (.mv (t 3)),
 g 10 (.call .inl f_sl_Compact_int_int [(t 9)]),
 g 2 (.mv (t 10))])
 Q))))⟩
def pf_class_Whole : PF := ⟨2, [.tmp 4],
 (S (R [g 2 (.box 7 (t 0)),
 g 3 (.box 2 (t 1)),
 g 4 (.mv (b false))])
 (S (R [g 5 (.load 7 true (t 2)),
 g 6 (.load 2 true (t 3)),
 g 7 (.call .iso f_class_Seat [(t 5), (t 6)]),
 g 8 (.mv (t 7)),
 gg 9 8 true (.faddr 0 (t 3)),
 gg 10 8 true (.load 1 false (t 9)),
 gg 11 8 true (.bin .gtr (t 10) (i (-1))),
 g 12 (.pick (t 8) (t 11) (b false)),
 g 13 (.mv (t 12)),
 gg 14 13 true (.faddr 1 (t 3)),
 gg 15 13 true (.load 1 false (t 14)),
 gg 16 13 true (.bin .gtr (t 15) (i (-1))),
 gg 17 13 true (.mv (t 16)),
 gg 18 17 false (.faddr 5 (t 2)),
 gg 19 17 false (.load 1 false (t 18)),
 gg 20 17 false (.len 1 (t 19)),
 gg 21 17 false (.bin .eql (t 20) (i 0)),
 gg 22 13 true (.pick (t 17) (b true) (t 21)),
 g 23 (.pick (t 13) (t 22) (b false)),
 g 4 (.mv (t 23))])
 Q))⟩
def pf_price_Parts : PF := ⟨2, [.tmp 4, .tmp 5, .tmp 6],
 (S (R [g 2 (.box 15 (t 0)),
 g 4 (.mv (i 0)),
 g 5 (.mv (i 0)),
 g 6 (.mv (i 0))])
 (S (S (R [g 18 (.load 15 true (t 2)),
 g 19 (.mv (t 1)),
 g 20 (.call .iso f_plan_Right [(t 18), (t 19)]),
 g 21 (.un .not (t 20))])
 (C (t 21)
 (S (R [g 4 (.mv (i 0)),
 g 5 (.mv (i 0)),
 g 6 (.mv (i 0))])
 Q)
 Z))
 (S (R [g 7 (.mv (i 0)),
 g 8 (.mv (i 0)),
 g 9 (.mv (i 0))])
 (S (S (R [g 22 (.faddr 7 (t 2)),
 g 23 (.load 1 false (t 22)),
 g 24 (.len 1 (t 23)),
 g 25 (.mv (i 0))])
 (K 0
 (L [1, 2, 7, 8, 9, 23, 24, 25]
 (S (R [g 26 (.bin .lss (t 25) (t 24))])
 (S (C (t 26)
 Z
 (X 0))
 (S (K 1
 (S (R [g 27 (.mv (t 25)),
 g 28 (.iaddr 7 (t 23) (t 25)),
 g 29 (.load 7 true (t 28)),
 g 11 (.alloc (.agg [.str ⟨#[]⟩, i64 0, .int .u16 (0), nilsl, nilsl, nilsl, i64 0])),
 g 10 (.mv (t 27)),
 u (.store 7 (t 11) (t 29))])
 (S (R [g 31 (.load 7 true (t 11)),
 g 32 (.call .iso f_price_ends [(t 31)]),
 g 30 (.mv (t 32)),
 g 33 (.ext (t 30) 0),
 g 34 (.ext (t 30) 1),
 g 12 (.alloc (.agg [i64 0, i64 0])),
 g 13 (.alloc (.agg [i64 0, i64 0])),
 u (.store 2 (t 12) (t 33)),
 u (.store 2 (t 13) (t 34))])
 (S (D [] [g 36 (.load 7 true (t 11)),
 g 37 (.mv (t 1)),
 g 38 (.mv (t 10)),
 g 39 (.iaddr 2 (t 37) (t 38)),
 g 40 (.load 2 true (t 39)),
 g 41 (.call .iso f_class_Cost [(t 36), (t 40)]),
 g 35 (.mv (t 41)),
 g 42 (.ext (t 35) 0),
 g 43 (.ext (t 35) 1),
 g 14 (.mv (t 42)),
 g 15 (.mv (t 43))])
 (S (S (R [g 44 (.mv (t 1)),
 g 45 (.mv (t 10)),
 g 46 (.iaddr 2 (t 44) (t 45)),
 g 47 (.faddr 0 (t 46)),
 g 48 (.load 1 false (t 47)),
 g 49 (.bin .lss (t 48) (i 0))])
 (C (t 49)
 (R [g 50 (.aaddr 2 1 (t 12) (i 0)),
 g 51 (.load 1 false (t 50)),
 g 14 (.mv (t 51))])
 Z))
 (S (S (R [g 52 (.mv (t 1)),
 g 53 (.mv (t 10)),
 g 54 (.iaddr 2 (t 52) (t 53)),
 g 55 (.faddr 1 (t 54)),
 g 56 (.load 1 false (t 55)),
 g 57 (.bin .lss (t 56) (i 0))])
 (C (t 57)
 (R [g 58 (.aaddr 2 1 (t 12) (i 1)),
 g 59 (.load 1 false (t 58)),
 g 15 (.mv (t 59))])
 Z))
 (S (R [g 60 (.mv (t 7)),
 g 61 (.mv (t 14)),
 g 62 (.bin .add (t 60) (t 61)),
 g 7 (.mv (t 62))])
 (R [g 63 (.mv (t 8)),
 g 64 (.mv (t 15)),
 g 65 (.bin .add (t 63) (t 64)),
 g 8 (.mv (t 65))]))))))))
 (R [g 66 (.bin .add (t 25) (i 1)),
 g 25 (.mv (t 66))])))))))
 (S (S (R [g 67 (.faddr 10 (t 2)),
 g 68 (.load 1 false (t 67)),
 g 69 (.len 1 (t 68)),
 g 70 (.mv (i 0))])
 (K 2
 (L [1, 2, 7, 8, 9, 68, 69, 70]
 (S (R [g 71 (.bin .lss (t 70) (t 69))])
 (S (C (t 71)
 Z
 (X 2))
 (S (K 3
 (S (R [g 72 (.iaddr 6 (t 68) (t 70)),
 g 73 (.load 6 true (t 72)),
 g 17 (.alloc (.agg [i64 0, nilsl, i64 0, i64 0, .bool false, i64 0])),
 u (.store 6 (t 17) (t 73))])
 (R [g 74 (.mv (t 9)),
 g 75 (.load 15 true (t 2)),
 g 76 (.mv (t 1)),
 g 77 (.load 6 true (t 17)),
 g 78 (.call .iso f_price_rule [(t 75), (t 76), (t 77)]),
 g 79 (.bin .add (t 74) (t 78)),
 g 9 (.mv (t 79))])))
 (R [g 80 (.bin .add (t 70) (i 1)),
 g 70 (.mv (t 80))])))))))
 (S (R [g 81 (.mv (t 7)),
 g 82 (.mv (t 8)),
 g 83 (.mv (t 9)),
 g 4 (.mv (t 81)),
 g 5 (.mv (t 82)),
 g 6 (.mv (t 83))])
 Q))))))⟩
def pf_sl_DeleteFunc_Fault_Fault : PF := ⟨2, [.tmp 4],
 (S (R [g 4 (.mv (.c (nilsl)))])
 (S (R [g 8 (.mv (t 0)),
 g 9 (.mv (t 1)),
 g 10 (.call .iso f_sl_IndexFunc_Fault_Fault [(t 8), (t 9)]),
 g 5 (.mv (t 10))])
 (S (S (R [g 11 (.mv (t 5)),
 g 12 (.bin .eql (t 11) (i (-1)))])
 (C (t 12)
 (S (R [g 13 (.mv (t 0)),
 g 4 (.mv (t 13))])
 Q)
 Z))
 (S (S (R [g 14 (.mv (t 5)),
 g 15 (.bin .add (t 14) (i 1)),
 g 6 (.mv (t 15))])
 (K 0
 (L [0, 1, 5, 6]
 (S (S (R [g 16 (.mv (t 6)),
 g 17 (.mv (t 0)),
 g 18 (.len 1 (t 17)),
 g 19 (.bin .lss (t 16) (t 18))])
 (C (t 19)
 Z
 (X 0)))
 (S (K 1
 (S (R [g 22 (.mv (t 0)),
 g 23 (.mv (t 6)),
 g 24 (.iaddr 4 (t 22) (t 23)),
 g 25 (.load 4 true (t 24)),
 g 7 (.alloc (.agg [i64 0, i64 0, i64 0, i64 0])),
 u (.store 4 (t 7) (t 25))])
 (S (R [g 26 (.mv (t 1)),
 g 27 (.load 4 true (t 7)),
 g 28 (.callv .iso (t 26) [(t 27)]),
 g 29 (.un .not (t 28))])
 (C (t 29)
 (S (R [g 30 (.mv (t 0)),
 g 31 (.mv (t 5)),
 g 32 (.load 4 true (t 7)),
 g 33 (.iaddr 4 (t 30) (t 31)),
 u (.store 4 (t 33) (t 32))])
 (R [g 34 (.mv (t 5)),
 g 35 (.bin .add (t 34) (i 1)),
 g 5 (.mv (t 35))]))
 Z))))
 (R [g 20 (.mv (t 6)),
 g 21 (.bin .add (t 20) (i 1)),
 g 6 (.mv (t 21))]))))))
 (S (R [g 36 (.mv (t 0)),
 g 37 (.mv (t 5)),
 g 38 (.slice 4 (t 36) (some (t 37)) none none),
 u (.clear (.agg [i64 0, i64 0, i64 0, i64 0]) (t 38))])
 (S (R [g 39 (.mv (t 0)),
 g 40 (.mv (t 5)),
 g 41 (.slice 4 (t 39) none (some (t 40)) none),
 g 4 (.mv (t 41))])
 Q))))))⟩
def pf_check_Faults : PF := ⟨2, [.tmp 4],
 (S (R [g 2 (.box 15 (t 0)),
 g 4 (.mv (.c (nilsl)))])
 (S (S (R [g 12 (.load 15 true (t 2)),
 g 13 (.mv (t 1)),
 g 14 (.call .iso f_plan_Right [(t 12), (t 13)]),
 g 15 (.un .not (t 14))])
 (C (t 15)
 (S (R [g 4 (.mv (.c (nilsl)))])
 Q)
 Z))
 (S (R [g 16 (.load 15 true (t 2)),
 g 17 (.mv (t 1)),
 g 18 (.build [.str ⟨#[]⟩, i64 0, i64 0, i64 0, nilsl, nilsl, nilsl, nilsl, nilsl, nilsl, nilsl, i64 0, i64 0, i64 0, i64 0, nilsl, nilsl, nilsl] [(0, 15, (t 16)), (15, 1, (t 17))]),
 g 19 (.box 18 (t 18)),
 g 5 (.mv (t 19))])
 (S (S (R [g 20 (.mv (t 1)),
 g 21 (.len 1 (t 20)),
 g 22 (.mv (i 0))])
 (K 0
 (L [2, 5, 20, 21, 22]
 (S (R [g 23 (.bin .lss (t 22) (t 21))])
 (S (C (t 23)
 Z
 (X 0))
 (S (K 1
 (S (R [g 24 (.mv (t 22)),
 g 25 (.iaddr 2 (t 20) (t 22)),
 g 26 (.load 2 true (t 25)),
 g 7 (.alloc (.agg [i64 0, i64 0])),
 g 6 (.mv (t 24)),
 u (.store 2 (t 7) (t 26))])
 (S (D [(1, 10), (3, 10), (4, 10), (5, 10), (6, 10)] [g 28 (.faddr 7 (t 2)),
 g 29 (.load 1 false (t 28)),
 g 30 (.mv (t 6)),
 g 31 (.iaddr 7 (t 29) (t 30)),
 g 32 (.load 7 true (t 31)),
 g 33 (.load 2 true (t 7)),
 g 34 (.call .iso f_class_Spot [(t 32), (t 33)]),
 g 27 (.mv (t 34)),
 g 35 (.ext (t 27) 0),
 g 36 (.ext (t 27) 1),
 g 8 (.alloc (.agg [.int .u32 (0), .int .u8 (0), i64 0, i64 0, i64 0])),
 u (.store 5 (t 8) (t 35)),
 g 9 (.mv (t 36))])
 (D [(4, 6)] [g 37 (.mv (t 5)),
 g 38 (.mv (t 5)),
 g 39 (.nilCheck (t 38)),
 g 40 (.faddr 16 (t 39)),
 g 41 (.load 1 false (t 40)),
 g 42 (.load 5 true (t 8)),
 g 43 (.lits 5 1 (.agg [.int .u32 (0), .int .u8 (0), i64 0, i64 0, i64 0]) [(0, (t 42))]),
 g 44 (.app 32 (.agg [.int .u32 (0), .int .u8 (0), i64 0, i64 0, i64 0]) (t 41) (t 43)),
 g 45 (.nilCheck (t 37)),
 g 46 (.faddr 16 (t 45)),
 u (.store 1 (t 46) (t 44))]))))
 (R [g 47 (.bin .add (t 22) (i 1)),
 g 22 (.mv (t 47))])))))))
 (S (R [g 48 (.mv (t 5)),
 g 49 (.call .inl f_check_table_alone [(t 48)])])
 (S (R [g 50 (.mv (t 5)),
 g 51 (.call .inl f_check_table_twos [(t 50)])])
 (S (S (R [g 52 (.faddr 10 (t 2)),
 g 53 (.load 1 false (t 52)),
 g 54 (.len 1 (t 53)),
 g 55 (.mv (i 0))])
 (K 2
 (L [5, 53, 54, 55]
 (S (R [g 56 (.bin .lss (t 55) (t 54))])
 (S (C (t 56)
 Z
 (X 2))
 (S (K 3
 (S (R [g 57 (.mv (t 55)),
 g 58 (.iaddr 6 (t 53) (t 55)),
 g 59 (.load 6 true (t 58)),
 g 11 (.alloc (.agg [i64 0, nilsl, i64 0, i64 0, .bool false, i64 0])),
 g 10 (.mv (t 57)),
 u (.store 6 (t 11) (t 59))])
 (S (R [g 60 (.faddr 4 (t 11)),
 g 61 (.load 1 false (t 60))])
 (C (t 61)
 (R [g 62 (.mv (t 5)),
 g 63 (.mv (t 10)),
 g 64 (.load 6 true (t 11)),
 g 65 (.call .inl f_check_table_rule [(t 62), (t 63), (t 64)])])
 Z))))
 (R [g 66 (.bin .add (t 55) (i 1)),
 g 55 (.mv (t 66))])))))))
 (S (R [g 67 (.mv (t 5)),
 g 68 (.nilCheck (t 67)),
 g 69 (.faddr 17 (t 68)),
 g 70 (.load 1 false (t 69)),
 g 71 (.call .inl f_sl_SortStableFunc_Fault_Fault [(t 70), (.c (.fn f_check_order [] []))])])
 (S (R [g 72 (.mv (t 5)),
 g 73 (.nilCheck (t 72)),
 g 74 (.faddr 17 (t 73)),
 g 75 (.load 1 false (t 74)),
 g 4 (.mv (t 75))])
 Q)))))))))⟩
def pf_unit_New : PF := ⟨1, [.tmp 2],
 (S (R [g 2 (.mv (.c (.nilp)))])
 (S (R [g 6 (.call .inl f_unit_fresh []),
 g 3 (.mv (t 6))])
 (S (S (R [g 7 (.mv (t 0)),
 g 8 (.len 1 (t 7)),
 g 9 (.mv (i 0))])
 (K 0
 (L [3, 7, 8, 9]
 (S (R [g 10 (.bin .lss (t 9) (t 8))])
 (S (C (t 10)
 Z
 (X 0))
 (S (K 1
 (S (R [g 11 (.iaddr 1 (t 7) (t 9)),
 g 12 (.load 1 false (t 11)),
 g 5 (.mv (t 12))])
 (R [g 13 (.mv (t 3)),
 g 14 (.mv (t 5)),
 g 15 (.call .inl f_unit_Unit_put [(t 13), (t 14)])])))
 (R [g 16 (.bin .add (t 9) (i 1)),
 g 9 (.mv (t 16))])))))))
 (S (R [g 17 (.mv (t 3)),
 g 18 (.call .inl f_unit_Unit_look [(t 17), (i 0)])])
 (S (R [g 19 (.mv (t 3)),
 g 2 (.mv (t 19))])
 Q)))))⟩
def pf_proof_Right : PF := ⟨1, [.tmp 2],
 (S (R [g 1 (.box 3 (t 0)),
 g 2 (.mv (b false))])
 (S (S (R [g 3 (.faddr 0 (t 1)),
 g 4 (.load 1 false (t 3)),
 g 5 (.bin .lss (t 4) (i 0)),
 g 6 (.mv (t 5)),
 gg 7 6 false (.faddr 0 (t 1)),
 gg 8 6 false (.load 1 false (t 7)),
 gg 9 6 false (.bin .gtr (t 8) (i 11)),
 g 10 (.pick (t 6) (b true) (t 9)),
 g 11 (.mv (t 10)),
 gg 12 11 false (.faddr 1 (t 1)),
 gg 13 11 false (.load 1 false (t 12)),
 gg 14 11 false (.bin .lss (t 13) (i 0)),
 g 15 (.pick (t 11) (b true) (t 14)),
 g 16 (.mv (t 15)),
 gg 17 16 false (.faddr 1 (t 1)),
 gg 18 16 false (.load 1 false (t 17)),
 gg 19 16 false (.bin .gtr (t 18) (i 1000000)),
 g 20 (.pick (t 16) (b true) (t 19)),
 g 21 (.mv (t 20)),
 gg 22 21 false (.faddr 0 (t 1)),
 gg 23 21 false (.load 1 false (t 22)),
 gg 24 21 false (.bin .eql (t 23) (i 0)),
 gg 25 21 false (.mv (t 24)),
 gg 26 25 true (.faddr 1 (t 1)),
 gg 27 25 true (.load 1 false (t 26)),
 gg 28 25 true (.bin .neq (t 27) (i 0)),
 gg 29 21 false (.pick (t 25) (t 28) (b false)),
 g 30 (.pick (t 21) (b true) (t 29)),
 g 31 (.mv (t 30)),
 gg 32 31 false (.faddr 2 (t 1)),
 gg 33 31 false (.load 1 false (t 32)),
 gg 34 31 false (.len 1 (t 33)),
 gg 35 31 false (.bin .gtr (t 34) (i 1000)),
 g 36 (.pick (t 31) (b true) (t 35))])
 (C (t 36)
 (S (R [g 2 (.mv (b false))])
 Q)
 Z))
 (S (S (R [g 37 (.faddr 2 (t 1)),
 g 38 (.load 1 false (t 37)),
 g 39 (.call .iso f_sl_ContainsFunc_int_int [(t 38), (.c (.fn f_proof_Right_1 [] []))])])
 (C (t 39)
 (S (R [g 2 (.mv (b false))])
 Q)
 Z))
 (S (D [] [g 40 (.faddr 2 (t 1)),
 g 41 (.load 1 false (t 40)),
 g 42 (.call .iso f_lit_Sort [(t 41)]),
 g 43 (.faddr 2 (t 1)),
 g 44 (.load 1 false (t 43)),
 g 45 (.call .iso f_sl_Equal_int_int [(t 42), (t 44)]),
 g 2 (.mv (t 45))])
 Q))))⟩
def pf_axiom_Right : PF := ⟨2, [.tmp 4],
 (S (R [g 2 (.box 20 (t 0)),
 g 3 (.box 3 (t 1)),
 g 4 (.mv (i 0))])
 (S (K 0
 (S (R [g 6 (.load 20 true (t 2)),
 g 7 (.call .iso f_reason_Right [(t 6)]),
 g 8 (.un .not (t 7)),
 g 5 (.mv (t 8))])
 (C (t 5)
 (S (R [g 4 (.mv (i 20))])
 Q)
 (S (D [] [g 10 (.load 20 true (t 2)),
 g 11 (.call .iso f_axiom_open [(t 10)]),
 g 12 (.load 3 true (t 3)),
 g 13 (.call .iso f_axiom_book_is [(t 11), (t 12)]),
 g 14 (.un .not (t 13)),
 g 9 (.mv (t 14))])
 (C (t 9)
 (S (R [g 4 (.mv (i 21))])
 Q)
 Z)))))
 (S (R [g 4 (.mv (i 0))])
 Q)))⟩
def pf_unit_Unit_Add : PF := ⟨2, [.tmp 4],
 (S (R [g 4 (.mv (b false))])
 (S (S (R [g 5 (.mv (t 0)),
 g 6 (.eq .ptr false (t 5) (.c (.nilp)))])
 (C (t 6)
 (S (R [g 4 (.mv (b false))])
 Q)
 Z))
 (S (R [g 7 (.mv (t 0)),
 g 8 (.call .inl f_unit_Unit_ready [(t 7)])])
 (S (R [g 9 (.mv (t 0)),
 g 10 (.mv (t 1)),
 g 11 (.call .inl f_unit_Unit_put [(t 9), (t 10)])])
 (S (S (R [g 12 (.mv (t 0)),
 g 13 (.nilCheck (t 12)),
 g 14 (.faddr 6 (t 13)),
 g 15 (.load 1 false (t 14)),
 g 16 (.un .not (t 15))])
 (C (t 16)
 (R [g 17 (.mv (t 0)),
 g 18 (.mv (t 0)),
 g 19 (.nilCheck (t 18)),
 g 20 (.faddr 0 (t 19)),
 g 21 (.load 1 false (t 20)),
 g 22 (.len 1 (t 21)),
 g 23 (.bin .sub (t 22) (i 1)),
 g 24 (.call .inl f_unit_Unit_look [(t 17), (t 23)])])
 Z))
 (S (R [g 25 (.mv (t 0)),
 g 26 (.nilCheck (t 25)),
 g 27 (.faddr 6 (t 26)),
 g 28 (.load 1 false (t 27)),
 g 29 (.un .not (t 28)),
 g 4 (.mv (t 29))])
 Q))))))⟩
def pf_ref11_Rows : PF := ⟨2, [.tmp 4],
 (S (R [g 4 (.mv (b false))])
 (S (S (R [g 6 (.mv (t 0)),
 g 7 (.len 1 (t 6)),
 g 8 (.mv (t 1)),
 g 9 (.len 1 (t 8)),
 g 10 (.bin .neq (t 7) (t 9))])
 (C (t 10)
 (S (R [g 4 (.mv (b false))])
 Q)
 Z))
 (S (S (R [g 5 (.mv (i 0))])
 (K 0
 (L [0, 1, 5]
 (S (S (R [g 11 (.mv (t 5)),
 g 12 (.mv (t 0)),
 g 13 (.len 1 (t 12)),
 g 14 (.bin .lss (t 11) (t 13))])
 (C (t 14)
 Z
 (X 0)))
 (S (K 1
 (S (D [] [g 17 (.mv (t 0)),
 g 18 (.mv (t 5)),
 g 19 (.iaddr 4 (t 17) (t 18)),
 g 20 (.load 4 true (t 19)),
 g 21 (.mv (t 1)),
 g 22 (.mv (t 5)),
 g 23 (.iaddr 4 (t 21) (t 22)),
 g 24 (.load 4 true (t 23)),
 g 25 (.eq (.st [.i, .i, .i, .i]) true (t 20) (t 24))])
 (C (t 25)
 (S (R [g 4 (.mv (b false))])
 Q)
 Z)))
 (R [g 15 (.mv (t 5)),
 g 16 (.bin .add (t 15) (i 1)),
 g 5 (.mv (t 16))]))))))
 (S (R [g 4 (.mv (b true))])
 Q))))⟩
def pf_room_Name : PF := ⟨1, [.tmp 2],
 (S (R [g 2 (.mv (b false))])
 (S (R [g 3 (.mv (t 0)),
 g 4 (.bin .neq (t 3) (.c (.str ⟨#[]⟩))),
 g 5 (.mv (t 4)),
 gg 6 5 true (.mv (t 0)),
 gg 7 5 true (.len 0 (t 6)),
 gg 8 5 true (.bin .leq (t 7) (i 24)),
 g 9 (.pick (t 5) (t 8) (b false)),
 g 2 (.mv (t 9))])
 Q))⟩
def pf_when_RightGrid : PF := ⟨1, [.tmp 2],
 (S (R [g 1 (.box 3 (t 0)),
 g 2 (.mv (b false))])
 (S (R [g 3 (.faddr 0 (t 1)),
 g 4 (.load 1 false (t 3)),
 g 5 (.call .iso f_when_within [(t 4), (i 1), (i 20)]),
 g 6 (.mv (t 5)),
 gg 7 6 true (.faddr 1 (t 1)),
 gg 8 6 true (.load 1 false (t 7)),
 gg 9 6 true (.call .iso f_when_within [(t 8), (i 1), (i 7)]),
 g 10 (.pick (t 6) (t 9) (b false)),
 g 11 (.mv (t 10)),
 gg 12 11 true (.faddr 2 (t 1)),
 gg 13 11 true (.load 1 false (t 12)),
 gg 14 11 true (.call .iso f_when_within [(t 13), (i 1), (i 96)]),
 g 15 (.pick (t 11) (t 14) (b false)),
 g 2 (.mv (t 15))])
 Q))⟩
def pf_problem_bad_Room : PF := ⟨4, [.tmp 8, .tmp 9],
 (S (R [g 8 (.mv (i 0)),
 g 9 (.mv (b false))])
 (S (R [g 13 (.mkmap),
 g 10 (.mv (t 13))])
 (S (S (R [g 14 (.mv (t 0)),
 g 15 (.len 1 (t 14)),
 g 16 (.mv (i 0))])
 (K 0
 (L [1, 2, 3, 10, 14, 15, 16]
 (S (R [g 17 (.bin .lss (t 16) (t 15))])
 (S (C (t 17)
 Z
 (X 0))
 (S (K 1
 (S (R [g 18 (.mv (t 16)),
 g 19 (.iaddr 4 (t 14) (t 16)),
 g 20 (.load 4 true (t 19)),
 g 12 (.alloc (.agg [.str ⟨#[]⟩, i64 0, .int .u16 (0), nilsl])),
 g 11 (.mv (t 18)),
 u (.store 4 (t 12) (t 20))])
 (S (S (R [g 21 (.mv (t 11)),
 g 22 (.mv (t 1)),
 g 23 (.bin .eql (t 21) (t 22))])
 (C (t 23)
 (S (R [g 24 (.mv (t 11)),
 g 8 (.mv (t 24)),
 g 9 (.mv (b true))])
 Q)
 Z))
 (S (S (R [g 25 (.mv (t 3)),
 g 26 (.load 4 true (t 12)),
 g 27 (.callv .iso (t 25) [(t 26)]),
 g 28 (.un .not (t 27)),
 g 29 (.mv (t 28)),
 gg 30 29 false (.mv (t 2)),
 gg 31 29 false (.eq .fn true (t 30) (.c (.nilf))),
 gg 32 29 false (.mv (t 31)),
 gg 33 32 true (.mv (t 10)),
 gg 34 32 true (.mv (t 2)),
 gg 35 32 true (.load 4 true (t 12)),
 gg 36 32 true (.callv .iso (t 34) [(t 35)]),
 gg 37 32 true (.look (.sc .s) false (.bool false) (t 33) (t 36)),
 gg 38 29 false (.pick (t 32) (t 37) (b false)),
 g 39 (.pick (t 29) (b true) (t 38))])
 (C (t 39)
 (S (R [g 40 (.mv (t 11)),
 g 8 (.mv (t 40)),
 g 9 (.mv (b true))])
 Q)
 Z))
 (S (R [g 41 (.mv (t 2)),
 g 42 (.eq .fn true (t 41) (.c (.nilf)))])
 (C (t 42)
 (R [g 43 (.mv (t 10)),
 g 44 (.mv (t 2)),
 g 45 (.load 4 true (t 12)),
 g 46 (.callv .iso (t 44) [(t 45)]),
 u (.mupd (.sc .s) (t 43) (t 46) (b true))])
 Z))))))
 (R [g 47 (.bin .add (t 16) (i 1)),
 g 16 (.mv (t 47))])))))))
 (S (R [g 8 (.mv (i 0)),
 g 9 (.mv (b false))])
 Q))))⟩
def pf_room_RightWalk : PF := ⟨2, [.tmp 4],
 (S (R [g 4 (.mv (b false))])
 (S (S (R [g 11 (.mv (t 0)),
 g 12 (.bin .lss (t 11) (i 0)),
 g 13 (.mv (t 12)),
 gg 14 13 false (.mv (t 0)),
 gg 15 13 false (.bin .gtr (t 14) (i 24)),
 g 16 (.pick (t 13) (b true) (t 15)),
 g 17 (.mv (t 16)),
 gg 18 17 false (.mv (t 1)),
 gg 19 17 false (.len 1 (t 18)),
 gg 20 17 false (.mv (t 0)),
 gg 21 17 false (.bin .neq (t 19) (t 20)),
 g 22 (.pick (t 17) (b true) (t 21))])
 (C (t 22)
 (S (R [g 4 (.mv (b false))])
 Q)
 Z))
 (S (S (R [g 23 (.mv (t 1)),
 g 24 (.len 1 (t 23)),
 g 25 (.mv (i 0))])
 (K 0
 (L [0, 1, 23, 24, 25]
 (S (R [g 26 (.bin .lss (t 25) (t 24))])
 (S (C (t 26)
 Z
 (X 0))
 (S (K 1
 (S (R [g 27 (.iaddr 1 (t 23) (t 25)),
 g 28 (.load 1 false (t 27)),
 g 6 (.mv (t 28))])
 (S (R [g 29 (.mv (t 6)),
 g 30 (.len 1 (t 29)),
 g 31 (.mv (t 0)),
 g 32 (.bin .neq (t 30) (t 31))])
 (C (t 32)
 (S (R [g 4 (.mv (b false))])
 Q)
 Z))))
 (R [g 33 (.bin .add (t 25) (i 1)),
 g 25 (.mv (t 33))])))))))
 (S (S (R [g 34 (.mv (t 1)),
 g 35 (.len 1 (t 34)),
 g 36 (.mv (i 0))])
 (K 2
 (L [1, 34, 35, 36]
 (S (R [g 37 (.bin .lss (t 36) (t 35))])
 (S (C (t 37)
 Z
 (X 2))
 (S (K 3
 (S (R [g 38 (.mv (t 36)),
 g 39 (.iaddr 1 (t 34) (t 36)),
 g 40 (.load 1 false (t 39)),
 g 7 (.mv (t 38)),
 g 8 (.mv (t 40))])
 (S (R [g 41 (.mv (t 8)),
 g 42 (.len 1 (t 41)),
 g 43 (.mv (i 0))])
 (K 4
 (L [1, 7, 34, 35, 36, 41, 42, 43]
 (S (R [g 44 (.bin .lss (t 43) (t 42))])
 (S (C (t 44)
 Z
 (X 4))
 (S (K 5
 (S (R [g 45 (.mv (t 43)),
 g 46 (.iaddr 1 (t 41) (t 43)),
 g 47 (.load 1 false (t 46)),
 g 9 (.mv (t 45)),
 g 10 (.mv (t 47))])
 (S (R [g 48 (.mv (t 10)),
 g 49 (.bin .lss (t 48) (i 0)),
 g 50 (.mv (t 49)),
 gg 51 50 false (.mv (t 10)),
 gg 52 50 false (.bin .gtr (t 51) (i 96)),
 g 53 (.pick (t 50) (b true) (t 52)),
 g 54 (.mv (t 53)),
 gg 55 54 false (.mv (t 10)),
 gg 56 54 false (.mv (t 1)),
 gg 57 54 false (.mv (t 9)),
 gg 58 54 false (.iaddr 1 (t 56) (t 57)),
 gg 59 54 false (.load 1 false (t 58)),
 gg 60 54 false (.mv (t 7)),
 gg 61 54 false (.iaddr 1 (t 59) (t 60)),
 gg 62 54 false (.load 1 false (t 61)),
 gg 63 54 false (.bin .neq (t 55) (t 62)),
 g 64 (.pick (t 54) (b true) (t 63)),
 g 65 (.mv (t 64)),
 gg 66 65 false (.mv (t 7)),
 gg 67 65 false (.mv (t 9)),
 gg 68 65 false (.bin .eql (t 66) (t 67)),
 gg 69 65 false (.mv (t 68)),
 gg 70 69 true (.mv (t 10)),
 gg 71 69 true (.bin .gtr (t 70) (i 0)),
 gg 72 65 false (.pick (t 69) (t 71) (b false)),
 g 73 (.pick (t 65) (b true) (t 72))])
 (C (t 73)
 (S (R [g 4 (.mv (b false))])
 Q)
 Z))))
 (R [g 74 (.bin .add (t 43) (i 1)),
 g 43 (.mv (t 74))])))))))))
 (R [g 75 (.bin .add (t 36) (i 1)),
 g 36 (.mv (t 75))])))))))
 (S (R [g 4 (.mv (b true))])
 Q)))))⟩
def pf_problem_bad_Person : PF := ⟨4, [.tmp 8, .tmp 9],
 (S (R [g 8 (.mv (i 0)),
 g 9 (.mv (b false))])
 (S (R [g 13 (.mkmap),
 g 10 (.mv (t 13))])
 (S (S (R [g 14 (.mv (t 0)),
 g 15 (.len 1 (t 14)),
 g 16 (.mv (i 0))])
 (K 0
 (L [1, 2, 3, 10, 14, 15, 16]
 (S (R [g 17 (.bin .lss (t 16) (t 15))])
 (S (C (t 17)
 Z
 (X 0))
 (S (K 1
 (S (R [g 18 (.mv (t 16)),
 g 19 (.iaddr 2 (t 14) (t 16)),
 g 20 (.load 2 true (t 19)),
 g 12 (.alloc (.agg [.str ⟨#[]⟩, nilsl])),
 g 11 (.mv (t 18)),
 u (.store 2 (t 12) (t 20))])
 (S (S (R [g 21 (.mv (t 11)),
 g 22 (.mv (t 1)),
 g 23 (.bin .eql (t 21) (t 22))])
 (C (t 23)
 (S (R [g 24 (.mv (t 11)),
 g 8 (.mv (t 24)),
 g 9 (.mv (b true))])
 Q)
 Z))
 (S (S (R [g 25 (.mv (t 3)),
 g 26 (.load 2 true (t 12)),
 g 27 (.callv .iso (t 25) [(t 26)]),
 g 28 (.un .not (t 27)),
 g 29 (.mv (t 28)),
 gg 30 29 false (.mv (t 2)),
 gg 31 29 false (.eq .fn true (t 30) (.c (.nilf))),
 gg 32 29 false (.mv (t 31)),
 gg 33 32 true (.mv (t 10)),
 gg 34 32 true (.mv (t 2)),
 gg 35 32 true (.load 2 true (t 12)),
 gg 36 32 true (.callv .iso (t 34) [(t 35)]),
 gg 37 32 true (.look (.sc .s) false (.bool false) (t 33) (t 36)),
 gg 38 29 false (.pick (t 32) (t 37) (b false)),
 g 39 (.pick (t 29) (b true) (t 38))])
 (C (t 39)
 (S (R [g 40 (.mv (t 11)),
 g 8 (.mv (t 40)),
 g 9 (.mv (b true))])
 Q)
 Z))
 (S (R [g 41 (.mv (t 2)),
 g 42 (.eq .fn true (t 41) (.c (.nilf)))])
 (C (t 42)
 (R [g 43 (.mv (t 10)),
 g 44 (.mv (t 2)),
 g 45 (.load 2 true (t 12)),
 g 46 (.callv .iso (t 44) [(t 45)]),
 u (.mupd (.sc .s) (t 43) (t 46) (b true))])
 Z))))))
 (R [g 47 (.bin .add (t 16) (i 1)),
 g 16 (.mv (t 47))])))))))
 (S (R [g 8 (.mv (i 0)),
 g 9 (.mv (b false))])
 Q))))⟩
def pf_problem_bad_Class : PF := ⟨4, [.tmp 8, .tmp 9],
 (S (R [g 8 (.mv (i 0)),
 g 9 (.mv (b false))])
 (S (R [g 13 (.mkmap),
 g 10 (.mv (t 13))])
 (S (S (R [g 14 (.mv (t 0)),
 g 15 (.len 1 (t 14)),
 g 16 (.mv (i 0))])
 (K 0
 (L [1, 2, 3, 10, 14, 15, 16]
 (S (R [g 17 (.bin .lss (t 16) (t 15))])
 (S (C (t 17)
 Z
 (X 0))
 (S (K 1
 (S (R [g 18 (.mv (t 16)),
 g 19 (.iaddr 7 (t 14) (t 16)),
 g 20 (.load 7 true (t 19)),
 g 12 (.alloc (.agg [.str ⟨#[]⟩, i64 0, .int .u16 (0), nilsl, nilsl, nilsl, i64 0])),
 g 11 (.mv (t 18)),
 u (.store 7 (t 12) (t 20))])
 (S (S (R [g 21 (.mv (t 11)),
 g 22 (.mv (t 1)),
 g 23 (.bin .eql (t 21) (t 22))])
 (C (t 23)
 (S (R [g 24 (.mv (t 11)),
 g 8 (.mv (t 24)),
 g 9 (.mv (b true))])
 Q)
 Z))
 (S (S (R [g 25 (.mv (t 3)),
 g 26 (.load 7 true (t 12)),
 g 27 (.callv .iso (t 25) [(t 26)]),
 g 28 (.un .not (t 27)),
 g 29 (.mv (t 28)),
 gg 30 29 false (.mv (t 2)),
 gg 31 29 false (.eq .fn true (t 30) (.c (.nilf))),
 gg 32 29 false (.mv (t 31)),
 gg 33 32 true (.mv (t 10)),
 gg 34 32 true (.mv (t 2)),
 gg 35 32 true (.load 7 true (t 12)),
 gg 36 32 true (.callv .iso (t 34) [(t 35)]),
 gg 37 32 true (.look (.sc .s) false (.bool false) (t 33) (t 36)),
 gg 38 29 false (.pick (t 32) (t 37) (b false)),
 g 39 (.pick (t 29) (b true) (t 38))])
 (C (t 39)
 (S (R [g 40 (.mv (t 11)),
 g 8 (.mv (t 40)),
 g 9 (.mv (b true))])
 Q)
 Z))
 (S (R [g 41 (.mv (t 2)),
 g 42 (.eq .fn true (t 41) (.c (.nilf)))])
 (C (t 42)
 (R [g 43 (.mv (t 10)),
 g 44 (.mv (t 2)),
 g 45 (.load 7 true (t 12)),
 g 46 (.callv .iso (t 44) [(t 45)]),
 u (.mupd (.sc .s) (t 43) (t 46) (b true))])
 Z))))))
 (R [g 47 (.bin .add (t 16) (i 1)),
 g 16 (.mv (t 47))])))))))
 (S (R [g 8 (.mv (i 0)),
 g 9 (.mv (b false))])
 Q))))⟩
def pf_problem_className : PF := ⟨1, [.tmp 2],
 (S (R [g 1 (.box 7 (t 0)),
 g 2 (.mv (.c (.str ⟨#[]⟩)))])
 (S (R [g 3 (.faddr 0 (t 1)),
 g 4 (.load 1 false (t 3)),
 g 2 (.mv (t 4))])
 Q))⟩
def pf_problem_Check_3 : PF := ⟨1, [.tmp 3],
 (S (R [g 2 (.box 7 (t 0)),
 g 3 (.mv (b false))])
 (S (R [g 4 (.faddr 1 (t 1)),
 g 5 (.load 3 true (t 4)),
 g 6 (.faddr 4 (t 1)),
 g 7 (.load 1 false (t 6)),
 g 8 (.len 1 (t 7)),
 g 9 (.faddr 6 (t 1)),
 g 10 (.load 1 false (t 9)),
 g 11 (.len 1 (t 10)),
 g 12 (.faddr 7 (t 1)),
 g 13 (.load 1 false (t 12)),
 g 14 (.len 1 (t 13)),
 g 15 (.load 7 true (t 2)),
 g 16 (.call .iso f_class_Right [(t 5), (t 8), (t 11), (t 14), (t 15)]),
 g 3 (.mv (t 16))])
 Q))⟩
def pf_class_Right : PF := ⟨5, [.tmp 10],
 (S (R [g 5 (.box 3 (t 0)),
 g 9 (.box 7 (t 4)),
 g 10 (.mv (b false))])
 (S (S (R [g 11 (.load 3 true (t 5)),
 g 12 (.call .iso f_when_RightGrid [(t 11)]),
 g 13 (.un .not (t 12)),
 g 14 (.mv (t 13)),
 gg 15 14 false (.faddr 0 (t 9)),
 gg 16 14 false (.load 1 false (t 15)),
 gg 17 14 false (.call .iso f_room_Name [(t 16)]),
 gg 18 14 false (.un .not (t 17)),
 g 19 (.pick (t 14) (b true) (t 18)),
 g 20 (.mv (t 19)),
 gg 21 20 false (.faddr 1 (t 9)),
 gg 22 20 false (.load 1 false (t 21)),
 gg 23 20 false (.bin .lss (t 22) (i 0)),
 g 24 (.pick (t 20) (b true) (t 23)),
 g 25 (.mv (t 24)),
 gg 26 25 false (.faddr 1 (t 9)),
 gg 27 25 false (.load 1 false (t 26)),
 gg 28 25 false (.bin .gtr (t 27) (i 10000)),
 g 29 (.pick (t 25) (b true) (t 28)),
 g 30 (.mv (t 29)),
 gg 31 30 false (.faddr 6 (t 9)),
 gg 32 30 false (.load 1 false (t 31)),
 gg 33 30 false (.bin .lss (t 32) (i (-1))),
 g 34 (.pick (t 30) (b true) (t 33)),
 g 35 (.mv (t 34)),
 gg 36 35 false (.faddr 6 (t 9)),
 gg 37 35 false (.load 1 false (t 36)),
 gg 38 35 false (.mv (t 3)),
 gg 39 35 false (.bin .geq (t 37) (t 38)),
 g 40 (.pick (t 35) (b true) (t 39))])
 (C (t 40)
 (S (R [g 10 (.mv (b false))])
 Q)
 Z))
 (S (R [g 41 (.faddr 3 (t 9)),
 g 42 (.load 1 false (t 41)),
 g 43 (.mv (t 2)),
 g 44 (.call .iso f_class_folk [(t 42), (t 43)]),
 g 45 (.mv (t 44)),
 gg 46 45 true (.load 3 true (t 5)),
 gg 47 45 true (.faddr 4 (t 9)),
 gg 48 45 true (.load 1 false (t 47)),
 gg 49 45 true (.call .iso f_class_times [(t 46), (t 48)]),
 g 50 (.pick (t 45) (t 49) (b false)),
 g 51 (.mv (t 50)),
 gg 52 51 true (.mv (t 1)),
 gg 53 51 true (.faddr 5 (t 9)),
 gg 54 51 true (.load 1 false (t 53)),
 gg 55 51 true (.call .iso f_class_places [(t 52), (t 54)]),
 g 56 (.pick (t 51) (t 55) (b false)),
 g 10 (.mv (t 56))])
 Q)))⟩
def pf_problem_bad_Course : PF := ⟨4, [.tmp 8, .tmp 9],
 (S (R [g 8 (.mv (i 0)),
 g 9 (.mv (b false))])
 (S (R [g 13 (.mkmap),
 g 10 (.mv (t 13))])
 (S (S (R [g 14 (.mv (t 0)),
 g 15 (.len 1 (t 14)),
 g 16 (.mv (i 0))])
 (K 0
 (L [1, 2, 3, 10, 14, 15, 16]
 (S (R [g 17 (.bin .lss (t 16) (t 15))])
 (S (C (t 17)
 Z
 (X 0))
 (S (K 1
 (S (R [g 18 (.mv (t 16)),
 g 19 (.iaddr 2 (t 14) (t 16)),
 g 20 (.load 2 true (t 19)),
 g 12 (.alloc (.agg [.str ⟨#[]⟩, nilsl])),
 g 11 (.mv (t 18)),
 u (.store 2 (t 12) (t 20))])
 (S (S (R [g 21 (.mv (t 11)),
 g 22 (.mv (t 1)),
 g 23 (.bin .eql (t 21) (t 22))])
 (C (t 23)
 (S (R [g 24 (.mv (t 11)),
 g 8 (.mv (t 24)),
 g 9 (.mv (b true))])
 Q)
 Z))
 (S (S (R [g 25 (.mv (t 3)),
 g 26 (.load 2 true (t 12)),
 g 27 (.callv .iso (t 25) [(t 26)]),
 g 28 (.un .not (t 27)),
 g 29 (.mv (t 28)),
 gg 30 29 false (.mv (t 2)),
 gg 31 29 false (.eq .fn true (t 30) (.c (.nilf))),
 gg 32 29 false (.mv (t 31)),
 gg 33 32 true (.mv (t 10)),
 gg 34 32 true (.mv (t 2)),
 gg 35 32 true (.load 2 true (t 12)),
 gg 36 32 true (.callv .iso (t 34) [(t 35)]),
 gg 37 32 true (.look (.sc .s) false (.bool false) (t 33) (t 36)),
 gg 38 29 false (.pick (t 32) (t 37) (b false)),
 g 39 (.pick (t 29) (b true) (t 38))])
 (C (t 39)
 (S (R [g 40 (.mv (t 11)),
 g 8 (.mv (t 40)),
 g 9 (.mv (b true))])
 Q)
 Z))
 (S (R [g 41 (.mv (t 2)),
 g 42 (.eq .fn true (t 41) (.c (.nilf)))])
 (C (t 42)
 (R [g 43 (.mv (t 10)),
 g 44 (.mv (t 2)),
 g 45 (.load 2 true (t 12)),
 g 46 (.callv .iso (t 44) [(t 45)]),
 u (.mupd (.sc .s) (t 43) (t 46) (b true))])
 Z))))))
 (R [g 47 (.bin .add (t 16) (i 1)),
 g 16 (.mv (t 47))])))))))
 (S (R [g 8 (.mv (i 0)),
 g 9 (.mv (b false))])
 Q))))⟩
def pf_problem_bad_Student : PF := ⟨4, [.tmp 8, .tmp 9],
 (S (R [g 8 (.mv (i 0)),
 g 9 (.mv (b false))])
 (S (R [g 13 (.mkmap),
 g 10 (.mv (t 13))])
 (S (S (R [g 14 (.mv (t 0)),
 g 15 (.len 1 (t 14)),
 g 16 (.mv (i 0))])
 (K 0
 (L [1, 2, 3, 10, 14, 15, 16]
 (S (R [g 17 (.bin .lss (t 16) (t 15))])
 (S (C (t 17)
 Z
 (X 0))
 (S (K 1
 (S (R [g 18 (.mv (t 16)),
 g 19 (.iaddr 2 (t 14) (t 16)),
 g 20 (.load 2 true (t 19)),
 g 12 (.alloc (.agg [.str ⟨#[]⟩, nilsl])),
 g 11 (.mv (t 18)),
 u (.store 2 (t 12) (t 20))])
 (S (S (R [g 21 (.mv (t 11)),
 g 22 (.mv (t 1)),
 g 23 (.bin .eql (t 21) (t 22))])
 (C (t 23)
 (S (R [g 24 (.mv (t 11)),
 g 8 (.mv (t 24)),
 g 9 (.mv (b true))])
 Q)
 Z))
 (S (S (R [g 25 (.mv (t 3)),
 g 26 (.load 2 true (t 12)),
 g 27 (.callv .iso (t 25) [(t 26)]),
 g 28 (.un .not (t 27)),
 g 29 (.mv (t 28)),
 gg 30 29 false (.mv (t 2)),
 gg 31 29 false (.eq .fn true (t 30) (.c (.nilf))),
 gg 32 29 false (.mv (t 31)),
 gg 33 32 true (.mv (t 10)),
 gg 34 32 true (.mv (t 2)),
 gg 35 32 true (.load 2 true (t 12)),
 gg 36 32 true (.callv .iso (t 34) [(t 35)]),
 gg 37 32 true (.look (.sc .s) false (.bool false) (t 33) (t 36)),
 gg 38 29 false (.pick (t 32) (t 37) (b false)),
 g 39 (.pick (t 29) (b true) (t 38))])
 (C (t 39)
 (S (R [g 40 (.mv (t 11)),
 g 8 (.mv (t 40)),
 g 9 (.mv (b true))])
 Q)
 Z))
 (S (R [g 41 (.mv (t 2)),
 g 42 (.eq .fn true (t 41) (.c (.nilf)))])
 (C (t 42)
 (R [g 43 (.mv (t 10)),
 g 44 (.mv (t 2)),
 g 45 (.load 2 true (t 12)),
 g 46 (.callv .iso (t 44) [(t 45)]),
 u (.mupd (.sc .s) (t 43) (t 46) (b true))])
 Z))))))
 (R [g 47 (.bin .add (t 16) (i 1)),
 g 16 (.mv (t 47))])))))))
 (S (R [g 8 (.mv (i 0)),
 g 9 (.mv (b false))])
 Q))))⟩
def pf_problem_bad_Rule : PF := ⟨4, [.tmp 8, .tmp 9],
 (S (R [g 8 (.mv (i 0)),
 g 9 (.mv (b false))])
 (S (R [g 13 (.mkmap),
 g 10 (.mv (t 13))])
 (S (S (R [g 14 (.mv (t 0)),
 g 15 (.len 1 (t 14)),
 g 16 (.mv (i 0))])
 (K 0
 (L [1, 2, 3, 10, 14, 15, 16]
 (S (R [g 17 (.bin .lss (t 16) (t 15))])
 (S (C (t 17)
 Z
 (X 0))
 (S (K 1
 (S (R [g 18 (.mv (t 16)),
 g 19 (.iaddr 6 (t 14) (t 16)),
 g 20 (.load 6 true (t 19)),
 g 12 (.alloc (.agg [i64 0, nilsl, i64 0, i64 0, .bool false, i64 0])),
 g 11 (.mv (t 18)),
 u (.store 6 (t 12) (t 20))])
 (S (S (R [g 21 (.mv (t 11)),
 g 22 (.mv (t 1)),
 g 23 (.bin .eql (t 21) (t 22))])
 (C (t 23)
 (S (R [g 24 (.mv (t 11)),
 g 8 (.mv (t 24)),
 g 9 (.mv (b true))])
 Q)
 Z))
 (S (S (R [g 25 (.mv (t 3)),
 g 26 (.load 6 true (t 12)),
 g 27 (.callv .iso (t 25) [(t 26)]),
 g 28 (.un .not (t 27)),
 g 29 (.mv (t 28)),
 gg 30 29 false (.mv (t 2)),
 gg 31 29 false (.eq .fn true (t 30) (.c (.nilf))),
 gg 32 29 false (.mv (t 31)),
 gg 33 32 true (.mv (t 10)),
 gg 34 32 true (.mv (t 2)),
 gg 35 32 true (.load 6 true (t 12)),
 gg 36 32 true (.callv .iso (t 34) [(t 35)]),
 gg 37 32 true (.look (.sc .s) false (.bool false) (t 33) (t 36)),
 gg 38 29 false (.pick (t 32) (t 37) (b false)),
 g 39 (.pick (t 29) (b true) (t 38))])
 (C (t 39)
 (S (R [g 40 (.mv (t 11)),
 g 8 (.mv (t 40)),
 g 9 (.mv (b true))])
 Q)
 Z))
 (S (R [g 41 (.mv (t 2)),
 g 42 (.eq .fn true (t 41) (.c (.nilf)))])
 (C (t 42)
 (R [g 43 (.mv (t 10)),
 g 44 (.mv (t 2)),
 g 45 (.load 6 true (t 12)),
 g 46 (.callv .iso (t 44) [(t 45)]),
 u (.mupd (.sc .s) (t 43) (t 46) (b true))])
 Z))))))
 (R [g 47 (.bin .add (t 16) (i 1)),
 g 16 (.mv (t 47))])))))))
 (S (R [g 8 (.mv (i 0)),
 g 9 (.mv (b false))])
 Q))))⟩
def pf_problem_cost : PF := ⟨1, [.tmp 2],
 (S (R [g 2 (.mv (b false))])
 (S (R [g 3 (.mv (t 0)),
 g 4 (.bin .geq (t 3) (i 0)),
 g 5 (.mv (t 4)),
 gg 6 5 true (.mv (t 0)),
 gg 7 5 true (.bin .leq (t 6) (i 1000)),
 g 8 (.pick (t 5) (t 7) (b false)),
 g 2 (.mv (t 8))])
 Q))⟩
def pf_sl_IndexFunc_int_int : PF := ⟨2, [.tmp 4],
 (S (R [g 4 (.mv (i 0))])
 (S (S (R [g 6 (.mv (t 0)),
 g 7 (.len 1 (t 6)),
 g 8 (.mv (i 0))])
 (K 0
 (L [0, 1, 7, 8]
 (S (R [g 9 (.bin .lss (t 8) (t 7))])
 (S (C (t 9)
 Z
 (X 0))
 (S (K 1
 (S (R [g 10 (.mv (t 8)),
 g 5 (.mv (t 10))])
 (S (R [g 11 (.mv (t 1)),
 g 12 (.mv (t 0)),
 g 13 (.mv (t 5)),
 g 14 (.iaddr 1 (t 12) (t 13)),
 g 15 (.load 1 false (t 14)),
 g 16 (.callv .iso (t 11) [(t 15)])])
 (C (t 16)
 (S (R [g 17 (.mv (t 5)),
 g 4 (.mv (t 17))])
 Q)
 Z))))
 (R [g 18 (.bin .add (t 8) (i 1)),
 g 8 (.mv (t 18))])))))))
 (S (R [g 4 (.mv (i (-1)))])
 Q)))⟩
def pf_spring_state_hall : PF := ⟨1, [.cell 2 3 true, .tmp 3],
 (S (R [g 2 (.alloc (.agg [i64 0, i64 0, nilsl])),
 g 3 (.mv (b false))])
 (S (R [g 17 (.mv (t 0)),
 g 18 (.nilCheck (t 17)),
 g 19 (.faddr 20 (t 18)),
 g 20 (.faddr 1 (t 19)),
 g 21 (.load 3 true (t 20)),
 g 4 (.alloc (.agg [i64 0, i64 0, i64 0])),
 u (.store 3 (t 4) (t 21))])
 (S (R [g 22 (.mkmap),
 g 5 (.mv (t 22))])
 (S (S (R [g 23 (.mv (t 0)),
 g 24 (.nilCheck (t 23)),
 g 25 (.faddr 20 (t 24)),
 g 26 (.faddr 7 (t 25)),
 g 27 (.load 1 false (t 26)),
 g 28 (.len 1 (t 27)),
 g 29 (.mv (i 0))])
 (K 0
 (L [0, 2, 4, 5, 27, 28, 29]
 (S (R [g 30 (.bin .lss (t 29) (t 28))])
 (S (C (t 30)
 Z
 (X 0))
 (S (K 1
 (S (R [g 31 (.mv (t 29)),
 g 32 (.iaddr 7 (t 27) (t 29)),
 g 33 (.load 7 true (t 32)),
 g 7 (.alloc (.agg [.str ⟨#[]⟩, i64 0, .int .u16 (0), nilsl, nilsl, nilsl, i64 0])),
 g 6 (.mv (t 31)),
 u (.store 7 (t 7) (t 33))])
 (S (S (R [g 34 (.mv (t 0)),
 g 35 (.nilCheck (t 34)),
 g 36 (.faddr 35 (t 35)),
 g 37 (.load 1 false (t 36)),
 g 38 (.mv (t 6)),
 g 39 (.iaddr 2 (t 37) (t 38)),
 g 40 (.faddr 0 (t 39)),
 g 41 (.load 1 false (t 40)),
 g 42 (.bin .lss (t 41) (i 0)),
 g 43 (.mv (t 42)),
 gg 44 43 false (.faddr 5 (t 7)),
 gg 45 43 false (.load 1 false (t 44)),
 gg 46 43 false (.len 1 (t 45)),
 gg 47 43 false (.bin .eql (t 46) (i 0)),
 g 48 (.pick (t 43) (b true) (t 47))])
 (C (t 48)
 (X 1)
 Z))
 (S (D [] [g 49 (.load 3 true (t 4)),
 g 50 (.mv (t 0)),
 g 51 (.mv (t 6)),
 g 52 (.call .iso f_spring_state_of [(t 50), (t 51)]),
 g 53 (.call .iso f_when_Moments [(t 49), (t 52)]),
 g 54 (.len 1 (t 53)),
 g 55 (.mv (i 0))])
 (K 2
 (L [0, 2, 4, 5, 6, 27, 28, 29, 53, 54, 55]
 (S (R [g 56 (.bin .lss (t 55) (t 54))])
 (S (C (t 56)
 Z
 (X 2))
 (S (K 3
 (S (R [g 57 (.iaddr 1 (t 53) (t 55)),
 g 58 (.load 1 false (t 57)),
 g 9 (.mv (t 58))])
 (R [g 59 (.mv (t 5)),
 g 60 (.mv (t 9)),
 g 61 (.mv (t 5)),
 g 62 (.mv (t 9)),
 g 63 (.look (.sc .i) false (nilsl) (t 61) (t 62)),
 g 64 (.mv (t 6)),
 g 65 (.lits 1 1 (i64 0) [(0, (t 64))]),
 g 66 (.app 8 (i64 0) (t 63) (t 65)),
 u (.mupd (.sc .i) (t 59) (t 60) (t 66))])))
 (R [g 67 (.bin .add (t 55) (i 1)),
 g 55 (.mv (t 67))]))))))))))
 (R [g 68 (.bin .add (t 29) (i 1)),
 g 29 (.mv (t 68))])))))))
 (S (S (R [g 69 (.faddr 0 (t 4)),
 g 70 (.load 1 false (t 69)),
 g 71 (.faddr 1 (t 4)),
 g 72 (.load 1 false (t 71)),
 g 73 (.bin .mul (t 70) (t 72)),
 g 74 (.faddr 2 (t 4)),
 g 75 (.load 1 false (t 74)),
 g 76 (.bin .mul (t 73) (t 75)),
 g 77 (.mv (i 0))])
 (K 4
 (L [0, 2, 5, 76, 77]
 (S (R [g 78 (.bin .lss (t 77) (t 76))])
 (S (C (t 78)
 Z
 (X 4))
 (S (K 5
 (S (R [g 79 (.mv (t 77)),
 g 10 (.mv (t 79))])
 (S (R [g 80 (.mkmap),
 g 11 (.mv (t 80))])
 (S (R [g 12 (.mv (b true))])
 (S (S (R [g 81 (.mv (t 5)),
 g 82 (.mv (t 10)),
 g 83 (.look (.sc .i) false (nilsl) (t 81) (t 82)),
 g 84 (.len 1 (t 83)),
 g 85 (.mv (i 0))])
 (K 6
 (L [0, 2, 5, 10, 11, 12, 76, 77, 83, 84, 85]
 (S (R [g 86 (.bin .lss (t 85) (t 84))])
 (S (C (t 86)
 Z
 (X 6))
 (S (K 7
 (S (R [g 87 (.iaddr 1 (t 83) (t 85)),
 g 88 (.load 1 false (t 87)),
 g 14 (.mv (t 88))])
 (S (R [g 89 (.mv (t 0)),
 g 90 (.nilCheck (t 89)),
 g 91 (.faddr 20 (t 90)),
 g 92 (.faddr 7 (t 91)),
 g 93 (.load 1 false (t 92)),
 g 94 (.mv (t 14)),
 g 95 (.iaddr 7 (t 93) (t 94)),
 g 96 (.faddr 5 (t 95)),
 g 97 (.load 1 false (t 96)),
 g 98 (.len 1 (t 97)),
 g 99 (.mv (i 0))])
 (K 8
 (L [0, 2, 5, 10, 11, 12, 76, 77, 83, 84, 85, 97, 98, 99]
 (S (R [g 100 (.bin .lss (t 99) (t 98))])
 (S (C (t 100)
 Z
 (X 8))
 (S (K 9
 (S (R [g 101 (.iaddr 2 (t 97) (t 99)),
 g 102 (.load 2 true (t 101)),
 g 16 (.alloc (.agg [i64 0, i64 0])),
 u (.store 2 (t 16) (t 102))])
 (S (R [g 103 (.mv (t 11)),
 g 104 (.faddr 0 (t 16)),
 g 105 (.load 1 false (t 104)),
 u (.mupd (.sc .i) (t 103) (t 105) (b true))])
 (D [] [g 106 (.mv (t 12)),
 g 107 (.mv (t 106)),
 gg 108 107 true (.mv (t 0)),
 gg 109 107 true (.nilCheck (t 108)),
 gg 110 107 true (.faddr 0 (t 109)),
 gg 111 107 true (.load 20 true (t 110)),
 gg 112 107 true (.faddr 0 (t 16)),
 gg 113 107 true (.load 1 false (t 112)),
 gg 114 107 true (.build [i64 0, i64 0] [(0, 1, (i 2)), (1, 1, (t 113))]),
 gg 115 107 true (.call .iso f_reason_On [(t 111), (t 114)]),
 g 116 (.pick (t 107) (t 115) (b false)),
 g 12 (.mv (t 116))]))))
 (R [g 117 (.bin .add (t 99) (i 1)),
 g 99 (.mv (t 117))])))))))))
 (R [g 118 (.bin .add (t 85) (i 1)),
 g 85 (.mv (t 118))])))))))
 (S (R [g 119 (.mv (t 12)),
 g 120 (.mv (t 119)),
 gg 121 120 true (.mv (t 11)),
 gg 122 120 true (.len 2 (t 121)),
 gg 123 120 true (.mv (t 5)),
 gg 124 120 true (.mv (t 10)),
 gg 125 120 true (.look (.sc .i) false (nilsl) (t 123) (t 124)),
 gg 126 120 true (.len 1 (t 125)),
 gg 127 120 true (.bin .lss (t 122) (t 126)),
 g 128 (.pick (t 120) (t 127) (b false))])
 (C (t 128)
 (S (R [g 129 (.mv (t 10)),
 g 130 (.mv (t 0)),
 g 131 (.mv (t 5)),
 g 132 (.mv (t 10)),
 g 133 (.look (.sc .i) false (nilsl) (t 131) (t 132)),
 g 134 (.call .iso f_spring_state_times [(t 130), (t 133)]),
 g 135 (.call .iso f_lit_Sort [(t 134)]),
 g 136 (.build [i64 0, i64 0, nilsl] [(0, 1, (i 10)), (1, 1, (t 129)), (2, 1, (t 135))]),
 u (.store 3 (t 2) (t 136)),
 g 3 (.mv (b true))])
 Q)
 Z)))))))
 (R [g 137 (.bin .add (t 77) (i 1)),
 g 77 (.mv (t 137))])))))))
 (S (R [g 138 (.build [i64 0, i64 0, nilsl] []),
 u (.store 3 (t 2) (t 138)),
 g 3 (.mv (b false))])
 Q))))))⟩
def pf_lit_Map_Fixed : PF := ⟨2, [.tmp 4],
 (S (R [g 4 (.mv (.c (nilsl)))])
 (S (S (R [g 10 (.mv (t 0)),
 g 11 (.eq .ptr false (t 10) (.c (.nilp))),
 g 12 (.mv (t 11)),
 gg 13 12 false (.mv (t 0)),
 gg 14 12 false (.nilCheck (t 13)),
 gg 15 12 false (.faddr 0 (t 14)),
 gg 16 12 false (.load 15 true (t 15)),
 gg 17 12 false (.mv (t 1)),
 gg 18 12 false (.call .iso f_plan_Right [(t 16), (t 17)]),
 gg 19 12 false (.un .not (t 18)),
 g 20 (.pick (t 12) (b true) (t 19))])
 (C (t 20)
 (S (R [g 4 (.mv (.c (nilsl)))])
 Q)
 Z))
 (S (R [g 5 (.mv (.c (nilsl)))])
 (S (S (R [g 21 (.mv (t 1)),
 g 22 (.len 1 (t 21)),
 g 23 (.mv (i 0))])
 (K 0
 (L [0, 5, 21, 22, 23]
 (S (R [g 24 (.bin .lss (t 23) (t 22))])
 (S (C (t 24)
 Z
 (X 0))
 (S (K 1
 (S (R [g 25 (.mv (t 23)),
 g 26 (.iaddr 2 (t 21) (t 23)),
 g 27 (.load 2 true (t 26)),
 g 7 (.alloc (.agg [i64 0, i64 0])),
 g 6 (.mv (t 25)),
 u (.store 2 (t 7) (t 27))])
 (S (D [] [g 28 (.mv (t 0)),
 g 29 (.mv (t 6)),
 g 30 (.faddr 0 (t 7)),
 g 31 (.load 1 false (t 30)),
 g 32 (.call .iso f_lit_Map_Time [(t 28), (t 29), (t 31)]),
 g 33 (.mv (t 0)),
 g 34 (.mv (t 6)),
 g 35 (.faddr 1 (t 7)),
 g 36 (.load 1 false (t 35)),
 g 37 (.call .iso f_lit_Map_Place [(t 33), (t 34), (t 36)]),
 g 38 (.lits 1 2 (i64 0) [(0, (t 32)), (1, (t 37))]),
 g 39 (.len 1 (t 38)),
 g 40 (.mv (i 0))])
 (K 2
 (L [0, 5, 21, 22, 23, 38, 39, 40]
 (S (R [g 41 (.bin .lss (t 40) (t 39))])
 (S (C (t 41)
 Z
 (X 2))
 (S (K 3
 (S (R [g 42 (.iaddr 1 (t 38) (t 40)),
 g 43 (.load 1 false (t 42)),
 g 9 (.mv (t 43))])
 (S (R [g 44 (.mv (t 9)),
 g 45 (.bin .gtr (t 44) (i 0))])
 (C (t 45)
 (R [g 46 (.mv (t 5)),
 g 47 (.mv (t 9)),
 g 48 (.lits 1 1 (i64 0) [(0, (t 47))]),
 g 49 (.app 8 (i64 0) (t 46) (t 48)),
 g 5 (.mv (t 49))])
 Z))))
 (R [g 50 (.bin .add (t 40) (i 1)),
 g 40 (.mv (t 50))])))))))))
 (R [g 51 (.bin .add (t 23) (i 1)),
 g 23 (.mv (t 51))])))))))
 (S (R [g 52 (.mv (t 5)),
 g 4 (.mv (t 52))])
 Q)))))⟩
def pf_seek_key : PF := ⟨1, [.tmp 2],
 (S (R [g 1 (.box 3 (t 0)),
 g 2 (.mv (.c (.str ⟨#[]⟩)))])
 (S (D [] [g 6 (.faddr 0 (t 1)),
 g 7 (.load 1 false (t 6)),
 g 8 (.call .ext f_strconv_Itoa [(t 7)]),
 g 9 (.faddr 1 (t 1)),
 g 10 (.load 1 false (t 9)),
 g 11 (.call .ext f_strconv_Itoa [(t 10)]),
 g 12 (.lits 1 2 (.str ⟨#[]⟩) [(0, (t 8)), (1, (t 11))]),
 g 3 (.mv (t 12))])
 (S (S (R [g 13 (.faddr 2 (t 1)),
 g 14 (.load 1 false (t 13)),
 g 15 (.len 1 (t 14)),
 g 16 (.mv (i 0))])
 (K 0
 (L [3, 14, 15, 16]
 (S (R [g 17 (.bin .lss (t 16) (t 15))])
 (S (C (t 17)
 Z
 (X 0))
 (S (K 1
 (S (R [g 18 (.iaddr 1 (t 14) (t 16)),
 g 19 (.load 1 false (t 18)),
 g 5 (.mv (t 19))])
 (R [g 20 (.mv (t 3)),
 g 21 (.mv (t 5)),
 g 22 (.call .ext f_strconv_Itoa [(t 21)]),
 g 23 (.lits 1 1 (.str ⟨#[]⟩) [(0, (t 22))]),
 g 24 (.app 16 (.str ⟨#[]⟩) (t 20) (t 23)),
 g 3 (.mv (t 24))])))
 (R [g 25 (.bin .add (t 16) (i 1)),
 g 16 (.mv (t 25))])))))))
 (S (R [g 26 (.mv (t 3)),
 g 27 (.call .ext f_strings_Join [(t 26), (.c (.str ⟨#[32]⟩))]),
 g 2 (.mv (t 27))])
 Q))))⟩
def pf_seek_search_open : PF := ⟨2, [.tmp 4],
 (S (R [g 4 (.mv (.c (nilsl)))])
 (S (R [g 5 (.mv (.c (nilsl)))])
 (S (S (R [g 8 (.mv (t 0)),
 g 9 (.nilCheck (t 8)),
 g 10 (.faddr 0 (t 9)),
 g 11 (.faddr 0 (t 10)),
 g 12 (.faddr 7 (t 11)),
 g 13 (.load 1 false (t 12)),
 g 14 (.len 1 (t 13)),
 g 15 (.mv (i 0))])
 (K 0
 (L [1, 5, 13, 14, 15]
 (S (R [g 16 (.bin .lss (t 15) (t 14))])
 (S (C (t 16)
 Z
 (X 0))
 (S (K 1
 (S (R [g 17 (.mv (t 15)),
 g 18 (.iaddr 7 (t 13) (t 15)),
 g 19 (.load 7 true (t 18)),
 g 7 (.alloc (.agg [.str ⟨#[]⟩, i64 0, .int .u16 (0), nilsl, nilsl, nilsl, i64 0])),
 g 6 (.mv (t 17)),
 u (.store 7 (t 7) (t 19))])
 (S (S (R [g 20 (.mv (t 1)),
 g 21 (.mv (t 6)),
 g 22 (.iaddr 2 (t 20) (t 21)),
 g 23 (.faddr 0 (t 22)),
 g 24 (.load 1 false (t 23)),
 g 25 (.bin .lss (t 24) (i 0))])
 (C (t 25)
 (R [g 26 (.mv (t 5)),
 g 27 (.mv (t 6)),
 g 28 (.build [i64 0, .bool false] [(0, 1, (t 27)), (1, 1, (b false))]),
 g 29 (.lits 2 1 (.agg [i64 0, .bool false]) [(0, (t 28))]),
 g 30 (.app 16 (.agg [i64 0, .bool false]) (t 26) (t 29)),
 g 5 (.mv (t 30))])
 Z))
 (S (R [g 31 (.mv (t 1)),
 g 32 (.mv (t 6)),
 g 33 (.iaddr 2 (t 31) (t 32)),
 g 34 (.faddr 1 (t 33)),
 g 35 (.load 1 false (t 34)),
 g 36 (.bin .lss (t 35) (i 0)),
 g 37 (.mv (t 36)),
 gg 38 37 true (.faddr 5 (t 7)),
 gg 39 37 true (.load 1 false (t 38)),
 gg 40 37 true (.len 1 (t 39)),
 gg 41 37 true (.bin .gtr (t 40) (i 0)),
 g 42 (.pick (t 37) (t 41) (b false))])
 (C (t 42)
 (R [g 43 (.mv (t 5)),
 g 44 (.mv (t 6)),
 g 45 (.build [i64 0, .bool false] [(0, 1, (t 44)), (1, 1, (b true))]),
 g 46 (.lits 2 1 (.agg [i64 0, .bool false]) [(0, (t 45))]),
 g 47 (.app 16 (.agg [i64 0, .bool false]) (t 43) (t 46)),
 g 5 (.mv (t 47))])
 Z)))))
 (R [g 48 (.bin .add (t 15) (i 1)),
 g 15 (.mv (t 48))])))))))
 (S (R [g 49 (.mv (t 5)),
 g 4 (.mv (t 49))])
 Q))))⟩
def pf_spring_Free : PF := ⟨2, [.tmp 4],
 (S (R [g 2 (.box 20 (t 0)),
 g 4 (.mv (.c (nilsl)))])
 (S (R [g 16 (.load 20 true (t 2)),
 g 17 (.mv (t 1)),
 g 18 (.call .iso f_spring_open [(t 16), (t 17)]),
 g 15 (.mv (t 18)),
 g 19 (.ext (t 15) 0),
 g 20 (.ext (t 15) 1),
 g 5 (.mv (t 19)),
 g 6 (.mv (t 20))])
 (S (S (R [g 21 (.mv (t 6)),
 g 22 (.un .not (t 21))])
 (C (t 22)
 (S (R [g 4 (.mv (.c (nilsl)))])
 Q)
 Z))
 (S (R [g 7 (.mv (.c (nilsl)))])
 (S (S (R [g 8 (.mv (i 1))])
 (K 0
 (L [5, 7, 8]
 (S (S (R [g 23 (.mv (t 8)),
 g 24 (.mv (t 5)),
 g 25 (.nilCheck (t 24)),
 g 26 (.faddr 36 (t 25)),
 g 27 (.load 1 false (t 26)),
 g 28 (.call .iso f_lit_Map_Len [(t 27)]),
 g 29 (.bin .leq (t 23) (t 28))])
 (C (t 29)
 Z
 (X 0)))
 (S (K 1
 (S (R [g 33 (.mv (t 5)),
 g 34 (.nilCheck (t 33)),
 g 35 (.faddr 36 (t 34)),
 g 36 (.load 1 false (t 35)),
 g 37 (.mv (t 8)),
 g 38 (.call .iso f_lit_Map_What [(t 36), (t 37)]),
 g 32 (.mv (t 38)),
 g 39 (.ext (t 32) 0),
 g 40 (.ext (t 32) 1),
 g 9 (.alloc (.agg [i64 0, .bool false, i64 0])),
 u (.store 3 (t 9) (t 39)),
 g 10 (.mv (t 40))])
 (S (R [g 42 (.mv (t 5)),
 g 43 (.load 3 true (t 9)),
 g 44 (.call .iso f_spring_state_with [(t 42), (t 43)]),
 g 41 (.mv (t 44)),
 g 45 (.ext (t 41) 0),
 g 46 (.ext (t 41) 1),
 g 11 (.mv (t 45)),
 g 12 (.mv (t 46))])
 (S (S (R [g 47 (.mv (t 12)),
 g 48 (.un .not (t 47))])
 (C (t 48)
 (X 1)
 Z))
 (S (R [g 50 (.mv (t 11)),
 g 51 (.call .iso f_spring_state_broken [(t 50)]),
 g 49 (.mv (t 51)),
 g 52 (.ext (t 49) 0),
 g 53 (.ext (t 49) 1),
 g 13 (.alloc (.agg [i64 0, i64 0, nilsl])),
 u (.store 3 (t 13) (t 52)),
 g 14 (.mv (t 53))])
 (S (R [g 54 (.mv (t 14)),
 g 55 (.un .not (t 54))])
 (C (t 55)
 (R [g 56 (.mv (t 7)),
 g 57 (.load 3 true (t 9)),
 g 58 (.lits 3 1 (.agg [i64 0, .bool false, i64 0]) [(0, (t 57))]),
 g 59 (.app 24 (.agg [i64 0, .bool false, i64 0]) (t 56) (t 58)),
 g 7 (.mv (t 59))])
 Z)))))))
 (R [g 30 (.mv (t 8)),
 g 31 (.bin .add (t 30) (i 1)),
 g 8 (.mv (t 31))]))))))
 (S (R [g 60 (.mv (t 7)),
 g 4 (.mv (t 60))])
 Q))))))⟩
def pf_spring_Bars : PF := ⟨3, [.cell 6 3 true, .tmp 7],
 (S (R [g 3 (.box 20 (t 0)),
 g 5 (.box 3 (t 2)),
 g 6 (.alloc (.agg [i64 0, i64 0, nilsl])),
 g 7 (.mv (b false))])
 (S (R [g 12 (.load 20 true (t 3)),
 g 13 (.mv (t 1)),
 g 14 (.call .iso f_spring_open [(t 12), (t 13)]),
 g 11 (.mv (t 14)),
 g 15 (.ext (t 11) 0),
 g 16 (.ext (t 11) 1),
 g 8 (.mv (t 15)),
 g 9 (.mv (t 16))])
 (S (S (R [g 17 (.mv (t 9)),
 g 18 (.un .not (t 17))])
 (C (t 18)
 (S (R [g 19 (.build [i64 0, i64 0, nilsl] []),
 u (.store 3 (t 6) (t 19)),
 g 7 (.mv (b false))])
 Q)
 Z))
 (S (R [g 21 (.mv (t 8)),
 g 22 (.load 3 true (t 5)),
 g 23 (.call .iso f_spring_state_with [(t 21), (t 22)]),
 g 20 (.mv (t 23)),
 g 24 (.ext (t 20) 0),
 g 25 (.ext (t 20) 1),
 g 10 (.mv (t 24)),
 g 9 (.mv (t 25))])
 (S (S (R [g 26 (.mv (t 9)),
 g 27 (.un .not (t 26))])
 (C (t 27)
 (S (R [g 28 (.build [i64 0, i64 0, nilsl] []),
 u (.store 3 (t 6) (t 28)),
 g 7 (.mv (b false))])
 Q)
 Z))
 (S (R [g 29 (.mv (t 10)),
 g 30 (.call .iso f_spring_state_broken [(t 29)]),
 g 31 (.ext (t 30) 0),
 g 32 (.ext (t 30) 1),
 u (.store 3 (t 6) (t 31)),
 g 7 (.mv (t 32))])
 Q))))))⟩
def pf_seek_with : PF := ⟨2, [.tmp 4],
 (S (R [g 3 (.box 3 (t 1)),
 g 4 (.mv (.c (nilsl)))])
 (S (R [g 6 (.mv (t 0)),
 g 7 (.call .own f_sl_Clone_Seat_Seat [(t 6)]),
 g 5 (.mv (t 7))])
 (S (S (R [g 8 (.faddr 1 (t 3)),
 g 9 (.load 1 false (t 8))])
 (C (t 9)
 (R [g 10 (.mv (t 5)),
 g 11 (.faddr 0 (t 3)),
 g 12 (.load 1 false (t 11)),
 g 13 (.faddr 2 (t 3)),
 g 14 (.load 1 false (t 13)),
 g 15 (.iaddr 2 (t 10) (t 12)),
 g 16 (.faddr 1 (t 15)),
 u (.store 1 (t 16) (t 14))])
 (R [g 17 (.mv (t 5)),
 g 18 (.faddr 0 (t 3)),
 g 19 (.load 1 false (t 18)),
 g 20 (.faddr 2 (t 3)),
 g 21 (.load 1 false (t 20)),
 g 22 (.iaddr 2 (t 17) (t 19)),
 g 23 (.faddr 0 (t 22)),
 u (.store 1 (t 23) (t 21))])))
 (S (R [g 24 (.mv (t 5)),
 g 4 (.mv (t 24))])
 Q))))⟩
def pf_lit_Map_Place : PF := ⟨3, [.tmp 6],
 (S (R [g 6 (.mv (i 0))])
 (S (S (R [g 7 (.mv (t 0)),
 g 8 (.eq .ptr false (t 7) (.c (.nilp))),
 g 9 (.mv (t 8)),
 gg 10 9 false (.mv (t 1)),
 gg 11 9 false (.bin .lss (t 10) (i 0)),
 g 12 (.pick (t 9) (b true) (t 11)),
 g 13 (.mv (t 12)),
 gg 14 13 false (.mv (t 1)),
 gg 15 13 false (.mv (t 0)),
 gg 16 13 false (.nilCheck (t 15)),
 gg 17 13 false (.faddr 17 (t 16)),
 gg 18 13 false (.load 1 false (t 17)),
 gg 19 13 false (.len 1 (t 18)),
 gg 20 13 false (.bin .geq (t 14) (t 19)),
 g 21 (.pick (t 13) (b true) (t 20))])
 (C (t 21)
 (S (R [g 6 (.mv (i 0))])
 Q)
 Z))
 (S (D [] [g 22 (.mv (t 0)),
 g 23 (.mv (t 0)),
 g 24 (.nilCheck (t 23)),
 g 25 (.faddr 17 (t 24)),
 g 26 (.load 1 false (t 25)),
 g 27 (.mv (t 1)),
 g 28 (.mv (t 2)),
 g 29 (.mv (t 0)),
 g 30 (.nilCheck (t 29)),
 g 31 (.faddr 0 (t 30)),
 g 32 (.faddr 7 (t 31)),
 g 33 (.load 1 false (t 32)),
 g 34 (.mv (t 1)),
 g 35 (.iaddr 7 (t 33) (t 34)),
 g 36 (.faddr 5 (t 35)),
 g 37 (.load 1 false (t 36)),
 g 38 (.len 1 (t 37)),
 g 39 (.call .iso f_lit_Map_number [(t 22), (t 26), (t 27), (t 28), (t 38)]),
 g 6 (.mv (t 39))])
 Q)))⟩
def pf_lit_Map_Time : PF := ⟨3, [.tmp 6],
 (S (R [g 6 (.mv (i 0))])
 (S (S (R [g 7 (.mv (t 0)),
 g 8 (.eq .ptr false (t 7) (.c (.nilp))),
 g 9 (.mv (t 8)),
 gg 10 9 false (.mv (t 1)),
 gg 11 9 false (.bin .lss (t 10) (i 0)),
 g 12 (.pick (t 9) (b true) (t 11)),
 g 13 (.mv (t 12)),
 gg 14 13 false (.mv (t 1)),
 gg 15 13 false (.mv (t 0)),
 gg 16 13 false (.nilCheck (t 15)),
 gg 17 13 false (.faddr 16 (t 16)),
 gg 18 13 false (.load 1 false (t 17)),
 gg 19 13 false (.len 1 (t 18)),
 gg 20 13 false (.bin .geq (t 14) (t 19)),
 g 21 (.pick (t 13) (b true) (t 20))])
 (C (t 21)
 (S (R [g 6 (.mv (i 0))])
 Q)
 Z))
 (S (D [] [g 22 (.mv (t 0)),
 g 23 (.mv (t 0)),
 g 24 (.nilCheck (t 23)),
 g 25 (.faddr 16 (t 24)),
 g 26 (.load 1 false (t 25)),
 g 27 (.mv (t 1)),
 g 28 (.mv (t 2)),
 g 29 (.mv (t 0)),
 g 30 (.nilCheck (t 29)),
 g 31 (.faddr 0 (t 30)),
 g 32 (.faddr 7 (t 31)),
 g 33 (.load 1 false (t 32)),
 g 34 (.mv (t 1)),
 g 35 (.iaddr 7 (t 33) (t 34)),
 g 36 (.faddr 4 (t 35)),
 g 37 (.load 1 false (t 36)),
 g 38 (.len 1 (t 37)),
 g 39 (.call .iso f_lit_Map_number [(t 22), (t 26), (t 27), (t 28), (t 38)]),
 g 6 (.mv (t 39))])
 Q)))⟩
def pf_sl_Index_int_int : PF := ⟨2, [.tmp 4],
 (S (R [g 4 (.mv (i 0))])
 (S (S (R [g 6 (.mv (t 0)),
 g 7 (.len 1 (t 6)),
 g 8 (.mv (i 0))])
 (K 0
 (L [0, 1, 7, 8]
 (S (R [g 9 (.bin .lss (t 8) (t 7))])
 (S (C (t 9)
 Z
 (X 0))
 (S (K 1
 (S (R [g 10 (.mv (t 8)),
 g 5 (.mv (t 10))])
 (S (R [g 11 (.mv (t 1)),
 g 12 (.mv (t 0)),
 g 13 (.mv (t 5)),
 g 14 (.iaddr 1 (t 12) (t 13)),
 g 15 (.load 1 false (t 14)),
 g 16 (.bin .eql (t 11) (t 15))])
 (C (t 16)
 (S (R [g 17 (.mv (t 5)),
 g 4 (.mv (t 17))])
 Q)
 Z))))
 (R [g 18 (.bin .add (t 8) (i 1)),
 g 8 (.mv (t 18))])))))))
 (S (R [g 4 (.mv (i (-1)))])
 Q)))⟩
def pf_sl_DeleteFunc_int_int : PF := ⟨2, [.tmp 4],
 (S (R [g 4 (.mv (.c (nilsl)))])
 (S (R [g 8 (.mv (t 0)),
 g 9 (.mv (t 1)),
 g 10 (.call .iso f_sl_IndexFunc_int_int [(t 8), (t 9)]),
 g 5 (.mv (t 10))])
 (S (S (R [g 11 (.mv (t 5)),
 g 12 (.bin .eql (t 11) (i (-1)))])
 (C (t 12)
 (S (R [g 13 (.mv (t 0)),
 g 4 (.mv (t 13))])
 Q)
 Z))
 (S (S (R [g 14 (.mv (t 5)),
 g 15 (.bin .add (t 14) (i 1)),
 g 6 (.mv (t 15))])
 (K 0
 (L [0, 1, 5, 6]
 (S (S (R [g 16 (.mv (t 6)),
 g 17 (.mv (t 0)),
 g 18 (.len 1 (t 17)),
 g 19 (.bin .lss (t 16) (t 18))])
 (C (t 19)
 Z
 (X 0)))
 (S (K 1
 (S (R [g 22 (.mv (t 0)),
 g 23 (.mv (t 6)),
 g 24 (.iaddr 1 (t 22) (t 23)),
 g 25 (.load 1 false (t 24)),
 g 7 (.mv (t 25))])
 (S (R [g 26 (.mv (t 1)),
 g 27 (.mv (t 7)),
 g 28 (.callv .iso (t 26) [(t 27)]),
 g 29 (.un .not (t 28))])
 (C (t 29)
 (S (R [g 30 (.mv (t 0)),
 g 31 (.mv (t 5)),
 g 32 (.mv (t 7)),
 g 33 (.iaddr 1 (t 30) (t 31)),
 u (.store 1 (t 33) (t 32))])
 (R [g 34 (.mv (t 5)),
 g 35 (.bin .add (t 34) (i 1)),
 g 5 (.mv (t 35))]))
 Z))))
 (R [g 20 (.mv (t 6)),
 g 21 (.bin .add (t 20) (i 1)),
 g 6 (.mv (t 21))]))))))
 (S (R [g 36 (.mv (t 0)),
 g 37 (.mv (t 5)),
 g 38 (.slice 1 (t 36) (some (t 37)) none none),
 u (.clear (i64 0) (t 38))])
 (S (R [g 39 (.mv (t 0)),
 g 40 (.mv (t 5)),
 g 41 (.slice 1 (t 39) none (some (t 40)) none),
 g 4 (.mv (t 41))])
 Q))))))⟩
def pf_lit_Sort_1 : PF := ⟨1, [.tmp 2],
 (S (R [g 2 (.mv (b false))])
 (S (R [g 3 (.mv (t 0)),
 g 4 (.bin .eql (t 3) (i 0)),
 g 2 (.mv (t 4))])
 Q))⟩
def pf_sl_SortFunc_int_int : PF := ⟨2, [],
 (S (R [g 5 (.mv (t 0)),
 g 6 (.len 1 (t 5)),
 g 4 (.mv (t 6))])
 (R [g 7 (.mv (t 0)),
 g 8 (.mv (t 4)),
 g 9 (.mv (t 4)),
 g 10 (.conv .u64 (t 9)),
 g 11 (.call .iso f_bits_Len [(t 10)]),
 g 12 (.mv (t 1)),
 g 13 (.call .inl f_sl_pdqsortCmpFunc_int [(t 7), (i 0), (t 8), (t 11), (t 12)])]))⟩
def pf_lit_size : PF := ⟨1, [.tmp 2],
 (S (R [g 2 (.mv (.c (.int .u64 (0))))])
 (S (S (R [g 3 (.mv (t 0)),
 g 4 (.bin .lss (t 3) (i 0))])
 (C (t 4)
 (S (R [g 5 (.mv (t 0)),
 g 6 (.bin .add (t 5) (i 1)),
 g 7 (.un .neg (t 6)),
 g 8 (.conv .u64 (t 7)),
 g 9 (.bin .add (t 8) (.c (.int .u64 (1)))),
 g 2 (.mv (t 9))])
 Q)
 Z))
 (S (R [g 10 (.mv (t 0)),
 g 11 (.conv .u64 (t 10)),
 g 2 (.mv (t 11))])
 Q)))⟩
def pf_sl_Compact_int_int : PF := ⟨1, [.tmp 2],
 (S (R [g 2 (.mv (.c (nilsl)))])
 (S (S (R [g 6 (.mv (t 0)),
 g 7 (.len 1 (t 6)),
 g 8 (.bin .lss (t 7) (i 2))])
 (C (t 8)
 (S (R [g 9 (.mv (t 0)),
 g 2 (.mv (t 9))])
 Q)
 Z))
 (S (S (R [g 3 (.mv (i 1))])
 (K 0
 (L [0, 3]
 (S (S (R [g 10 (.mv (t 3)),
 g 11 (.mv (t 0)),
 g 12 (.len 1 (t 11)),
 g 13 (.bin .lss (t 10) (t 12))])
 (C (t 13)
 Z
 (X 0)))
 (S (K 1
 (S (D [] [g 16 (.mv (t 0)),
 g 17 (.mv (t 3)),
 g 18 (.iaddr 1 (t 16) (t 17)),
 g 19 (.load 1 false (t 18)),
 g 20 (.mv (t 0)),
 g 21 (.mv (t 3)),
 g 22 (.bin .sub (t 21) (i 1)),
 g 23 (.iaddr 1 (t 20) (t 22)),
 g 24 (.load 1 false (t 23)),
 g 25 (.bin .eql (t 19) (t 24))])
 (C (t 25)
 (S (R [g 26 (.mv (t 0)),
 g 27 (.mv (t 3)),
 g 28 (.slice 1 (t 26) (some (t 27)) none none),
 g 4 (.mv (t 28))])
 (S (S (R [g 5 (.mv (i 1))])
 (K 2
 (L [0, 3, 4, 5]
 (S (S (R [g 29 (.mv (t 5)),
 g 30 (.mv (t 4)),
 g 31 (.len 1 (t 30)),
 g 32 (.bin .lss (t 29) (t 31))])
 (C (t 32)
 Z
 (X 2)))
 (S (K 3
 (S (D [] [g 35 (.mv (t 4)),
 g 36 (.mv (t 5)),
 g 37 (.iaddr 1 (t 35) (t 36)),
 g 38 (.load 1 false (t 37)),
 g 39 (.mv (t 4)),
 g 40 (.mv (t 5)),
 g 41 (.bin .sub (t 40) (i 1)),
 g 42 (.iaddr 1 (t 39) (t 41)),
 g 43 (.load 1 false (t 42)),
 g 44 (.bin .neq (t 38) (t 43))])
 (C (t 44)
 (S (R [g 45 (.mv (t 0)),
 g 46 (.mv (t 3)),
 g 47 (.mv (t 4)),
 g 48 (.mv (t 5)),
 g 49 (.iaddr 1 (t 47) (t 48)),
 g 50 (.load 1 false (t 49)),
 g 51 (.iaddr 1 (t 45) (t 46)),
 u (.store 1 (t 51) (t 50))])
 (R [g 52 (.mv (t 3)),
 g 53 (.bin .add (t 52) (i 1)),
 g 3 (.mv (t 53))]))
 Z)))
 (R [g 33 (.mv (t 5)),
 g 34 (.bin .add (t 33) (i 1)),
 g 5 (.mv (t 34))]))))))
 (S (R [g 54 (.mv (t 0)),
 g 55 (.mv (t 3)),
 g 56 (.slice 1 (t 54) (some (t 55)) none none),
 u (.clear (i64 0) (t 56))])
 (S (R [g 57 (.mv (t 0)),
 g 58 (.mv (t 3)),
 g 59 (.slice 1 (t 57) none (some (t 58)) none),
 g 2 (.mv (t 59))])
 Q))))
 Z)))
 (R [g 14 (.mv (t 3)),
 g 15 (.bin .add (t 14) (i 1)),
 g 3 (.mv (t 15))]))))))
 (S (R [g 60 (.mv (t 0)),
 g 2 (.mv (t 60))])
 Q))))⟩
def pf_price_ends : PF := ⟨1, [.cell 2 2 true, .cell 3 2 true],
 (S (R [g 1 (.box 7 (t 0)),
 g 2 (.alloc (.agg [i64 0, i64 0])),
 g 3 (.alloc (.agg [i64 0, i64 0]))])
 (S (S (R [g 8 (.faddr 4 (t 1)),
 g 9 (.load 1 false (t 8)),
 g 10 (.len 1 (t 9)),
 g 11 (.mv (i 0))])
 (K 0
 (L [1, 2, 3, 9, 10, 11]
 (S (R [g 12 (.bin .lss (t 11) (t 10))])
 (S (C (t 12)
 Z
 (X 0))
 (S (K 1
 (S (R [g 13 (.mv (t 11)),
 g 14 (.iaddr 5 (t 9) (t 11)),
 g 15 (.load 5 true (t 14)),
 g 5 (.alloc (.agg [.int .u32 (0), .int .u8 (0), i64 0, i64 0, i64 0])),
 g 4 (.mv (t 13)),
 u (.store 5 (t 5) (t 15))])
 (S (S (R [g 16 (.mv (t 4)),
 g 17 (.bin .eql (t 16) (i 0)),
 g 18 (.mv (t 17)),
 gg 19 18 false (.faddr 4 (t 5)),
 gg 20 18 false (.load 1 false (t 19)),
 gg 21 18 false (.aaddr 2 1 (t 2) (i 0)),
 gg 22 18 false (.load 1 false (t 21)),
 gg 23 18 false (.bin .lss (t 20) (t 22)),
 g 24 (.pick (t 18) (b true) (t 23))])
 (C (t 24)
 (R [g 25 (.faddr 4 (t 5)),
 g 26 (.load 1 false (t 25)),
 g 27 (.aaddr 2 1 (t 2) (i 0)),
 u (.store 1 (t 27) (t 26))])
 Z))
 (R [g 28 (.aaddr 2 1 (t 3) (i 0)),
 g 29 (.load 1 false (t 28)),
 g 30 (.faddr 4 (t 5)),
 g 31 (.load 1 false (t 30)),
 g 32 (.maxi (t 29) (t 31)),
 g 33 (.aaddr 2 1 (t 3) (i 0)),
 u (.store 1 (t 33) (t 32))]))))
 (R [g 34 (.bin .add (t 11) (i 1)),
 g 11 (.mv (t 34))])))))))
 (S (S (R [g 35 (.faddr 5 (t 1)),
 g 36 (.load 1 false (t 35)),
 g 37 (.len 1 (t 36)),
 g 38 (.mv (i 0))])
 (K 2
 (L [2, 3, 36, 37, 38]
 (S (R [g 39 (.bin .lss (t 38) (t 37))])
 (S (C (t 39)
 Z
 (X 2))
 (S (K 3
 (S (R [g 40 (.mv (t 38)),
 g 41 (.iaddr 2 (t 36) (t 38)),
 g 42 (.load 2 true (t 41)),
 g 7 (.alloc (.agg [i64 0, i64 0])),
 g 6 (.mv (t 40)),
 u (.store 2 (t 7) (t 42))])
 (S (S (R [g 43 (.mv (t 6)),
 g 44 (.bin .eql (t 43) (i 0)),
 g 45 (.mv (t 44)),
 gg 46 45 false (.faddr 1 (t 7)),
 gg 47 45 false (.load 1 false (t 46)),
 gg 48 45 false (.aaddr 2 1 (t 2) (i 1)),
 gg 49 45 false (.load 1 false (t 48)),
 gg 50 45 false (.bin .lss (t 47) (t 49)),
 g 51 (.pick (t 45) (b true) (t 50))])
 (C (t 51)
 (R [g 52 (.faddr 1 (t 7)),
 g 53 (.load 1 false (t 52)),
 g 54 (.aaddr 2 1 (t 2) (i 1)),
 u (.store 1 (t 54) (t 53))])
 Z))
 (R [g 55 (.aaddr 2 1 (t 3) (i 1)),
 g 56 (.load 1 false (t 55)),
 g 57 (.faddr 1 (t 7)),
 g 58 (.load 1 false (t 57)),
 g 59 (.maxi (t 56) (t 58)),
 g 60 (.aaddr 2 1 (t 3) (i 1)),
 u (.store 1 (t 60) (t 59))]))))
 (R [g 61 (.bin .add (t 38) (i 1)),
 g 38 (.mv (t 61))])))))))
 (S (D [(1, 2)] [g 62 (.load 2 true (t 2)),
 g 63 (.load 2 true (t 3)),
 u (.store 2 (t 2) (t 62)),
 u (.store 2 (t 3) (t 63))])
 Q))))⟩
def pf_class_Cost : PF := ⟨2, [.tmp 4, .tmp 5],
 (S (R [g 2 (.box 7 (t 0)),
 g 3 (.box 2 (t 1)),
 g 4 (.mv (i 0)),
 g 5 (.mv (i 0))])
 (S (S (R [g 8 (.load 7 true (t 2)),
 g 9 (.load 2 true (t 3)),
 g 10 (.call .iso f_class_Seat [(t 8), (t 9)]),
 g 11 (.un .not (t 10))])
 (C (t 11)
 (S (R [g 4 (.mv (i 0)),
 g 5 (.mv (i 0))])
 Q)
 Z))
 (S (R [g 6 (.mv (i 0)),
 g 7 (.mv (i 0))])
 (S (S (R [g 12 (.faddr 0 (t 3)),
 g 13 (.load 1 false (t 12)),
 g 14 (.bin .gtr (t 13) (i (-1)))])
 (C (t 14)
 (R [g 15 (.faddr 4 (t 2)),
 g 16 (.load 1 false (t 15)),
 g 17 (.faddr 0 (t 3)),
 g 18 (.load 1 false (t 17)),
 g 19 (.iaddr 5 (t 16) (t 18)),
 g 20 (.faddr 4 (t 19)),
 g 21 (.load 1 false (t 20)),
 g 6 (.mv (t 21))])
 Z))
 (S (S (R [g 22 (.faddr 1 (t 3)),
 g 23 (.load 1 false (t 22)),
 g 24 (.bin .gtr (t 23) (i (-1)))])
 (C (t 24)
 (R [g 25 (.faddr 5 (t 2)),
 g 26 (.load 1 false (t 25)),
 g 27 (.faddr 1 (t 3)),
 g 28 (.load 1 false (t 27)),
 g 29 (.iaddr 2 (t 26) (t 28)),
 g 30 (.faddr 1 (t 29)),
 g 31 (.load 1 false (t 30)),
 g 7 (.mv (t 31))])
 Z))
 (S (R [g 32 (.mv (t 6)),
 g 33 (.mv (t 7)),
 g 4 (.mv (t 32)),
 g 5 (.mv (t 33))])
 Q))))))⟩
def pf_sl_IndexFunc_Fault_Fault : PF := ⟨2, [.tmp 4],
 (S (R [g 4 (.mv (i 0))])
 (S (S (R [g 6 (.mv (t 0)),
 g 7 (.len 1 (t 6)),
 g 8 (.mv (i 0))])
 (K 0
 (L [0, 1, 7, 8]
 (S (R [g 9 (.bin .lss (t 8) (t 7))])
 (S (C (t 9)
 Z
 (X 0))
 (S (K 1
 (S (R [g 10 (.mv (t 8)),
 g 5 (.mv (t 10))])
 (S (R [g 11 (.mv (t 1)),
 g 12 (.mv (t 0)),
 g 13 (.mv (t 5)),
 g 14 (.iaddr 4 (t 12) (t 13)),
 g 15 (.load 4 true (t 14)),
 g 16 (.callv .iso (t 11) [(t 15)])])
 (C (t 16)
 (S (R [g 17 (.mv (t 5)),
 g 4 (.mv (t 17))])
 Q)
 Z))))
 (R [g 18 (.bin .add (t 8) (i 1)),
 g 8 (.mv (t 18))])))))))
 (S (R [g 4 (.mv (i (-1)))])
 Q)))⟩
def pf_class_Spot : PF := ⟨2, [.cell 4 5 true, .tmp 5],
 (S (R [g 2 (.box 7 (t 0)),
 g 3 (.box 2 (t 1)),
 g 4 (.alloc (.agg [.int .u32 (0), .int .u8 (0), i64 0, i64 0, i64 0])),
 g 5 (.mv (b false))])
 (S (S (R [g 7 (.load 7 true (t 2)),
 g 8 (.load 2 true (t 3)),
 g 9 (.call .iso f_class_Seat [(t 7), (t 8)]),
 g 10 (.un .not (t 9))])
 (C (t 10)
 (S (R [g 11 (.build [.int .u32 (0), .int .u8 (0), i64 0, i64 0, i64 0] []),
 u (.store 5 (t 4) (t 11)),
 g 5 (.mv (b false))])
 Q)
 Z))
 (S (R [g 12 (.build [.int .u32 (0), .int .u8 (0), i64 0, i64 0, i64 0] [(4, 1, (i (-2)))]),
 g 6 (.alloc (.agg [.int .u32 (0), .int .u8 (0), i64 0, i64 0, i64 0])),
 u (.store 5 (t 6) (t 12))])
 (S (S (R [g 13 (.faddr 0 (t 3)),
 g 14 (.load 1 false (t 13)),
 g 15 (.bin .gtr (t 14) (i (-1)))])
 (C (t 15)
 (R [g 16 (.faddr 4 (t 2)),
 g 17 (.load 1 false (t 16)),
 g 18 (.faddr 0 (t 3)),
 g 19 (.load 1 false (t 18)),
 g 20 (.iaddr 5 (t 17) (t 19)),
 g 21 (.faddr 0 (t 20)),
 g 22 (.load 4 true (t 21)),
 g 23 (.faddr 0 (t 6)),
 u (.store 4 (t 23) (t 22))])
 Z))
 (S (K 0
 (S (R [g 25 (.faddr 1 (t 3)),
 g 26 (.load 1 false (t 25)),
 g 27 (.bin .gtr (t 26) (i (-1))),
 g 24 (.mv (t 27))])
 (C (t 24)
 (R [g 28 (.faddr 5 (t 2)),
 g 29 (.load 1 false (t 28)),
 g 30 (.faddr 1 (t 3)),
 g 31 (.load 1 false (t 30)),
 g 32 (.iaddr 2 (t 29) (t 31)),
 g 33 (.faddr 0 (t 32)),
 g 34 (.load 1 false (t 33)),
 g 35 (.faddr 4 (t 6)),
 u (.store 1 (t 35) (t 34))])
 (S (R [g 37 (.faddr 5 (t 2)),
 g 38 (.load 1 false (t 37)),
 g 39 (.len 1 (t 38)),
 g 40 (.bin .eql (t 39) (i 0)),
 g 36 (.mv (t 40))])
 (C (t 36)
 (R [g 41 (.faddr 4 (t 6)),
 u (.store 1 (t 41) (i (-1)))])
 Z)))))
 (S (R [g 42 (.load 5 true (t 6)),
 u (.store 5 (t 4) (t 42)),
 g 5 (.mv (b true))])
 Q))))))⟩
def pf_check_table_alone : PF := ⟨1, [],
 (S (R [g 8 (.mv (t 0)),
 g 9 (.nilCheck (t 8)),
 g 10 (.faddr 0 (t 9)),
 g 11 (.faddr 7 (t 10)),
 g 12 (.load 1 false (t 11)),
 g 13 (.len 1 (t 12)),
 g 14 (.mv (i 0))])
 (K 0
 (L [0, 12, 13, 14]
 (S (R [g 15 (.bin .lss (t 14) (t 13))])
 (S (C (t 15)
 Z
 (X 0))
 (S (K 1
 (S (R [g 16 (.mv (t 14)),
 g 17 (.iaddr 7 (t 12) (t 14)),
 g 18 (.load 7 true (t 17)),
 g 3 (.alloc (.agg [.str ⟨#[]⟩, i64 0, .int .u16 (0), nilsl, nilsl, nilsl, i64 0])),
 g 2 (.mv (t 16)),
 u (.store 7 (t 3) (t 18))])
 (S (R [g 19 (.mv (t 0)),
 g 20 (.nilCheck (t 19)),
 g 21 (.faddr 16 (t 20)),
 g 22 (.load 1 false (t 21)),
 g 23 (.mv (t 2)),
 g 24 (.iaddr 5 (t 22) (t 23)),
 g 25 (.faddr 0 (t 24)),
 g 26 (.load 4 true (t 25)),
 g 4 (.alloc (.agg [.int .u32 (0), .int .u8 (0), i64 0, i64 0])),
 u (.store 4 (t 4) (t 26))])
 (S (S (R [g 27 (.mv (t 0)),
 g 28 (.mv (t 2)),
 g 29 (.call .iso f_check_table_timed [(t 27), (t 28)])])
 (C (t 29)
 (S (R [g 30 (.faddr 3 (t 3)),
 g 31 (.load 1 false (t 30)),
 g 32 (.len 1 (t 31)),
 g 33 (.mv (i 0))])
 (K 2
 (L [0, 2, 3, 4, 12, 13, 14, 31, 32, 33]
 (S (R [g 34 (.bin .lss (t 33) (t 32))])
 (S (C (t 34)
 Z
 (X 2))
 (S (K 3
 (S (R [g 35 (.iaddr 1 (t 31) (t 33)),
 g 36 (.load 1 false (t 35)),
 g 6 (.mv (t 36))])
 (S (D [] [g 37 (.mv (t 0)),
 g 38 (.nilCheck (t 37)),
 g 39 (.faddr 0 (t 38)),
 g 40 (.faddr 6 (t 39)),
 g 41 (.load 1 false (t 40)),
 g 42 (.mv (t 6)),
 g 43 (.iaddr 2 (t 41) (t 42)),
 g 44 (.load 2 true (t 43)),
 g 45 (.load 4 true (t 4)),
 g 46 (.call .iso f_person_Away [(t 44), (t 45)])])
 (C (t 46)
 (R [g 47 (.mv (t 0)),
 g 48 (.mv (t 6)),
 g 49 (.mv (t 2)),
 g 50 (.call .inl f_check_table_note [(t 47), (i 1), (t 48), (t 49), (i (-1))])])
 Z))))
 (R [g 51 (.bin .add (t 33) (i 1)),
 g 33 (.mv (t 51))])))))))
 Z))
 (S (S (R [g 52 (.mv (t 0)),
 g 53 (.mv (t 2)),
 g 54 (.call .iso f_check_table_placed [(t 52), (t 53)]),
 g 55 (.un .not (t 54))])
 (C (t 55)
 (X 1)
 Z))
 (S (R [g 56 (.mv (t 0)),
 g 57 (.nilCheck (t 56)),
 g 58 (.faddr 16 (t 57)),
 g 59 (.load 1 false (t 58)),
 g 60 (.mv (t 2)),
 g 61 (.iaddr 5 (t 59) (t 60)),
 g 62 (.faddr 4 (t 61)),
 g 63 (.load 1 false (t 62)),
 g 7 (.mv (t 63))])
 (S (S (D [] [g 64 (.mv (t 0)),
 g 65 (.nilCheck (t 64)),
 g 66 (.faddr 0 (t 65)),
 g 67 (.faddr 4 (t 66)),
 g 68 (.load 1 false (t 67)),
 g 69 (.mv (t 7)),
 g 70 (.iaddr 4 (t 68) (t 69)),
 g 71 (.load 4 true (t 70)),
 g 72 (.faddr 1 (t 3)),
 g 73 (.load 1 false (t 72)),
 g 74 (.faddr 2 (t 3)),
 g 75 (.load 1 false (t 74)),
 g 76 (.call .iso f_room_Fits [(t 71), (t 73), (t 75)]),
 g 77 (.un .not (t 76))])
 (C (t 77)
 (R [g 78 (.mv (t 0)),
 g 79 (.mv (t 7)),
 g 80 (.mv (t 2)),
 g 81 (.call .inl f_check_table_note [(t 78), (i 2), (t 79), (t 80), (i (-1))])])
 Z))
 (S (D [] [g 82 (.mv (t 0)),
 g 83 (.mv (t 2)),
 g 84 (.call .iso f_check_table_timed [(t 82), (t 83)]),
 g 85 (.mv (t 84)),
 gg 86 85 true (.mv (t 0)),
 gg 87 85 true (.nilCheck (t 86)),
 gg 88 85 true (.faddr 0 (t 87)),
 gg 89 85 true (.faddr 4 (t 88)),
 gg 90 85 true (.load 1 false (t 89)),
 gg 91 85 true (.mv (t 7)),
 gg 92 85 true (.iaddr 4 (t 90) (t 91)),
 gg 93 85 true (.load 4 true (t 92)),
 gg 94 85 true (.load 4 true (t 4)),
 gg 95 85 true (.call .iso f_room_Shut [(t 93), (t 94)]),
 g 96 (.pick (t 85) (t 95) (b false))])
 (C (t 96)
 (R [g 97 (.mv (t 0)),
 g 98 (.mv (t 7)),
 g 99 (.mv (t 2)),
 g 100 (.call .inl f_check_table_note [(t 97), (i 3), (t 98), (t 99), (i (-1))])])
 Z)))))))))
 (R [g 101 (.bin .add (t 14) (i 1)),
 g 14 (.mv (t 101))])))))))⟩
def pf_check_table_twos : PF := ⟨1, [],
 (S Z
 (S (R [g 6 (.mv (t 0)),
 g 7 (.nilCheck (t 6)),
 g 8 (.faddr 0 (t 7)),
 g 9 (.faddr 7 (t 8)),
 g 10 (.load 1 false (t 9)),
 g 11 (.len 1 (t 10)),
 g 12 (.mv (i 0))])
 (K 0
 (L [0, 11, 12]
 (S (R [g 13 (.bin .lss (t 12) (t 11))])
 (S (C (t 13)
 Z
 (X 0))
 (S (K 1
 (S (R [g 14 (.mv (t 12)),
 g 2 (.mv (t 14))])
 (S (S (R [g 15 (.mv (t 0)),
 g 16 (.mv (t 2)),
 g 17 (.call .iso f_check_table_timed [(t 15), (t 16)]),
 g 18 (.un .not (t 17))])
 (C (t 18)
 (X 1)
 Z))
 (S Z
 (S (R [g 19 (.mv (t 2)),
 g 20 (.bin .add (t 19) (i 1)),
 g 3 (.mv (t 20))])
 (K 2
 (L [0, 2, 3, 11, 12]
 (S (S (R [g 21 (.mv (t 3)),
 g 22 (.mv (t 0)),
 g 23 (.nilCheck (t 22)),
 g 24 (.faddr 0 (t 23)),
 g 25 (.faddr 7 (t 24)),
 g 26 (.load 1 false (t 25)),
 g 27 (.len 1 (t 26)),
 g 28 (.bin .lss (t 21) (t 27))])
 (C (t 28)
 Z
 (X 2)))
 (S (K 3
 (S (S (R [g 31 (.mv (t 0)),
 g 32 (.mv (t 3)),
 g 33 (.call .iso f_check_table_timed [(t 31), (t 32)]),
 g 34 (.un .not (t 33))])
 (C (t 34)
 (X 3)
 Z))
 (S (S (R [g 35 (.mv (t 0)),
 g 36 (.mv (t 2)),
 g 37 (.mv (t 3)),
 g 38 (.call .iso f_check_table_never [(t 35), (i 14), (i 0), (t 36), (t 37)])])
 (C (t 38)
 (S (R [g 39 (.mv (t 0)),
 g 40 (.nilCheck (t 39)),
 g 41 (.faddr 0 (t 40)),
 g 42 (.load 15 true (t 41)),
 g 43 (.mv (t 2)),
 g 44 (.mv (t 3)),
 g 45 (.call .iso f_problem_Share [(t 42), (t 43), (t 44)]),
 g 46 (.len 1 (t 45)),
 g 47 (.mv (i 0))])
 (K 4
 (L [0, 2, 3, 11, 12, 45, 46, 47]
 (S (R [g 48 (.bin .lss (t 47) (t 46))])
 (S (C (t 48)
 Z
 (X 4))
 (S (K 5
 (S (R [g 49 (.iaddr 1 (t 45) (t 47)),
 g 50 (.load 1 false (t 49)),
 g 5 (.mv (t 50))])
 (R [g 51 (.mv (t 0)),
 g 52 (.mv (t 5)),
 g 53 (.mv (t 2)),
 g 54 (.mv (t 3)),
 g 55 (.call .inl f_check_table_note [(t 51), (i 4), (t 52), (t 53), (t 54)])])))
 (R [g 56 (.bin .add (t 47) (i 1)),
 g 47 (.mv (t 56))])))))))
 Z))
 (S (D [] [g 57 (.mv (t 0)),
 g 58 (.mv (t 2)),
 g 59 (.call .iso f_check_table_placed [(t 57), (t 58)]),
 g 60 (.mv (t 59)),
 gg 61 60 true (.mv (t 0)),
 gg 62 60 true (.mv (t 3)),
 gg 63 60 true (.call .iso f_check_table_placed [(t 61), (t 62)]),
 g 64 (.pick (t 60) (t 63) (b false)),
 g 65 (.mv (t 64)),
 gg 66 65 true (.mv (t 0)),
 gg 67 65 true (.nilCheck (t 66)),
 gg 68 65 true (.faddr 16 (t 67)),
 gg 69 65 true (.load 1 false (t 68)),
 gg 70 65 true (.mv (t 2)),
 gg 71 65 true (.iaddr 5 (t 69) (t 70)),
 gg 72 65 true (.faddr 4 (t 71)),
 gg 73 65 true (.load 1 false (t 72)),
 gg 74 65 true (.mv (t 0)),
 gg 75 65 true (.nilCheck (t 74)),
 gg 76 65 true (.faddr 16 (t 75)),
 gg 77 65 true (.load 1 false (t 76)),
 gg 78 65 true (.mv (t 3)),
 gg 79 65 true (.iaddr 5 (t 77) (t 78)),
 gg 80 65 true (.faddr 4 (t 79)),
 gg 81 65 true (.load 1 false (t 80)),
 gg 82 65 true (.bin .eql (t 73) (t 81)),
 g 83 (.pick (t 65) (t 82) (b false)),
 g 84 (.mv (t 83)),
 gg 85 84 true (.mv (t 0)),
 gg 86 84 true (.nilCheck (t 85)),
 gg 87 84 true (.faddr 16 (t 86)),
 gg 88 84 true (.load 1 false (t 87)),
 gg 89 84 true (.mv (t 2)),
 gg 90 84 true (.iaddr 5 (t 88) (t 89)),
 gg 91 84 true (.faddr 0 (t 90)),
 gg 92 84 true (.load 4 true (t 91)),
 gg 93 84 true (.mv (t 0)),
 gg 94 84 true (.nilCheck (t 93)),
 gg 95 84 true (.faddr 16 (t 94)),
 gg 96 84 true (.load 1 false (t 95)),
 gg 97 84 true (.mv (t 3)),
 gg 98 84 true (.iaddr 5 (t 96) (t 97)),
 gg 99 84 true (.faddr 0 (t 98)),
 gg 100 84 true (.load 4 true (t 99)),
 gg 101 84 true (.call .iso f_when_Meet [(t 92), (t 100)]),
 g 102 (.pick (t 84) (t 101) (b false))])
 (C (t 102)
 (R [g 103 (.mv (t 0)),
 g 104 (.mv (t 0)),
 g 105 (.nilCheck (t 104)),
 g 106 (.faddr 16 (t 105)),
 g 107 (.load 1 false (t 106)),
 g 108 (.mv (t 2)),
 g 109 (.iaddr 5 (t 107) (t 108)),
 g 110 (.faddr 4 (t 109)),
 g 111 (.load 1 false (t 110)),
 g 112 (.mv (t 2)),
 g 113 (.mv (t 3)),
 g 114 (.call .inl f_check_table_note [(t 103), (i 5), (t 111), (t 112), (t 113)])])
 Z)))))
 (R [g 29 (.mv (t 3)),
 g 30 (.bin .add (t 29) (i 1)),
 g 3 (.mv (t 30))]))))))))))
 (R [g 115 (.bin .add (t 12) (i 1)),
 g 12 (.mv (t 115))]))))))))⟩
def pf_sl_SortStableFunc_Fault_Fault : PF := ⟨2, [],
 (R [g 4 (.mv (t 0)),
 g 5 (.mv (t 0)),
 g 6 (.len 1 (t 5)),
 g 7 (.mv (t 1)),
 g 8 (.call .inl f_sl_stableCmpFunc_Fault [(t 4), (t 6), (t 7)])])⟩
def pf_unit_fresh : PF := ⟨0, [.tmp 0],
 (S (R [g 0 (.mv (.c (.nilp)))])
 (S (R [g 1 (.mkmap),
 g 2 (.mkmap),
 g 3 (.build [nilsl, .nilm, .nilm, nilsl, nilsl, nilsl, .bool false] [(1, 1, (t 1)), (2, 1, (t 2))]),
 g 4 (.box 7 (t 3)),
 g 0 (.mv (t 4))])
 Q))⟩
def pf_unit_Unit_put : PF := ⟨2, [],
 (S (R [g 7 (.mv (t 1)),
 g 8 (.call .iso f_unit_clean [(t 7)]),
 g 4 (.mv (t 8))])
 (S (S (R [g 9 (.mv (t 4)),
 g 10 (.len 1 (t 9)),
 g 11 (.mv (i 0))])
 (K 0
 (L [0, 4, 9, 10, 11]
 (S (R [g 12 (.bin .lss (t 11) (t 10))])
 (S (C (t 12)
 Z
 (X 0))
 (S (K 1
 (S (R [g 13 (.iaddr 1 (t 9) (t 11)),
 g 14 (.load 1 false (t 13)),
 g 6 (.mv (t 14))])
 (D [(3, 18), (9, 18), (12, 18), (3, 19)] [g 15 (.mv (t 0)),
 g 16 (.nilCheck (t 15)),
 g 17 (.faddr 1 (t 16)),
 g 18 (.load 1 false (t 17)),
 g 19 (.mv (t 6)),
 g 20 (.un .neg (t 19)),
 g 21 (.mv (t 0)),
 g 22 (.nilCheck (t 21)),
 g 23 (.faddr 1 (t 22)),
 g 24 (.load 1 false (t 23)),
 g 25 (.mv (t 6)),
 g 26 (.un .neg (t 25)),
 g 27 (.look (.sc .i) false (nilsl) (t 24) (t 26)),
 g 28 (.mv (t 0)),
 g 29 (.nilCheck (t 28)),
 g 30 (.faddr 0 (t 29)),
 g 31 (.load 1 false (t 30)),
 g 32 (.len 1 (t 31)),
 g 33 (.lits 1 1 (i64 0) [(0, (t 32))]),
 g 34 (.app 8 (i64 0) (t 27) (t 33)),
 u (.mupd (.sc .i) (t 18) (t 20) (t 34))])))
 (R [g 35 (.bin .add (t 11) (i 1)),
 g 11 (.mv (t 35))])))))))
 (R [g 36 (.mv (t 0)),
 g 37 (.mv (t 0)),
 g 38 (.nilCheck (t 37)),
 g 39 (.faddr 0 (t 38)),
 g 40 (.load 1 false (t 39)),
 g 41 (.mv (t 4)),
 g 42 (.lits 1 1 (nilsl) [(0, (t 41))]),
 g 43 (.app 24 (nilsl) (t 40) (t 42)),
 g 44 (.nilCheck (t 36)),
 g 45 (.faddr 0 (t 44)),
 u (.store 1 (t 45) (t 43))])))⟩
def pf_unit_Unit_look : PF := ⟨2, [],
 (S (R [g 7 (.mv (t 0)),
 g 8 (.nilCheck (t 7)),
 g 9 (.faddr 3 (t 8)),
 g 10 (.load 1 false (t 9)),
 g 11 (.len 1 (t 10)),
 g 4 (.mv (t 11))])
 (S (S (R [g 12 (.mv (t 0)),
 g 13 (.nilCheck (t 12)),
 g 14 (.faddr 0 (t 13)),
 g 15 (.load 1 false (t 14)),
 g 16 (.mv (t 1)),
 g 17 (.slice 1 (t 15) (some (t 16)) none none),
 g 18 (.len 1 (t 17)),
 g 19 (.mv (i 0))])
 (K 0
 (L [0, 4, 17, 18, 19]
 (S (R [g 20 (.bin .lss (t 19) (t 18))])
 (S (C (t 20)
 Z
 (X 0))
 (S (K 1
 (S (R [g 21 (.iaddr 1 (t 17) (t 19)),
 g 22 (.load 1 false (t 21)),
 g 6 (.mv (t 22))])
 (S (S (R [g 23 (.mv (t 0)),
 g 24 (.nilCheck (t 23)),
 g 25 (.faddr 6 (t 24)),
 g 26 (.load 1 false (t 25))])
 (C (t 26)
 Q
 Z))
 (R [g 27 (.mv (t 0)),
 g 28 (.mv (t 6)),
 g 29 (.call .inl f_unit_Unit_visit [(t 27), (t 28)])]))))
 (R [g 30 (.bin .add (t 19) (i 1)),
 g 19 (.mv (t 30))])))))))
 (R [g 31 (.mv (t 0)),
 g 32 (.mv (t 4)),
 g 33 (.call .inl f_unit_Unit_spread [(t 31), (t 32)])])))⟩
def pf_sl_Equal_int_int : PF := ⟨2, [.tmp 4],
 (S (R [g 4 (.mv (b false))])
 (S (S (R [g 6 (.mv (t 0)),
 g 7 (.len 1 (t 6)),
 g 8 (.mv (t 1)),
 g 9 (.len 1 (t 8)),
 g 10 (.bin .neq (t 7) (t 9))])
 (C (t 10)
 (S (R [g 4 (.mv (b false))])
 Q)
 Z))
 (S (S (R [g 11 (.mv (t 0)),
 g 12 (.len 1 (t 11)),
 g 13 (.mv (i 0))])
 (K 0
 (L [0, 1, 12, 13]
 (S (R [g 14 (.bin .lss (t 13) (t 12))])
 (S (C (t 14)
 Z
 (X 0))
 (S (K 1
 (S (R [g 15 (.mv (t 13)),
 g 5 (.mv (t 15))])
 (S (D [] [g 16 (.mv (t 0)),
 g 17 (.mv (t 5)),
 g 18 (.iaddr 1 (t 16) (t 17)),
 g 19 (.load 1 false (t 18)),
 g 20 (.mv (t 1)),
 g 21 (.mv (t 5)),
 g 22 (.iaddr 1 (t 20) (t 21)),
 g 23 (.load 1 false (t 22)),
 g 24 (.bin .neq (t 19) (t 23))])
 (C (t 24)
 (S (R [g 4 (.mv (b false))])
 Q)
 Z))))
 (R [g 25 (.bin .add (t 13) (i 1)),
 g 13 (.mv (t 25))])))))))
 (S (R [g 4 (.mv (b true))])
 Q))))⟩
def pf_axiom_open : PF := ⟨1, [.tmp 2],
 (S (R [g 1 (.box 20 (t 0)),
 g 2 (.mv (.c (.nilp)))])
 (S (D [] [g 3 (.load 20 true (t 1)),
 g 4 (.faddr 0 (t 1)),
 g 5 (.load 15 true (t 4)),
 g 6 (.call .iso f_lit_New [(t 5)]),
 g 7 (.build [.str ⟨#[]⟩, i64 0, i64 0, i64 0, nilsl, nilsl, nilsl, nilsl, nilsl, nilsl, nilsl, i64 0, i64 0, i64 0, i64 0, nilsl, i64 0, nilsl, nilsl, i64 0, .nilp] [(0, 20, (t 3)), (20, 1, (t 6))]),
 g 8 (.box 21 (t 7)),
 g 2 (.mv (t 8))])
 Q))⟩
def pf_axiom_book_is : PF := ⟨2, [.tmp 4],
 (S (R [g 3 (.box 3 (t 1)),
 g 4 (.mv (b false))])
 (S (S (D [] [g 8 (.faddr 2 (t 3)),
 g 9 (.load 1 false (t 8)),
 g 10 (.call .iso f_lit_Sort [(t 9)]),
 g 11 (.faddr 2 (t 3)),
 g 12 (.load 1 false (t 11)),
 g 13 (.call .iso f_sl_Equal_int_int [(t 10), (t 12)]),
 g 14 (.un .not (t 13))])
 (C (t 14)
 (S (R [g 4 (.mv (b false))])
 Q)
 Z))
 (S (S (R [g 15 (.faddr 0 (t 3)),
 g 16 (.load 1 false (t 15))])
 (K 0
 (S (S (R [g 18 (.bin .eql (t 16) (i 1)),
 g 17 (.mv (t 18))])
 (C (t 17)
 Z
 (R [g 19 (.bin .eql (t 16) (i 2)),
 g 17 (.mv (t 19))])))
 (C (t 17)
 (S (R [g 20 (.mv (t 0)),
 g 21 (.faddr 1 (t 3)),
 g 22 (.load 1 false (t 21)),
 g 23 (.faddr 0 (t 3)),
 g 24 (.load 1 false (t 23)),
 g 25 (.bin .eql (t 24) (i 2)),
 g 26 (.call .iso f_axiom_book_all [(t 20), (t 22), (t 25)]),
 g 5 (.mv (t 26))])
 (S (R [g 27 (.mv (t 5)),
 g 28 (.len 1 (t 27)),
 g 29 (.bin .gtr (t 28) (i 0)),
 g 30 (.mv (t 29)),
 gg 31 30 true (.mv (t 5)),
 gg 32 30 true (.faddr 2 (t 3)),
 gg 33 30 true (.load 1 false (t 32)),
 gg 34 30 true (.call .iso f_sl_Equal_int_int [(t 31), (t 33)]),
 g 35 (.pick (t 30) (t 34) (b false)),
 g 4 (.mv (t 35))])
 Q))
 (S (R [g 37 (.bin .eql (t 16) (i 3)),
 g 36 (.mv (t 37))])
 (C (t 36)
 (S (R [g 38 (.mv (t 0)),
 g 39 (.faddr 1 (t 3)),
 g 40 (.load 1 false (t 39)),
 g 41 (.faddr 2 (t 3)),
 g 42 (.load 1 false (t 41)),
 g 43 (.call .iso f_axiom_book_one [(t 38), (t 40), (t 42)]),
 g 4 (.mv (t 43))])
 Q)
 Z))))))
 (S (R [g 45 (.mv (t 0)),
 g 46 (.faddr 2 (t 3)),
 g 47 (.load 1 false (t 46)),
 g 48 (.call .iso f_axiom_book_sides [(t 45), (t 47)]),
 g 44 (.mv (t 48)),
 g 49 (.ext (t 44) 0),
 g 50 (.ext (t 44) 1),
 g 6 (.mv (t 49)),
 g 7 (.mv (t 50))])
 (S (S (R [g 51 (.mv (t 7)),
 g 52 (.un .not (t 51))])
 (C (t 52)
 (S (R [g 4 (.mv (b false))])
 Q)
 Z))
 (S (S (R [g 53 (.faddr 0 (t 3)),
 g 54 (.load 1 false (t 53))])
 (K 1
 (S (S (R [g 56 (.bin .eql (t 54) (i 4)),
 g 55 (.mv (t 56))])
 (C (t 55)
 Z
 (S (R [g 57 (.bin .eql (t 54) (i 5)),
 g 55 (.mv (t 57))])
 (C (t 55)
 Z
 (R [g 58 (.bin .eql (t 54) (i 6)),
 g 55 (.mv (t 58))])))))
 (C (t 55)
 (S (R [g 59 (.mv (t 0)),
 g 60 (.load 3 true (t 3)),
 g 61 (.mv (t 6)),
 g 62 (.call .iso f_axiom_book_lone [(t 59), (t 60), (t 61)]),
 g 4 (.mv (t 62))])
 Q)
 (S (S (R [g 64 (.bin .eql (t 54) (i 7)),
 g 63 (.mv (t 64))])
 (C (t 63)
 Z
 (R [g 65 (.bin .eql (t 54) (i 8)),
 g 63 (.mv (t 65))])))
 (C (t 63)
 (S (R [g 66 (.mv (t 0)),
 g 67 (.load 3 true (t 3)),
 g 68 (.mv (t 6)),
 g 69 (.call .iso f_axiom_book_two [(t 66), (t 67), (t 68)]),
 g 4 (.mv (t 69))])
 Q)
 (S (R [g 71 (.bin .eql (t 54) (i 9)),
 g 70 (.mv (t 71))])
 (C (t 70)
 (S (R [g 72 (.mv (t 0)),
 g 73 (.load 3 true (t 3)),
 g 74 (.mv (t 6)),
 g 75 (.call .iso f_axiom_book_rule [(t 72), (t 73), (t 74)]),
 g 4 (.mv (t 75))])
 Q)
 (S (R [g 77 (.bin .eql (t 54) (i 10)),
 g 76 (.mv (t 77))])
 (C (t 76)
 (S (R [g 78 (.mv (t 0)),
 g 79 (.load 3 true (t 3)),
 g 80 (.mv (t 6)),
 g 81 (.call .iso f_axiom_book_hall [(t 78), (t 79), (t 80)]),
 g 4 (.mv (t 81))])
 Q)
 (S (R [g 83 (.bin .eql (t 54) (i 11)),
 g 82 (.mv (t 83))])
 (C (t 82)
 (S (R [g 84 (.mv (t 0)),
 g 85 (.load 3 true (t 3)),
 g 86 (.call .iso f_axiom_book_budget [(t 84), (t 85)]),
 g 4 (.mv (t 86))])
 Q)
 Z))))))))))))
 (S (R [g 4 (.mv (b false))])
 Q)))))))⟩
def pf_unit_Unit_ready : PF := ⟨1, [],
 (S (R [g 2 (.mv (t 0)),
 g 3 (.nilCheck (t 2)),
 g 4 (.faddr 2 (t 3)),
 g 5 (.load 1 false (t 4)),
 g 6 (.eq .mp false (t 5) (.c (.nilm)))])
 (C (t 6)
 (R [g 7 (.mv (t 0)),
 g 8 (.mv (t 0)),
 g 9 (.mkmap),
 g 10 (.mkmap),
 g 11 (.nilCheck (t 7)),
 g 12 (.faddr 1 (t 11)),
 u (.store 1 (t 12) (t 9)),
 g 13 (.nilCheck (t 8)),
 g 14 (.faddr 2 (t 13)),
 u (.store 1 (t 14) (t 10))])
 Z))⟩
def pf_when_within : PF := ⟨3, [.tmp 6],
 (S (R [g 6 (.mv (b false))])
 (S (R [g 7 (.mv (t 1)),
 g 8 (.mv (t 0)),
 g 9 (.bin .leq (t 7) (t 8)),
 g 10 (.mv (t 9)),
 gg 11 10 true (.mv (t 0)),
 gg 12 10 true (.mv (t 2)),
 gg 13 10 true (.bin .leq (t 11) (t 12)),
 g 14 (.pick (t 10) (t 13) (b false)),
 g 6 (.mv (t 14))])
 Q))⟩
def pf_when_Right : PF := ⟨2, [.tmp 4],
 (S (R [g 2 (.box 3 (t 0)),
 g 3 (.box 4 (t 1)),
 g 4 (.mv (b false))])
 (S (S (R [g 5 (.load 3 true (t 2)),
 g 6 (.call .iso f_when_RightGrid [(t 5)]),
 g 7 (.un .not (t 6)),
 g 8 (.mv (t 7)),
 gg 9 8 false (.load 4 true (t 3)),
 gg 10 8 false (.call .iso f_when_tame [(t 9)]),
 gg 11 8 false (.un .not (t 10)),
 g 12 (.pick (t 8) (b true) (t 11)),
 g 13 (.mv (t 12)),
 gg 14 13 false (.faddr 2 (t 3)),
 gg 15 13 false (.load 1 false (t 14)),
 gg 16 13 false (.faddr 3 (t 3)),
 gg 17 13 false (.load 1 false (t 16)),
 gg 18 13 false (.bin .add (t 15) (t 17)),
 gg 19 13 false (.faddr 2 (t 2)),
 gg 20 13 false (.load 1 false (t 19)),
 gg 21 13 false (.bin .gtr (t 18) (t 20)),
 g 22 (.pick (t 13) (b true) (t 21))])
 (C (t 22)
 (S (R [g 4 (.mv (b false))])
 Q)
 Z))
 (S (R [g 23 (.faddr 0 (t 3)),
 g 24 (.load 1 false (t 23)),
 g 25 (.bin .neq (t 24) (.c (.int .u32 (0)))),
 g 26 (.mv (t 25)),
 gg 27 26 true (.faddr 0 (t 3)),
 gg 28 26 true (.load 1 false (t 27)),
 gg 29 26 true (.faddr 0 (t 2)),
 gg 30 26 true (.load 1 false (t 29)),
 gg 31 26 true (.bin .shr (t 28) (t 30)),
 gg 32 26 true (.bin .eql (t 31) (.c (.int .u32 (0)))),
 g 33 (.pick (t 26) (t 32) (b false)),
 g 34 (.mv (t 33)),
 gg 35 34 true (.faddr 1 (t 3)),
 gg 36 34 true (.load 1 false (t 35)),
 gg 37 34 true (.bin .neq (t 36) (.c (.int .u8 (0)))),
 g 38 (.pick (t 34) (t 37) (b false)),
 g 39 (.mv (t 38)),
 gg 40 39 true (.faddr 1 (t 3)),
 gg 41 39 true (.load 1 false (t 40)),
 gg 42 39 true (.conv .i64 (t 41)),
 gg 43 39 true (.faddr 1 (t 2)),
 gg 44 39 true (.load 1 false (t 43)),
 gg 45 39 true (.bin .shr (t 42) (t 44)),
 gg 46 39 true (.bin .eql (t 45) (i 0)),
 g 47 (.pick (t 39) (t 46) (b false)),
 g 4 (.mv (t 47))])
 Q)))⟩
def pf_class_folk : PF := ⟨2, [.tmp 4],
 (S (R [g 4 (.mv (b false))])
 (S (R [g 5 (.mv (i (-1)))])
 (S (S (R [g 8 (.mv (t 0)),
 g 9 (.len 1 (t 8)),
 g 10 (.mv (i 0))])
 (K 0
 (L [0, 1, 5, 8, 9, 10]
 (S (R [g 11 (.bin .lss (t 10) (t 9))])
 (S (C (t 11)
 Z
 (X 0))
 (S (K 1
 (S (R [g 12 (.iaddr 1 (t 8) (t 10)),
 g 13 (.load 1 false (t 12)),
 g 7 (.mv (t 13))])
 (S (S (R [g 14 (.mv (t 7)),
 g 15 (.mv (t 5)),
 g 16 (.bin .leq (t 14) (t 15)),
 g 17 (.mv (t 16)),
 gg 18 17 false (.mv (t 7)),
 gg 19 17 false (.mv (t 1)),
 gg 20 17 false (.bin .geq (t 18) (t 19)),
 g 21 (.pick (t 17) (b true) (t 20))])
 (C (t 21)
 (S (R [g 4 (.mv (b false))])
 Q)
 Z))
 (R [g 22 (.mv (t 7)),
 g 5 (.mv (t 22))]))))
 (R [g 23 (.bin .add (t 10) (i 1)),
 g 10 (.mv (t 23))])))))))
 (S (R [g 24 (.mv (t 0)),
 g 25 (.len 1 (t 24)),
 g 26 (.bin .leq (t 25) (i 4)),
 g 4 (.mv (t 26))])
 Q))))⟩
def pf_class_times : PF := ⟨2, [.tmp 4],
 (S (R [g 2 (.box 3 (t 0)),
 g 4 (.mv (b false))])
 (S (R [g 8 (.mkmap),
 g 5 (.mv (t 8))])
 (S (S (R [g 9 (.mv (t 1)),
 g 10 (.len 1 (t 9)),
 g 11 (.mv (i 0))])
 (K 0
 (L [1, 2, 5, 9, 10, 11]
 (S (R [g 12 (.bin .lss (t 11) (t 10))])
 (S (C (t 12)
 Z
 (X 0))
 (S (K 1
 (S (R [g 13 (.iaddr 5 (t 9) (t 11)),
 g 14 (.load 5 true (t 13)),
 g 7 (.alloc (.agg [.int .u32 (0), .int .u8 (0), i64 0, i64 0, i64 0])),
 u (.store 5 (t 7) (t 14))])
 (S (S (R [g 15 (.load 3 true (t 2)),
 g 16 (.faddr 0 (t 7)),
 g 17 (.load 4 true (t 16)),
 g 18 (.call .iso f_when_Right [(t 15), (t 17)]),
 g 19 (.un .not (t 18)),
 g 20 (.mv (t 19)),
 gg 21 20 false (.faddr 4 (t 7)),
 gg 22 20 false (.load 1 false (t 21)),
 gg 23 20 false (.call .iso f_class_cheap [(t 22)]),
 gg 24 20 false (.un .not (t 23)),
 g 25 (.pick (t 20) (b true) (t 24)),
 g 26 (.mv (t 25)),
 gg 27 26 false (.mv (t 5)),
 gg 28 26 false (.faddr 0 (t 7)),
 gg 29 26 false (.load 4 true (t 28)),
 gg 30 26 false (.look (.st [.i, .i, .i, .i]) false (.bool false) (t 27) (t 29)),
 g 31 (.pick (t 26) (b true) (t 30))])
 (C (t 31)
 (S (R [g 4 (.mv (b false))])
 Q)
 Z))
 (R [g 32 (.mv (t 5)),
 g 33 (.faddr 0 (t 7)),
 g 34 (.load 4 true (t 33)),
 u (.mupd (.st [.i, .i, .i, .i]) (t 32) (t 34) (b true))]))))
 (R [g 35 (.bin .add (t 11) (i 1)),
 g 11 (.mv (t 35))])))))))
 (S (R [g 36 (.mv (t 1)),
 g 37 (.len 1 (t 36)),
 g 38 (.bin .gtr (t 37) (i 0)),
 g 39 (.mv (t 38)),
 gg 40 39 true (.mv (t 1)),
 gg 41 39 true (.len 1 (t 40)),
 gg 42 39 true (.bin .leq (t 41) (i 16)),
 g 43 (.pick (t 39) (t 42) (b false)),
 g 4 (.mv (t 43))])
 Q))))⟩
def pf_class_places : PF := ⟨2, [.tmp 4],
 (S (R [g 4 (.mv (b false))])
 (S (R [g 8 (.mkmap),
 g 5 (.mv (t 8))])
 (S (S (R [g 9 (.mv (t 1)),
 g 10 (.len 1 (t 9)),
 g 11 (.mv (i 0))])
 (K 0
 (L [0, 1, 5, 9, 10, 11]
 (S (R [g 12 (.bin .lss (t 11) (t 10))])
 (S (C (t 12)
 Z
 (X 0))
 (S (K 1
 (S (R [g 13 (.iaddr 2 (t 9) (t 11)),
 g 14 (.load 2 true (t 13)),
 g 7 (.alloc (.agg [i64 0, i64 0])),
 u (.store 2 (t 7) (t 14))])
 (S (S (R [g 15 (.faddr 0 (t 7)),
 g 16 (.load 1 false (t 15)),
 g 17 (.bin .lss (t 16) (i 0)),
 g 18 (.mv (t 17)),
 gg 19 18 false (.faddr 0 (t 7)),
 gg 20 18 false (.load 1 false (t 19)),
 gg 21 18 false (.mv (t 0)),
 gg 22 18 false (.bin .geq (t 20) (t 21)),
 g 23 (.pick (t 18) (b true) (t 22)),
 g 24 (.mv (t 23)),
 gg 25 24 false (.faddr 1 (t 7)),
 gg 26 24 false (.load 1 false (t 25)),
 gg 27 24 false (.call .iso f_class_cheap [(t 26)]),
 gg 28 24 false (.un .not (t 27)),
 g 29 (.pick (t 24) (b true) (t 28)),
 g 30 (.mv (t 29)),
 gg 31 30 false (.mv (t 5)),
 gg 32 30 false (.faddr 0 (t 7)),
 gg 33 30 false (.load 1 false (t 32)),
 gg 34 30 false (.look (.sc .i) false (.bool false) (t 31) (t 33)),
 g 35 (.pick (t 30) (b true) (t 34))])
 (C (t 35)
 (S (R [g 4 (.mv (b false))])
 Q)
 Z))
 (R [g 36 (.mv (t 5)),
 g 37 (.faddr 0 (t 7)),
 g 38 (.load 1 false (t 37)),
 u (.mupd (.sc .i) (t 36) (t 38) (b true))]))))
 (R [g 39 (.bin .add (t 11) (i 1)),
 g 11 (.mv (t 39))])))))))
 (S (R [g 40 (.mv (t 1)),
 g 41 (.len 1 (t 40)),
 g 42 (.bin .leq (t 41) (i 12)),
 g 4 (.mv (t 42))])
 Q))))⟩
def pf_lit_Map_Len : PF := ⟨1, [.tmp 2],
 (S (R [g 2 (.mv (i 0))])
 (S (S (R [g 3 (.mv (t 0)),
 g 4 (.eq .ptr false (t 3) (.c (.nilp)))])
 (C (t 4)
 (S (R [g 2 (.mv (i 0))])
 Q)
 Z))
 (S (R [g 5 (.mv (t 0)),
 g 6 (.nilCheck (t 5)),
 g 7 (.faddr 15 (t 6)),
 g 8 (.load 1 false (t 7)),
 g 9 (.len 1 (t 8)),
 g 2 (.mv (t 9))])
 Q)))⟩
def pf_lit_Map_What : PF := ⟨2, [.cell 4 3 true, .tmp 5],
 (S (R [g 4 (.alloc (.agg [i64 0, .bool false, i64 0])),
 g 5 (.mv (b false))])
 (S (R [g 7 (.mv (t 1)),
 g 8 (.call .iso f_lit_size [(t 7)]),
 g 6 (.mv (t 8))])
 (S (S (R [g 9 (.mv (t 6)),
 g 10 (.bin .eql (t 9) (.c (.int .u64 (0)))),
 g 11 (.mv (t 10)),
 gg 12 11 false (.mv (t 6)),
 gg 13 11 false (.mv (t 0)),
 gg 14 11 false (.call .iso f_lit_Map_Len [(t 13)]),
 gg 15 11 false (.conv .u64 (t 14)),
 gg 16 11 false (.bin .gtr (t 12) (t 15)),
 g 17 (.pick (t 11) (b true) (t 16))])
 (C (t 17)
 (S (R [g 18 (.build [i64 0, .bool false, i64 0] []),
 u (.store 3 (t 4) (t 18)),
 g 5 (.mv (b false))])
 Q)
 Z))
 (S (R [g 19 (.mv (t 0)),
 g 20 (.nilCheck (t 19)),
 g 21 (.faddr 15 (t 20)),
 g 22 (.load 1 false (t 21)),
 g 23 (.mv (t 6)),
 g 24 (.bin .sub (t 23) (.c (.int .u64 (1)))),
 g 25 (.iaddr 3 (t 22) (t 24)),
 g 26 (.load 3 true (t 25)),
 u (.store 3 (t 4) (t 26)),
 g 5 (.mv (b true))])
 Q))))⟩
def pf_spring_state_with : PF := ⟨2, [.tmp 4, .tmp 5],
 (S (R [g 3 (.box 3 (t 1)),
 g 4 (.mv (.c (.nilp))),
 g 5 (.mv (b false))])
 (S (S (D [] [g 8 (.mv (t 0)),
 g 9 (.nilCheck (t 8)),
 g 10 (.faddr 36 (t 9)),
 g 11 (.load 1 false (t 10)),
 g 12 (.load 3 true (t 3)),
 g 13 (.call .iso f_lit_Map_Of [(t 11), (t 12)]),
 g 14 (.bin .eql (t 13) (i 0))])
 (C (t 14)
 (S (R [g 4 (.mv (.c (.nilp))),
 g 5 (.mv (b false))])
 Q)
 Z))
 (S (R [g 15 (.mv (t 0)),
 g 16 (.nilCheck (t 15)),
 g 17 (.load 37 true (t 16)),
 g 6 (.alloc (.agg [.str ⟨#[]⟩, i64 0, i64 0, i64 0, nilsl, nilsl, nilsl, nilsl, nilsl, nilsl, nilsl, i64 0, i64 0, i64 0, i64 0, nilsl, i64 0, nilsl, nilsl, i64 0, .str ⟨#[]⟩, i64 0, i64 0, i64 0, nilsl, nilsl, nilsl, nilsl, nilsl, nilsl, nilsl, i64 0, i64 0, i64 0, i64 0, nilsl, .nilp])),
 u (.store 37 (t 6) (t 17))])
 (S (R [g 18 (.mv (t 0)),
 g 19 (.nilCheck (t 18)),
 g 20 (.faddr 35 (t 19)),
 g 21 (.load 1 false (t 20)),
 g 22 (.call .own f_sl_Clone_Seat_Seat [(t 21)]),
 g 23 (.faddr 35 (t 6)),
 u (.store 1 (t 23) (t 22))])
 (S (R [g 24 (.faddr 35 (t 6)),
 g 25 (.load 1 false (t 24)),
 g 26 (.faddr 0 (t 3)),
 g 27 (.load 1 false (t 26)),
 g 28 (.iaddr 2 (t 25) (t 27)),
 g 29 (.faddr 0 (t 28)),
 g 7 (.mv (t 29))])
 (S (S (R [g 30 (.faddr 1 (t 3)),
 g 31 (.load 1 false (t 30))])
 (C (t 31)
 (R [g 32 (.faddr 35 (t 6)),
 g 33 (.load 1 false (t 32)),
 g 34 (.faddr 0 (t 3)),
 g 35 (.load 1 false (t 34)),
 g 36 (.iaddr 2 (t 33) (t 35)),
 g 37 (.faddr 1 (t 36)),
 g 7 (.mv (t 37))])
 Z))
 (S (S (R [g 38 (.mv (t 7)),
 g 39 (.nilCheck (t 38)),
 g 40 (.load 1 false (t 39)),
 g 41 (.bin .geq (t 40) (i 0))])
 (C (t 41)
 (S (R [g 4 (.mv (.c (.nilp))),
 g 5 (.mv (b false))])
 Q)
 Z))
 (S (R [g 42 (.mv (t 7)),
 g 43 (.faddr 2 (t 3)),
 g 44 (.load 1 false (t 43)),
 g 45 (.nilCheck (t 42)),
 u (.store 1 (t 45) (t 44))])
 (S (R [g 4 (.mv (t 6)),
 g 5 (.mv (b true))])
 Q)))))))))⟩
def pf_lit_Map_number : PF := ⟨5, [.tmp 10],
 (S (R [g 10 (.mv (i 0))])
 (S (S (R [g 11 (.mv (t 3)),
 g 12 (.bin .lss (t 11) (i 0)),
 g 13 (.mv (t 12)),
 gg 14 13 false (.mv (t 3)),
 gg 15 13 false (.mv (t 4)),
 gg 16 13 false (.bin .geq (t 14) (t 15)),
 g 17 (.pick (t 13) (b true) (t 16))])
 (C (t 17)
 (S (R [g 10 (.mv (i 0))])
 Q)
 Z))
 (S (R [g 18 (.mv (t 1)),
 g 19 (.mv (t 2)),
 g 20 (.iaddr 1 (t 18) (t 19)),
 g 21 (.load 1 false (t 20)),
 g 22 (.mv (t 3)),
 g 23 (.bin .add (t 21) (t 22)),
 g 24 (.bin .add (t 23) (i 1)),
 g 10 (.mv (t 24))])
 Q)))⟩
end Hp.T
