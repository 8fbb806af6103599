/- Common ground: a pure interpreter for the program, and what it computes. -/
import Derived.Test.YtmeibjhimcgplaaGreatDoorHpD
import Derived.Test.YtmeibjhimcgplaaGreatDoorHpT0
import Derived.Test.YtmeibjhimcgplaaGreatDoorHpT1
import Derived.Test.YtmeibjhimcgplaaGreatDoorHpB
import Derived.Test.YtmeibjhimcgplaaGreatDoorHpC
import Derived.Lib.ItoaNum
import Derived.Lib.Join
import Derived.Lib.BitFns
import Derived.Lib.SliceRun
set_option linter.all false
section
set_option maxRecDepth 100000
namespace Hp.T
open Go
def tab : Tr PF := (.n none (.n none (.n none (.n none (.n none (.n (some pf_ref28_Same) (.n none (.n (some pf_seek_search_try) (.n (some pf_sl_Equal_int_int) .e .e) .e) .e) (.n (some pf_ref14_Rows) .e .e)) (.n none (.n none (.n none (.n (some pf_when_Right) .e .e) .e) (.n (some pf_lit_Map_Time) .e .e)) .e)) (.n none (.n (some pf_reason_Right) (.n none .e (.n (some pf_spring_state_hall) (.n (some pf_check_table_timed) .e .e) .e)) (.n (some pf_problem_rows) .e (.n none (.n (some pf_when_tame) .e .e) .e))) (.n none (.n none .e (.n (some pf_lit_size) .e .e)) (.n (some pf_class_Seat) (.n (some pf_problem_Check_3) .e .e) .e)))) (.n none (.n none (.n (some pf_ref19_Same) (.n (some pf_ref03_Ints) .e .e) (.n (some pf_ref14_Same) .e .e)) (.n (some pf_price_Of) (.n (some pf_plan_Whole) (.n (some pf_sl_DeleteFunc_Fault_Fault) (.n (some pf_class_times) .e .e) .e) (.n (some pf_sl_SortFunc_int_int) (.n (some pf_unit_clean) .e .e) .e)) (.n (some pf_problem_Check) .e (.n (some pf_check_table_alone) .e .e)))) (.n none (.n none (.n (some pf_seek_search_solve) .e (.n (some pf_spring_Free) .e .e)) (.n none (.n (some pf_when_RightGrid) .e .e) .e)) (.n (some pf_ref17_Same) (.n (some pf_check_Left) (.n (some pf_axiom_Right) .e .e) .e) (.n (some pf_spring_state_broken) .e (.n (some pf_unit_fresh) (.n (some pf_bits_Len64) .e .e) .e)))))) (.n none (.n none (.n none (.n (some pf_ref40_Under) (.n none (.n (some pf_sl_Contains_int_int) (.n (some pf_axiom_book_is) .e .e) .e) (.n (some pf_problem_bad_Rule) .e .e)) (.n (some pf_ref12_Same) (.n none .e (.n (some pf_axiom_turned) .e .e)) (.n (some pf_price_ends) .e .e))) (.n none (.n none .e (.n (some pf_sl_DeleteFunc_int_int) .e .e)) (.n none (.n (some pf_problem_bad_Person) .e .e) (.n (some pf_sl_IndexFunc_Fault_Fault) .e .e)))) (.n none (.n none (.n (some pf_spring_Broken) (.n (some pf_class_Whole) .e .e) (.n (some pf_seek_key) .e .e)) (.n none (.n none (.n (some pf_sl_pdqsortCmpFunc_int) .e .e) .e) (.n none (.n (some pf_class_cheap) .e .e) .e))) (.n (some pf_reason_Kept) (.n none (.n (some pf_unit_New) .e .e) (.n (some pf_sl_Compact_int_int) .e .e)) (.n none (.n (some pf_problem_bad_Course) .e .e) .e)))) (.n none (.n (some pf_law40_heads) (.n none (.n (some pf_reason_off) (.n none (.n (some pf_unit_Unit_ready) .e .e) .e) (.n (some pf_sl_IndexFunc_int_int) .e .e)) (.n none (.n none (.n (some pf_lit_Map_What) .e .e) .e) .e)) (.n none (.n none .e (.n none (.n (some pf_unit_Unit_spread) .e .e) .e)) (.n none (.n (some pf_problem_bad_Class) .e .e) .e))) (.n (some pf_best_Right) (.n none (.n none (.n none (.n (some pf_when_within) .e .e) .e) (.n (some pf_seek_with) .e .e)) .e) (.n (some pf_ref28_ints) (.n (some pf_judge_open) (.n (some pf_unit_Unit_Add) .e .e) (.n none (.n (some pf_axiom_book_budget) .e .e) .e)) (.n (some pf_seek_search_next) (.n (some pf_problem_bad_Student) .e .e) (.n (some pf_unit_Unit_look) .e .e))))))) (.n none (.n none (.n (some pf_law40_BestUnder) (.n none (.n (some pf_best_Under) (.n none (.n (some pf_lit_Map_Of) (.n (some pf_axiom_open) .e .e) .e) .e) (.n (some pf_ref11_Same) (.n none .e (.n (some pf_lit_Map_Seats) .e .e)) .e)) (.n none (.n none .e (.n (some pf_sl_Index_int_int) (.n (some pf_sl_stableCmpFunc_Fault) .e .e) .e)) (.n none (.n (some pf_room_RightWalk) .e .e) .e))) (.n none (.n (some pf_lit_New) (.n (some pf_plan_Empty) .e (.n (some pf_lit_Map_Fixed) .e .e)) (.n none (.n none (.n (some pf_lit_Map_number) .e .e) .e) .e)) (.n none (.n none .e (.n none (.n (some pf_axiom_book_sides) .e .e) .e)) (.n (some pf_sl_ContainsFunc_int_int) (.n (some pf_class_Right) .e .e) .e)))) (.n none (.n (some pf_law40_small) (.n none (.n (some pf_problem_Right) .e (.n (some pf_problem_cost) .e .e)) (.n (some pf_ref17_sameRule) (.n none (.n (some pf_lit_Map_Len) .e .e) .e) .e)) (.n none (.n (some pf_price_Least) (.n (some pf_check_Faults) (.n (some pf_class_places) .e .e) .e) (.n none (.n (some pf_unit_Unit_visit) .e .e) .e)) (.n none .e (.n (some pf_check_table_twos) .e .e)))) (.n none (.n none (.n (some pf_seek_search_steps) .e (.n (some pf_spring_Bars) .e .e)) (.n none (.n (some pf_problem_bad_Room) .e .e) .e)) (.n (some pf_ref28_Rows) (.n (some pf_reason_Spent) .e .e) (.n (some pf_seek_search_add) .e (.n (some pf_unit_Unit_put) .e .e)))))) (.n none (.n none (.n none (.n none (.n none (.n (some pf_lit_Sort) .e .e) .e) (.n (some pf_ref13_Same) .e (.n (some pf_class_Cost) .e .e))) (.n (some pf_law40_some) (.n none (.n none (.n (some pf_class_folk) .e .e) (.n (some pf_sl_insertionSortCmpFunc_Fault) .e .e)) (.n (some pf_lit_Sort_1) .e .e)) (.n none .e (.n (some pf_class_Spot) (.n (some pf_sl_insertionSortCmpFunc_int) .e .e) .e)))) (.n none (.n (some pf_seek_search_run) (.n (some pf_seek_search_broken) (.n (some pf_price_Parts) .e .e) (.n (some pf_seek_search_open) (.n (some pf_check_table_placed) .e .e) .e)) (.n none (.n (some pf_room_Name) (.n (some pf_bits_Len) .e .e) .e) .e)) (.n (some pf_judge_Judge) (.n none (.n (some pf_proof_Right) .e .e) .e) (.n (some pf_spring_open) .e .e)))) (.n none (.n (some pf_best_Best) (.n none (.n (some pf_plan_Right) .e .e) (.n none (.n none (.n (some pf_spring_state_with) .e .e) .e) .e)) (.n none .e (.n (some pf_plan_each) (.n (some pf_problem_className) .e .e) (.n (some pf_sl_SortStableFunc_Fault_Fault) .e .e)))) (.n none (.n none (.n none .e (.n (some pf_lit_Map_Place) .e .e)) .e) (.n (some pf_problem_Copy) (.n (some pf_judge_court_take) (.n (some pf_ref11_Rows) .e .e) .e) (.n (some pf_seek_search_choices) .e .e)))))))
end Hp.T
end
section
namespace Hp.T
open Go Hp
def cloneX (k bytes : Nat) : List PV → Option PV
  | [.isl _ sz es] => if es.isEmpty || (sz == k && okBytes (es.length * bytes)) then some (.isl true sz es) else none
  | _ => none
def itoaX : List PV → Option PV
  | [.int .i64 n] => if -9223372036854775808 ≤ n ∧ n ≤ 9223372036854775807 then some (.str ⟨(Go.Lib.itoa n).toArray⟩) else none
  | _ => none
def strsOf : List PV → Option (List ByteArray)
  | [] => some []
  | .str s :: l => match strsOf l with
    | some r => some (s :: r)
    | none => none
  | _ => none
def joinX : List PV → Option PV
  | [.isl _ sz es, .str sep] => match strsOf es with
    | some xs => if (xs = [] ∨ sz = 1) ∧ xs.length ≤ 140737488355328 ∧ (Go.Lib.join (xs.map (·.data.toList)) sep.data.toList).length ≤ 140737488355328 then some (.str ⟨(Go.Lib.join (xs.map (·.data.toList)) sep.data.toList).toArray⟩) else none
    | none => none
  | _ => none
def onesX : List PV → Option PV
  | [.int .u8 n] => if 0 ≤ n ∧ n ≤ 255 then some (.int .i64 (Go.Lib.onesCount n.toNat)) else none
  | _ => none
def extList : List (FuncId × Bool × (List PV → Option PV)) := [(f_strconv_Itoa, false, itoaX), (f_strings_Join, false, joinX), (f_bits_OnesCount8, false, onesX),
  (f_sl_Clone_Room_Room, true, cloneX 4 56),
  (f_sl_Clone_When_When, true, cloneX 4 24),
  (f_sl_Clone_Person_Person, true, cloneX 2 40),
  (f_sl_Clone_Class_Class, true, cloneX 7 112),
  (f_sl_Clone_int_int, true, cloneX 1 8),
  (f_sl_Clone_Time_Time, true, cloneX 5 32),
  (f_sl_Clone_Place_Place, true, cloneX 2 16),
  (f_sl_Clone_Course_Course, true, cloneX 2 40),
  (f_sl_Clone_Way_Way, true, cloneX 1 24),
  (f_sl_Clone_Student_Student, true, cloneX 2 40),
  (f_sl_Clone_Rule_Rule, true, cloneX 6 64),
  (f_sl_Clone__int__int, true, cloneX 1 24),
  (f_sl_Clone_Seat_Seat, true, cloneX 2 16)]
def findX (f : FuncId) : List (FuncId × Bool × (List PV → Option PV)) → Option (Bool × (List PV → Option PV))
  | [] => none
  | (g, x) :: l => if f = g then some x else findX f l
def extTab (f : FuncId) : Option (Bool × (List PV → Option PV)) := findX f extList
def E0 : Env := ⟨fun f => tab.get f, extTab⟩
def seek0 : PC := (R [g 2 (.box 20 (t 0)),
 g 3 (.box 1 (t 1)),
 g 4 (.alloc (.agg [i64 0, nilsl, nilsl, i64 0])),
 g 5 (.alloc (i64 0))])
def seekB : PC := (K 0
 (S (R [g 8 (.load 20 true (t 2)),
 g 9 (.call .iso f_reason_Right [(t 8)]),
 g 10 (.un .not (t 9)),
 g 7 (.mv (t 10))])
 (C (t 7)
 (S (R [g 11 (.build [i64 0, nilsl, nilsl, i64 0] []),
 u (.store 4 (t 4) (t 11)),
 u (.store 1 (t 5) (i 20))])
 Q)
 (S (R [g 13 (.load 1 false (t 3)),
 g 14 (.bin .lss (t 13) (i 0)),
 g 15 (.mv (t 14)),
 gg 16 15 false (.load 1 false (t 3)),
 gg 17 15 false (.bin .gtr (t 16) (i 1000000)),
 g 18 (.pick (t 15) (b true) (t 17)),
 g 12 (.mv (t 18))])
 (C (t 12)
 (S (R [g 19 (.build [i64 0, nilsl, nilsl, i64 0] []),
 u (.store 4 (t 4) (t 19)),
 u (.store 1 (t 5) (i 2))])
 Q)
 Z)))))
def seek5 : PC := (D [(0, 5), (2, 5), (3, 5), (4, 5)] [g 20 (.load 20 true (t 2)),
 g 21 (.faddr 0 (t 2)),
 g 22 (.load 15 true (t 21)),
 g 23 (.call .iso f_lit_New [(t 22)]),
 g 24 (.load 1 false (t 3)),
 g 25 (.mkmap),
 g 26 (.build [.str ⟨#[]⟩, i64 0, i64 0, i64 0, nilsl, nilsl, nilsl, nilsl, nilsl, nilsl, nilsl, i64 0, i64 0, i64 0, i64 0, nilsl, i64 0, nilsl, nilsl, i64 0, .nilp, i64 0, i64 0, i64 0, nilsl, .nilm, nilsl] [(0, 20, (t 20)), (20, 1, (t 23)), (21, 1, (t 24)), (23, 1, (i 0)), (25, 1, (t 25))]),
 g 27 (.box 27 (t 26)),
 g 6 (.mv (t 27))])
def seek7 : PC := (R [g 29 (.mv (t 6)),
 g 30 (.call .inl f_seek_search_run [(t 29)]),
 u (.store 4 (t 4) (t 30)),
 u (.store 1 (t 5) (i 0))])
def seekRes : List PRes := [.cell 4 4 true, .cell 5 1 false]
def seekOut (s : Hp.S) : Option PV := match resL s.fr s.h seekRes with
  | some l => reify s.h (.tup l)
  | none => none
abbrev goneT : TypeId := 95
/-- what is told when the fuel was gone -/
def seekGone (s : Hp.S) (as : List PV) : Option PV := match as, Fr.at s.fr 4, Fr.at s.fr 5 with
  | [.mptr i0 0 0, .mptr i1 0 0, .mptr i2 0 0], .mptr j1 0 0, .mptr j2 0 0 => match harr s.h i0, harr s.h i1, harr s.h i2 with
    | some (false, 1, [.int .i64 fuel]), some (false, 4, [.agg [_, _, _, _]]), some (false, 1, [.int _ _]) => if i1 = j1 ∧ i2 = j2 ∧ i1 ≠ i2 then some (.tup [.agg [i64 3, nilsl, nilsl, i64 fuel], i64 0]) else none
    | _, _, _ => none
  | _, _, _ => none
def seekMid (s : Hp.S) : Hp.S := { s with fr := Fr.set s.fr 28 .any, df := [(f_seek_Seek_1, [Fr.at s.fr 3, Fr.at s.fr 4, Fr.at s.fr 5])] }
def seekEnd : Option (PExit × Hp.S) → Option PV
  | some (.normal, s) => match s.df with
    | [(f, [_, _, _])] => if f = f_seek_Seek_1 then seekOut s else none
    | _ => none
  | some (.pan (.ifc t (.agg [])), s) => match s.df with
    | [(f, as)] => if f = f_seek_Seek_1 ∧ t = goneT then seekGone s as else none
    | _ => none
  | _ => none
/-- what Seek answers -/
def seekX (n : Nat) (args : List PV) : Option PV :=
  match exec (callN E0 n) E0.ext n seek0 ⟨Fr.args args, .e, 0, []⟩ with
  | some (.normal, s1) => match exec (callN E0 n) E0.ext n seekB s1 with
    | some (.ret, s2) => if s2.df.isEmpty then seekOut s2 else none
    | some (.normal, s2) => match exec (callN E0 n) E0.ext n seek5 s2 with
      | some (.normal, s3) => if s3.df.isEmpty then seekEnd (exec (callN E0 n) E0.ext n seek7 (seekMid s3)) else none
      | _ => none
    | _ => none
  | _ => none
def E1 (n : Nat) : Env := ⟨fun f => tab.get f, fun f => if f = f_seek_Seek then some (false, seekX n) else extTab f⟩
end Hp.T
end
section
namespace Hp
open Go
variable {P : Program} {τ : Tb} {w w' : World}
theorem step_run {ops : Array Oper} {Q : Exit → Act → World → Prop} {rest : List Oper} {o : Oper} {a : Act} {val : Value} (hg : o.guard = none) (hr : (execOp a.eval o).run P w = .ok (.value val) w')
    (hk : wpList P ops Q rest (a.put o.dst val) w') : wpList P ops Q (o :: rest) a w := by
  unfold wpList
  have hw : Region.wanted o (yielded ops a.tmps) = true := by simp [Region.wanted, hg]
  rw [hw]
  simp only [if_true]
  refine .inl ?_
  unfold Oper.wp
  rw [hr, Oper.upon_value]
  exact hk
theorem Grow.drewOuter (w : World) : Outer w w.drew := Grow.drew w .e noR _
theorem Grow.allocOuter (w : World) (o : Obj) : Outer w (w.alloc o) where
  os := rfl
  tape := rfl
  output := rfl
  size := by show w.heap.size ≤ (w.heap.push o).size; simp
  keep b hb _ := heap_alloc_lt w o hb
  own b hb := absurd hb own_e
  rho _ _ h := h
  row b c e f hb := ⟨c, f, by rw [heap_alloc_lt w o (lt_of_heap hb)]; exact hb, rfl⟩
theorem Outer.trans {w w' w'' : World} (a : Outer w w') (b : Outer w' w'') : Outer w w'' := Grow.trans a b
def cloneX (k bytes : Nat) : List PV → Option PV
  | [.isl _ sz es] => if es.isEmpty || (sz == k && okBytes (es.length * bytes)) then some (.isl true sz es) else none
  | _ => none
theorem clone_own {f : FuncId} {fn : Func} {T E : TypeId} {inf : TypeInfo} {zv : Value} {i0 i1 i2 i3 : Nat} {o0 o1 o2 o3 o4 o5 o6 o7 : Oper} {T' ty : TypeId}
    (hf : P.funcs[f]? = some fn)
    (hb : fn.body = some (.seq (.region i0 #[o0] false) (.seq (.seq (.region i1 #[o1, o2] false) (.cond (.tmp 4) (.seq (.region i2 #[o3] false) .ret) .skip)) (.seq (.region i3 #[o4, o5, o6, o7] false) .ret))))
    (hnt : fn.ntmps = 8) (hres : fn.results = #[.tmp 2])
    (e0 : o0 = ⟨some 2, .assign (.const (.slice none 0 0)), o0.type, o0.pos, o0.after, none⟩)
    (e1 : o1 = ⟨some 3, .move (.tmp 0), o1.type, o1.pos, o1.after, none⟩)
    (e2 : o2 = ⟨some 4, .binOp .eql T (.tmp 3) (.const (.slice none 0 0)) T', o2.type, o2.pos, o2.after, none⟩)
    (e3 : o3 = ⟨some 2, .assign (.const (.slice none 0 0)), o3.type, o3.pos, o3.after, none⟩)
    (e4 : o4 = ⟨some 5, .buildSlice T 0 #[], o4.type, o4.pos, o4.after, none⟩)
    (e5 : o5 = ⟨some 6, .move (.tmp 0), o5.type, o5.pos, o5.after, none⟩)
    (e6 : o6 = ⟨some 7, .call ⟨.builtin .append, #[.tmp 5, .tmp 6], #[T, T]⟩, ty, o6.pos, o6.after, none⟩)
    (e7 : o7 = ⟨some 2, .assign (.tmp 7), o7.type, o7.pos, o7.after, none⟩)
    (hT : P.underlying T = some (.slice E)) (hinfo : P.info? E = some inf) (hz : inf.zero = some zv) (hzc : zv.cells.size = inf.size) (hpos : 0 < inf.size) (hb0 : inf.bytes ≠ 0)
    {args : List PV} {full : Bool} {sz : Nat} {es : List PV} (hg : cloneX inf.size inf.bytes args = some (.isl full sz es)) {N : Nat → Prop} {vs : Array Value} (hN : ∀ b, N b → b < w.heap.size) (hr : RelL w N noR args vs) :
    Calls P f vs w fun e w' => Outer w w' ∧ ((es = [] ∧ ∃ a, e = .returned (.slice a 0 0)) ∨
      (es ≠ [] ∧ ∃ (b : Nat) (c : Array Value) (te : TypeId) (cap : Nat), e = .returned (.slice (some ⟨b, 0, none⟩) es.length cap) ∧ w.heap.size ≤ b ∧ w'.heap[b]? = some (.cells c te (0, 0)) ∧
        es.length ≤ cap ∧ cap * sz ≤ c.size ∧ 0 < sz ∧ ERel w' (fun b' => N b' ∨ b' = b) noR sz es c)) := by
  obtain ⟨fu, sz0, rfl, hfull, rfl, hcnd⟩ : ∃ fu sz0, args = [.isl fu sz0 es] ∧ full = true ∧ sz0 = sz ∧ (es = [] ∨ (sz = inf.size ∧ okBytes (es.length * inf.bytes) = true)) := by
    unfold cloneX at hg
    split at hg
    · split at hg
      · rename_i hc
        cases hg
        simp only [Bool.or_eq_true, Bool.and_eq_true, beq_iff_eq, List.isEmpty_iff] at hc
        exact ⟨_, _, rfl, rfl, rfl, hc⟩
      · cases hg
    · cases hg
  obtain ⟨hvs, hrel⟩ := hr
  obtain ⟨v, rfl⟩ : ∃ v, vs = #[v] := by
    obtain ⟨l⟩ := vs
    match l, hvs with
    | [v], _ => exact ⟨v, rfl⟩
  have hv : Rel w N noR (.isl fu sz0 es) v := by have := hrel 0 (by simp); simpa using this
  clear hrel hvs hg
  let F : Fx ([] : Tb) := ⟨N, fun _ => False, 0⟩
  have hNN : ∀ b, NN F .e noR b ↔ N b := fun b => NN_e
  have hNN' : NN F .e noR = N := funext fun b => propext NN_e
  have hi : Inv w F noR .e 0 := {
    obj := fun id x hx => by rw [get_e] at hx; cases hx
    fz := fun id x l hx => by rw [get_e] at hx; cases hx
    inj := fun i j x y l l' hx => by rw [get_e] at hx; cases hx
    idh := fun id x hx => by rw [get_e] at hx; cases hx
    idr := fun id l hl => by simp [noR] at hl
    lo := Nat.le_refl _
    blk := fun id l hl => by simp [noR] at hl
    fF := hN
    disj := fun b hb => absurd hb own_e
    tb := fun x hx => by cases hx }
  have hel : elems .e inf.size (.isl fu sz0 es) = some es := by
    simp only [elems]
    rw [if_pos]
    rcases hcnd with h | ⟨h, _⟩
    · simp [h]
    · simp [h]
  -- the world behind the row of nothing
  have ho1 := Grow.allocOuter w (.cells #[] E)
  have hi1 := (hi.outer ho1).drew
  have hv1 : Rel (w.alloc (.cells #[] E)).drew (NN F .e noR) noR (.isl fu sz0 es) v := by
    have h1 := Rel.keep ((ho1.grow .e noR).toKeep F) (hNN' ▸ hv : Rel w (NN F .e noR) noR (.isl fu sz0 es) v)
    exact h1.drew
  obtain ⟨base, cap, rfl, hfc⟩ := elems_run (P := P) hi1 hel hv1
  obtain ⟨cs, c1, c2, c3⟩ := hfc es.length (Nat.le_refl _)
  rw [List.take_length] at c3
  have hsize : sizeT P E = some inf.size := by simp [sizeT, hinfo]
  rw [e0] at hb; rw [e1, e2, e3, e4, e5, e6, e7] at hb
  refine calls_of_wp_defers hf hb ?_
  rw [hnt]
  refine wp_seq (wp_region_list (step_run rfl (val := .slice none 0 0) (w' := w) (by simp [execOp, Act.eval]) ?_))
  refine wp_seq (wp_seq (wp_region_list (step_run rfl (val := .slice base es.length cap) (w' := w) (by simp [execOp, Act.eval, Act.put]) (step_run rfl (val := .bool base.isNone) (w' := w) ?_ ?_))))
  · simp [execOp, Act.eval, Act.put, Go.Lib.run_eql_slice_nil w T E base es.length cap 0 0 hT, eqGuard_at_slice]
  refine wp_cond (t := base.isNone) (by simp [Act.eval, Act.put]) ?_
  cases base with
  | none =>
    simp only [Option.isNone_none, if_true]
    have hes : es = [] := by
      cases hv with
      | isl0 => rfl
    refine wp_seq (wp_region_list (step_run rfl (val := .slice none 0 0) (w' := w) (by simp [execOp, Act.eval]) ?_))
    refine wp_ret ?_
    show Leaves P fn _ _ _ .returning w
    refine ⟨.slice none 0 0, by simp [results, hres, Act.put], .refl .., .inl ⟨hes, none, rfl⟩⟩
  | some ad =>
    simp only [Option.isNone_some, Bool.false_eq_true, if_false]
    refine wp_skip ?_
    have hbs : ∀ ev, (execOp ev ⟨some 5, .buildSlice T 0 #[], o4.type, o4.pos, o4.after, none⟩).run P w = .ok (.value (.slice (some ⟨w.heap.size, 0, none⟩) 0 0)) (w.alloc (.cells #[] E)) := by
      intro ev
      simp [execOp, Instr.buildSlice, run_underlying hT, run_sizeOf hsize, Instr.fill, newRow]
      congr 2
      exact Array.eq_empty_of_size_eq_zero (by simp)
    refine wp_seq (wp_region_list (step_run rfl (hbs _) (step_run rfl (val := .slice (some ad) es.length cap) (w' := w.alloc (.cells #[] E)) (by simp [execOp, Act.eval, Act.put]) ?_)))
    by_cases hes : es = []
    · subst hes
      have ⟨cs0, d1, d2, d3⟩ := hfc 0 (Nat.le_refl _)
      have hc0 : cs0 = #[] := Array.eq_empty_of_size_eq_zero (by simpa using d2)
      subst hc0
      have d1' : (Builtin.firstCells inf.size 0 (.slice (some ad) 0 cap)).run P (w.alloc (.cells #[] E)) = .ok #[] (w.alloc (.cells #[] E)) := by
        simp [Builtin.firstCells, loadCells, loadCellsFrom]
      have happ := append_room (P := P) (w := w.alloc (.cells #[] E)) (t := T) (u := T) (ty := ty) (b := some ⟨w.heap.size, 0, none⟩) (sLen := 0) (sCap := 0) (b2 := some ad) (n := 0) (c2 := cap) hT hT hinfo (Nat.le_refl _) d1'
      refine step_run rfl (val := .slice (some ⟨w.heap.size, 0, none⟩) 0 0) (w' := w.alloc (.cells #[] E)) ?_ (step_run rfl (val := .slice (some ⟨w.heap.size, 0, none⟩) 0 0) (w' := w.alloc (.cells #[] E)) (by simp [execOp, Act.eval, Act.put]) ?_)
      · have hex : ∀ (a : Act) (o : Oper), o.op = .call ⟨.builtin .append, #[.tmp 5, .tmp 6], #[T, T]⟩ → o.type = ty → a.eval (.tmp 5) = .slice (some ⟨w.heap.size, 0, none⟩) 0 0 → a.eval (.tmp 6) = .slice (some ad) 0 cap →
            (execOp a.eval o).run P (w.alloc (.cells #[] E)) = .ok (.value (.slice (some ⟨w.heap.size, 0, none⟩) 0 0)) (w.alloc (.cells #[] E)) := by
          intro a o ho hty h5 h6
          obtain ⟨cq, he⟩ := run_builtin (P := P) (w := w.alloc (.cells #[] E)) .append ⟨.builtin .append, #[.tmp 5, .tmp 6], #[T, T]⟩ rfl a.eval o.type
          have : execOp a.eval o = (do let d ← resolve a.eval ⟨.builtin .append, #[.tmp 5, .tmp 6], #[T, T]⟩ o.type; invoke d.target d.args) := by unfold execOp; rw [ho]
          rw [this, he, hty]
          simp only [List.map_toArray, List.map_cons, List.map_nil, h5, h6, builtin]
          rw [Sem.run_bind, happ]
          simp [storeCells]
        exact hex _ _ rfl rfl (by simp [Act.eval, Act.put]) (by simp [Act.eval, Act.put])
      · refine wp_ret ?_
        show Leaves P fn _ _ _ .returning _
        refine ⟨.slice (some ⟨w.heap.size, 0, none⟩) 0 0, by simp [results, hres, Act.put], ho1, .inl ⟨rfl, _, rfl⟩⟩
    · obtain ⟨hsz, hok⟩ := hcnd.resolve_left hes
      have hlen := List.length_pos_iff.2 hes
      have hfit : Builtin.nextslicecap (0 + es.length) 0 * inf.bytes ≤ 281474976710656 := by
        have : Builtin.nextslicecap (0 + es.length) 0 = es.length := by unfold Builtin.nextslicecap; rw [if_pos (by omega)]; omega
        rw [this]; simpa [okBytes] using hok
      have happ := append_grow (P := P) (w := w.alloc (.cells #[] E)) (t := T) (u := T) (ty := ty) hT hT hinfo hz hb0 (b := some ⟨w.heap.size, 0, none⟩) (b2 := some ad) (sLen := 0) (sCap := 0) (n := es.length) (c2 := cap) (by omega) hfit (c1 := #[]) (c3 := cs) (by simp [Builtin.firstCells, loadCells, loadCellsFrom]) c1
      have hcap := grownCap_ge (w.alloc (.cells #[] E)) (0 + es.length) 0 E
      generalize hgc : grownCap (w.alloc (.cells #[] E)) (0 + es.length) 0 E = gc at happ hcap
      generalize hcc : (#[] ++ cs ++ Builtin.zeroCells zv.cells (gc - (0 + es.length))) = cc at happ
      have hcs : ∀ j, j < cs.size → cc.getD j undef = cs.getD j undef := by
        intro j hj
        subst hcc
        simp [Array.getD, Array.getElem_append, hj]
        intro h; omega
      have hccs : gc * inf.size ≤ cc.size := by
        subst hcc
        have hm : gc * inf.size = (es.length + (gc - es.length)) * inf.size := by congr 1; omega
        simp only [Array.size_append, size_zeroCells, hzc, c2]
        rw [hm, Nat.add_mul]
        simp
      refine step_run rfl (val := .slice (some ⟨(w.alloc (.cells #[] E)).heap.size, 0, none⟩) es.length gc) (w' := (w.alloc (.cells #[] E)).drew.alloc (.cells cc E)) ?_ (step_run rfl (val := .slice (some ⟨(w.alloc (.cells #[] E)).heap.size, 0, none⟩) es.length gc) (w' := (w.alloc (.cells #[] E)).drew.alloc (.cells cc E)) (by simp [execOp, Act.eval, Act.put]) ?_)
      · rw [Nat.zero_add] at happ
        have hex : ∀ (a : Act) (o : Oper), o.op = .call ⟨.builtin .append, #[.tmp 5, .tmp 6], #[T, T]⟩ → o.type = ty → a.eval (.tmp 5) = .slice (some ⟨w.heap.size, 0, none⟩) 0 0 → a.eval (.tmp 6) = .slice (some ad) es.length cap →
            (execOp a.eval o).run P (w.alloc (.cells #[] E)) = .ok (.value (.slice (some ⟨(w.alloc (.cells #[] E)).heap.size, 0, none⟩) es.length gc)) ((w.alloc (.cells #[] E)).drew.alloc (.cells cc E)) := by
          intro a o ho hty h5 h6
          obtain ⟨cq, he⟩ := run_builtin (P := P) (w := w.alloc (.cells #[] E)) .append ⟨.builtin .append, #[.tmp 5, .tmp 6], #[T, T]⟩ rfl a.eval o.type
          have : execOp a.eval o = (do let d ← resolve a.eval ⟨.builtin .append, #[.tmp 5, .tmp 6], #[T, T]⟩ o.type; invoke d.target d.args) := by unfold execOp; rw [ho]
          rw [this, he, hty]
          simp only [List.map_toArray, List.map_cons, List.map_nil, h5, h6, builtin]
          rw [Sem.run_bind, happ]
          rfl
        exact hex _ _ rfl rfl (by simp [Act.eval, Act.put]) (by simp [Act.eval, Act.put])
      · refine wp_ret ?_
        show Leaves P fn _ _ _ .returning _
        have ho2 : Outer w ((w.alloc (.cells #[] E)).drew.alloc (.cells cc E)) := (ho1.trans (Grow.drewOuter _)).trans (Grow.allocOuter _ _)
        refine ⟨.slice (some ⟨(w.alloc (.cells #[] E)).heap.size, 0, none⟩) es.length gc, by simp [results, hres, Act.put], ho2, .inr ⟨hes, _, cc, E, gc, rfl, ho1.size, heap_alloc_new .., by omega, by rw [hsz]; exact hccs, by rw [hsz]; exact hpos, ?_⟩⟩
        have c3' : ERel (w.alloc (.cells #[] E)).drew (NN F .e noR) noR inf.size es cc := by
          refine ⟨by rw [← c2, ← hcc]; simp, fun i hi => ⟨(c3.2 i hi).1, fun j hj => ?_⟩⟩
          have hlt : i * inf.size + j < cs.size := by
            rw [c2]
            have : (i + 1) * inf.size ≤ es.length * inf.size := Nat.mul_le_mul_right _ hi
            rw [Nat.add_mul] at this; omega
          rw [hcs _ hlt]; exact (c3.2 i hi).2 j hj
        rw [hsz]
        refine c3'.keep ⟨fun b hb hlt => ⟨?_, ?_⟩, fun id l hl => hl, (Grow.allocOuter _ _).size, (Grow.allocOuter _ _).row⟩
        · exact heap_alloc_lt _ _ hlt
        · rw [hNN'] at hb
          rintro (h | h)
          · exact hb h
          · subst h; exact Nat.lt_irrefl _ hlt
end Hp
end
section
namespace Hp.T
open Go Hp
theorem seek_le {n m : Nat} (h : n ≤ m) {l : List PV} {r : PV} (hx : seekX n l = some r) : seekX m l = some r := by
  have le : ∀ {pc : PC} {s : Hp.S} {r : PExit × Hp.S}, exec (callN E0 n) E0.ext n pc s = some r → exec (callN E0 m) E0.ext m pc s = some r := fun h' => execN_le (ELe.refl E0) h h'
  unfold seekX at hx ⊢
  split at hx
  case h_2 => cases hx
  rename_i s1 h1
  simp only [le h1]
  split at hx
  case h_3 => cases hx
  · rename_i s2 h2; simp only [le h2]; exact hx
  · rename_i s2 h2
    simp only [le h2]
    split at hx
    case h_2 => cases hx
    rename_i s3 h3
    simp only [le h3]
    split at hx
    case isFalse => cases hx
    rename_i h4
    rw [if_pos h4]
    cases h5 : exec (callN E0 n) E0.ext n seek7 (seekMid s3) with
    | none => rw [h5] at hx; cases hx
    | some p => rw [h5] at hx; rw [le h5]; exact hx
open Classical in
noncomputable def seekP (l : List PV) : Option PV := if h : ∃ r n, seekX n l = some r then some h.choose else none
theorem seekP_of {n : Nat} {l : List PV} {r : PV} (h : seekX n l = some r) : seekP l = some r := by
  have he : ∃ r n, seekX n l = some r := ⟨r, n, h⟩
  unfold seekP
  rw [dif_pos he]
  obtain ⟨m, hm⟩ := he.choose_spec
  have h1 := seek_le (Nat.le_max_left n m) h
  have h2 := seek_le (Nat.le_max_right n m) hm
  rw [h1] at h2
  exact congrArg some (Option.some.inj h2).symm
theorem seekP_is {l : List PV} {r : PV} (h : seekP l = some r) : ∃ n, seekX n l = some r := by
  unfold seekP at h
  split at h
  · rename_i he; cases h; exact he.choose_spec
  · cases h
noncomputable def E2 : Env := ⟨fun f => tab.get f, fun f => if f = f_seek_Seek then some (false, seekP) else extTab f⟩
theorem ext_seek : extTab f_seek_Seek = none := by decide +kernel
theorem E0_le : ELe E0 E2 := ⟨fun _ _ h => h, fun f b g h => ⟨g, by
  have hne : f ≠ f_seek_Seek := fun e => by rw [e] at h; exact absurd (ext_seek.symm.trans h) (by simp)
  simp only [E2, if_neg hne]; exact h, fun _ _ h => h⟩⟩
theorem E1_le (n : Nat) : ELe (E1 n) E2 := ⟨fun _ _ h => h, fun f b g h => by
  simp only [E1] at h
  by_cases hf : f = f_seek_Seek
  · rw [if_pos hf] at h; cases h
    exact ⟨seekP, by simp only [E2, if_pos hf], fun l r h => seekP_of h⟩
  · rw [if_neg hf] at h
    exact ⟨g, by simp only [E2, if_neg hf]; exact h, fun _ _ h => h⟩⟩
theorem Iso_le {E E' : Env} (hE : ELe E E') {f : FuncId} {l : List PV} {r : PV} (h : Iso E f l r) : Iso E' f l r := by
  obtain ⟨N, h⟩ := h
  refine ⟨N, fun n hn => ?_⟩
  obtain ⟨v, h', nx', h1, h2⟩ := h n hn
  exact ⟨v, h', nx', callN_le hE (Nat.le_refl n) _ _ _ _ _ h1, h2⟩
theorem Iso_run {E E' : Env} (hE : ELe E E') {f : FuncId} {l : List PV} {n : Nat} {r : PV} {v : PV} {h' : Heap} {nx' : Nat} (h : callN E n f l .e 0 = some (.ret v, h', nx')) (hr : reify h' v = some r) : Iso E' f l r :=
  ⟨n, fun m hm => ⟨v, h', nx', callN_le hE hm _ _ _ _ _ h, hr⟩⟩
def isTrue : Option (Hp.Out × Heap × Nat) → Bool
  | some (.ret (.bool b), _, _) => b
  | _ => false
theorem Iso_true {n : Nat} {f : FuncId} {l : List PV} (h : isTrue (callN (E1 n) n f l .e 0) = true) : Iso E2 f l (.bool true) := by
  unfold isTrue at h
  split at h
  · rename_i b h' nx' hq; subst h; exact Iso_run (E1_le n) hq rfl
  · cases h
end Hp.T
end
