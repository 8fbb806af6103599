/- Common ground: a pure interpreter for the program, and what it computes. -/
import Derived.Test.YtmeibjhimcgplaaGreatDoorHpS2
import Derived.Test.YtmeibjhimcgplaaGreatDoorHpP1
import Derived.Test.YtmeibjhimcgplaaGreatDoorHpH
set_option linter.all false
section
set_option maxRecDepth 100000
namespace Hp.T
open Go Hp
attribute [local irreducible] RunsC RunsO RunsL OpW W Iso FW
theorem W_nd {R : Hp.S → PExit → Hp.S → Prop} {al : AL} {B : BL} {df : DF} {K : PExit → AL → BL → DF → Prop} (h : (keys B).Nodup → W R al B df K) : W R al B df K := by
  unfold W at h ⊢
  exact fun fr hh nx hf hp => h hp.nd fr hh nx hf hp
theorem seq_B {E : Env} {b : PC} {K : PExit → AL → BL → DF → Prop} {al : AL} {B B' : BL} {df : DF} (e : B = B') (h : WC E b al B' df K) : seqK E b K .normal al B df := e ▸ h
theorem W_cut {E : Env} {a b : PC} {K : PExit → AL → BL → DF → Prop} {al : AL} {B : BL} {df : DF} (al1 : AL) (B1 : BL) (h : WC E a al B df (fun e al' B' df' => e = .normal ∧ AlSub al1 al' ∧ B' = B1 ∧ df' = df)) (h2 : WC E b al1 B1 df K) : WC E (.seq a b) al B df K := by
  refine W_seq (h.mono fun e al' B' df' hh => ?_)
  obtain ⟨rfl, h3, rfl, rfl⟩ := hh
  show WC E b al' _ _ K
  unfold WC W at h2 ⊢
  exact fun fr hh nx hf hp => h2 fr hh nx (hf.sub h3) hp
theorem off_rd0 {j n : Nat} {C : BL} {l : List Reason} (h : l = []) : Rd1 ((j, (⟨false, .arr 2 []⟩ : HO)) :: C) (n + 1) (.msl j 0 0 0) ((⟨false, 2, l⟩ : Sl Reason).e Reason.e) := by
  subst h; exact .msl (.head _) rfl .nil
theorem off_rd {j n : Nat} {C : BL} (l : List Reason) : Rd1 ((j, (⟨false, .arr 2 ([] ++ l.map Reason.e)⟩ : HO)) :: C) (n + 1) (.msl j 0 (0 + (l.map Reason.e).length) (0 + (l.map Reason.e).length)) ((⟨false, 2, l⟩ : Sl Reason).e Reason.e) := by
  rw [Nat.zero_add]; exact .msl (.head _) rfl ⟨_, .imm (immL_map _ _ imm_Reason)⟩
def slNil {α : Type} : Sl α := ⟨true, 0, []⟩
def under (a : Ask) (most : Int) : Ask := ⟨copyProblem a.problem, ⟨false, 2, a.off.l⟩, 1, slNil, slNil, most⟩
def refUnder (a : Ask) (most : Int) : Ask := ⟨a.problem, a.off, 1, slNil, slNil, most⟩
theorem refUnder_ok (a : Ask) (m : Int) : Iso E2 f_ref40_Under [a.e, i64 m] (refUnder a m).e := by
  refine Iso_body rfl ?_
  (repeat (first | refine GO0 ?_ | ((first | refine WO_op ?_ | refine WO_op0 ?_); (first | refine o_box rfl rfl rfl fun i => ?_ | refine o_alloc fun i => ?_)) | refine CH1 ?_))
  exact ret_cell rfl rfl (by (repeat (first | exact .head _ | refine .tail _ ?_ | refine List.mem_append_right _ ?_))) rfl rfl (.imm (imm_Ask (refUnder a m)))
theorem under_ok (hcopy : ∀ p : Problem, p.good → Iso E2 f_problem_Copy [p.e] ((copyProblem p).e)) (a : Ask) (ha : a.good) (ho : a.off.l.length ≤ 30) (m : Int) : Iso E2 f_best_Under [a.e, i64 m] (under a m).e := by
  have hc := hcopy a.problem ha.problem
  have hi : immL [a.problem.e] = true := by simp [immL]
  refine Iso_body rfl ?_
  (repeat (first | ((first | refine WO_op ?_ | refine WO_op0 ?_); (first | refine o_lits rfl rfl fun j => ?_ | refine o_box rfl rfl rfl fun i => ?_ | refine o_alloc fun i => ?_)) | refine GS ?_ | refine CH1 ?_))
  rename_i i2
  refine W_nd fun hn => ?_
  have hne : j ≠ i2 := by
    have := (List.nodup_cons.1 hn).1
    intro e; apply this; rw [e]; simp
  have hw := hne
  have ap : ∀ {al : AL}, opdGet al (t 2) = some (.mptr i2 0 0) → opdGet al (t 5) = some (.mptr i2 0 0) → opdGet al (t 9) = some (.mptr i2 0 15) → alGet al 8 = some (.msl j 0 0 0) → opdGets al [t 6] = some [a.problem.e] →
      apartAL al [g 5 (.faddr 0 (t 2)), g 6 (.load 15 true (t 5)), g 7 (.call .iso f_problem_Copy [t 6]), g 8 (.lits 2 0 (.agg [i64 0, i64 0]) []), g 9 (.faddr 15 (t 2)), g 10 (.load 1 false (t 9)), g 11 (.app 16 (.agg [i64 0, i64 0]) (t 8) (t 10)), g 12 (.faddr 0 (t 2)), u (.store 15 (t 12) (t 7)), g 13 (.faddr 15 (t 2)), u (.store 1 (t 13) (t 11))] [(1, 3), (2, 3), (3, 5)] = true := by
    intro al h2 h5 h9 h8 h6
    refine apart_cons rfl rfl ?_ (apart_cons rfl rfl ?_ (apart_cons rfl rfl ?_ rfl))
    · rw [tAL_q rfl h5, tAL_new rfl rfl h8]; exact clash_qn (one_ne hne)
    · rw [tAL_iso h6 hi, tAL_new rfl rfl h8]; exact clash_qn (fun x _ h => by cases h)
    · rw [tAL_new rfl rfl h8, tAL_q rfl h9]; exact clash_nq (one_ne hne)
  by_cases hoff : a.off.l = []
  · have hel : ElB [(j, (⟨false, .arr 2 (List.replicate 0 (.agg [i64 0, i64 0]))⟩ : HO)), (i, ⟨false, .arr 20 [.agg [.str ⟨#[]⟩, i64 0, i64 0, i64 0, nilsl, nilsl, nilsl, nilsl, nilsl, nilsl, nilsl, i64 0, i64 0, i64 0, i64 0, nilsl, i64 0, nilsl, nilsl, i64 0]]⟩), (i2, ⟨false, .arr 20 [a.e]⟩)] 2 (a.off.e Reason.e) [] := .inl ⟨a.off.fu, a.off.sz, by simp only [Sl.e, hoff, List.map_nil], .inl rfl⟩
    (repeat (first | ((first | refine WO_op ?_ | refine WO_op0 ?_); (first | refine o_app_nilm rfl rfl hel ?_ | refine o_box rfl rfl rfl fun i => ?_ | refine o_alloc fun i => ?_)) | refine GS ?_ | refine CH1 ?_))
    refine drawKU_nil (fun _ => ap rfl rfl rfl rfl rfl) ?_
    refine seq_B (B' := [(j, (⟨false, .arr 2 []⟩ : HO)), (i, ⟨false, .arr 20 [.agg [.str ⟨#[]⟩, i64 0, i64 0, i64 0, nilsl, nilsl, nilsl, nilsl, nilsl, nilsl, nilsl, i64 0, i64 0, i64 0, i64 0, nilsl, i64 0, nilsl, nilsl, i64 0]]⟩), (i2, (⟨false, .arr 20 [.agg [.str a.problem.name, i64 a.problem.grid.weeks, i64 a.problem.grid.days, i64 a.problem.grid.slots, (copyProblem a.problem).rooms.e Room.e, (copyProblem a.problem).walk.e (Sl.e i64), (copyProblem a.problem).persons.e Person.e, (copyProblem a.problem).classes.e Class.e, (copyProblem a.problem).courses.e Course.e, (copyProblem a.problem).students.e Student.e, (copyProblem a.problem).rules.e Rule.e, i64 a.problem.weigh.time, i64 a.problem.weigh.place, i64 a.problem.weigh.rule, i64 a.problem.weigh.clash, .msl j 0 0 0, i64 a.budget, a.old.e Seat.e, a.weights.e i64, i64 a.most]]⟩ : HO))]) rfl ?_
    refine W_cut [(2, .mptr i2 0 0), (4, .mptr i 0 0)] [(j, (⟨false, .arr 2 []⟩ : HO)), (i, ⟨false, .arr 20 [.agg [.str ⟨#[]⟩, i64 0, i64 0, i64 0, nilsl, nilsl, nilsl, nilsl, nilsl, nilsl, nilsl, i64 0, i64 0, i64 0, i64 0, nilsl, i64 0, nilsl, nilsl, i64 0]]⟩), (i2, (⟨false, .arr 20 [.agg [.str a.problem.name, i64 a.problem.grid.weeks, i64 a.problem.grid.days, i64 a.problem.grid.slots, (copyProblem a.problem).rooms.e Room.e, (copyProblem a.problem).walk.e (Sl.e i64), (copyProblem a.problem).persons.e Person.e, (copyProblem a.problem).classes.e Class.e, (copyProblem a.problem).courses.e Course.e, (copyProblem a.problem).students.e Student.e, (copyProblem a.problem).rules.e Rule.e, i64 a.problem.weigh.time, i64 a.problem.weigh.place, i64 a.problem.weigh.rule, i64 a.problem.weigh.clash, .msl j 0 0 0, i64 1, nilsl, nilsl, i64 m]]⟩ : HO))] (W_region ?_) ?_
    · (repeat (first | refine GO0 ?_ | ((first | refine WO_op ?_ | refine WO_op0 ?_); (first | refine o_box rfl rfl rfl fun i => ?_ | refine o_alloc fun i => ?_)) | refine CH1 ?_))
      exact ⟨rfl, .cons rfl (.cons rfl .nil), rfl, rfl⟩
    · (repeat (first | refine GO0 ?_ | ((first | refine WO_op ?_ | refine WO_op0 ?_); (first | refine o_box rfl rfl rfl fun i => ?_ | refine o_alloc fun i => ?_)) | refine CH1 ?_))
      have h : Rd1 [(j, (⟨false, .arr 2 []⟩ : HO))] deep (.agg [.str a.problem.name, i64 a.problem.grid.weeks, i64 a.problem.grid.days, i64 a.problem.grid.slots, (copyProblem a.problem).rooms.e Room.e, (copyProblem a.problem).walk.e (Sl.e i64), (copyProblem a.problem).persons.e Person.e, (copyProblem a.problem).classes.e Class.e, (copyProblem a.problem).courses.e Course.e, (copyProblem a.problem).students.e Student.e, (copyProblem a.problem).rules.e Rule.e, i64 a.problem.weigh.time, i64 a.problem.weigh.place, i64 a.problem.weigh.rule, i64 a.problem.weigh.clash, .msl j 0 0 0, i64 1, nilsl, nilsl, i64 m]) (under a m).e := (.agg (.cons (.imm rfl) (.cons (.imm rfl) (.cons (.imm rfl) (.cons (.imm rfl) (.cons (.imm (by simp)) (.cons (.imm (by simp)) (.cons (.imm (by simp)) (.cons (.imm (by simp)) (.cons (.imm (by simp)) (.cons (.imm (by simp)) (.cons (.imm (by simp)) (.cons (.imm rfl) (.cons (.imm rfl) (.cons (.imm rfl) (.cons (.imm rfl) (.cons (off_rd0 hoff) (.cons (.imm rfl) (.cons (.imm rfl) (.cons (.imm rfl) (.cons (.imm rfl) .nil)))))))))))))))))))))
      exact ret_cell rfl rfl (by (repeat (first | exact .head _ | refine .tail _ ?_ | refine List.mem_append_right _ ?_))) rfl rfl (h.sub fun q hq => by rw [List.mem_singleton.1 hq]; exact .head _)
  · have hel : ElB [(j, (⟨false, .arr 2 (List.replicate 0 (.agg [i64 0, i64 0]))⟩ : HO)), (i, ⟨false, .arr 20 [.agg [.str ⟨#[]⟩, i64 0, i64 0, i64 0, nilsl, nilsl, nilsl, nilsl, nilsl, nilsl, nilsl, i64 0, i64 0, i64 0, i64 0, nilsl, i64 0, nilsl, nilsl, i64 0]]⟩), (i2, ⟨false, .arr 20 [a.e]⟩)] 2 (a.off.e Reason.e) (a.off.l.map Reason.e) := .inl ⟨_, _, rfl, by
      rcases ha.off.ok with h | h
      · left; rw [h]; rfl
      · right; exact h.symm⟩
    have hnn : a.off.l.map Reason.e ≠ [] := by simpa using hoff
    have hle : (2 * (0 + (a.off.l.map Reason.e).length) + 1000) * 16 ≤ 281474976710656 := by simp; omega
    have hlt : 0 < 0 + (a.off.l.map Reason.e).length := by have := List.length_pos_iff.2 hnn; omega
    (repeat (first | ((first | refine WO_op ?_ | refine WO_op0 ?_); (first | refine o_app_grow rfl rfl hel hnn (.here ..) (by simp) hlt hle fun j2 => ?_ | refine o_box rfl rfl rfl fun i => ?_ | refine o_alloc fun i => ?_)) | refine GS ?_ | refine CH1 ?_))
    refine drawKU_nil (fun _ => ap rfl rfl rfl rfl rfl) ?_
    refine seq_B (B' := [(j2, (⟨false, .arr 2 ([] ++ a.off.l.map Reason.e)⟩ : HO)), (i, ⟨false, .arr 20 [.agg [.str ⟨#[]⟩, i64 0, i64 0, i64 0, nilsl, nilsl, nilsl, nilsl, nilsl, nilsl, nilsl, i64 0, i64 0, i64 0, i64 0, nilsl, i64 0, nilsl, nilsl, i64 0]]⟩), (i2, (⟨false, .arr 20 [.agg [.str a.problem.name, i64 a.problem.grid.weeks, i64 a.problem.grid.days, i64 a.problem.grid.slots, (copyProblem a.problem).rooms.e Room.e, (copyProblem a.problem).walk.e (Sl.e i64), (copyProblem a.problem).persons.e Person.e, (copyProblem a.problem).classes.e Class.e, (copyProblem a.problem).courses.e Course.e, (copyProblem a.problem).students.e Student.e, (copyProblem a.problem).rules.e Rule.e, i64 a.problem.weigh.time, i64 a.problem.weigh.place, i64 a.problem.weigh.rule, i64 a.problem.weigh.clash, .msl j2 0 (0 + (a.off.l.map Reason.e).length) (0 + (a.off.l.map Reason.e).length), i64 a.budget, a.old.e Seat.e, a.weights.e i64, i64 a.most]]⟩ : HO))]) rfl ?_
    refine W_cut [(2, .mptr i2 0 0), (4, .mptr i 0 0)] [(j2, (⟨false, .arr 2 ([] ++ a.off.l.map Reason.e)⟩ : HO)), (i, ⟨false, .arr 20 [.agg [.str ⟨#[]⟩, i64 0, i64 0, i64 0, nilsl, nilsl, nilsl, nilsl, nilsl, nilsl, nilsl, i64 0, i64 0, i64 0, i64 0, nilsl, i64 0, nilsl, nilsl, i64 0]]⟩), (i2, (⟨false, .arr 20 [.agg [.str a.problem.name, i64 a.problem.grid.weeks, i64 a.problem.grid.days, i64 a.problem.grid.slots, (copyProblem a.problem).rooms.e Room.e, (copyProblem a.problem).walk.e (Sl.e i64), (copyProblem a.problem).persons.e Person.e, (copyProblem a.problem).classes.e Class.e, (copyProblem a.problem).courses.e Course.e, (copyProblem a.problem).students.e Student.e, (copyProblem a.problem).rules.e Rule.e, i64 a.problem.weigh.time, i64 a.problem.weigh.place, i64 a.problem.weigh.rule, i64 a.problem.weigh.clash, .msl j2 0 (0 + (a.off.l.map Reason.e).length) (0 + (a.off.l.map Reason.e).length), i64 1, nilsl, nilsl, i64 m]]⟩ : HO))] (W_region ?_) ?_
    · (repeat (first | refine GO0 ?_ | ((first | refine WO_op ?_ | refine WO_op0 ?_); (first | refine o_box rfl rfl rfl fun i => ?_ | refine o_alloc fun i => ?_)) | refine CH1 ?_))
      exact ⟨rfl, .cons rfl (.cons rfl .nil), rfl, rfl⟩
    · (repeat (first | refine GO0 ?_ | ((first | refine WO_op ?_ | refine WO_op0 ?_); (first | refine o_box rfl rfl rfl fun i => ?_ | refine o_alloc fun i => ?_)) | refine CH1 ?_))
      have h : Rd1 [(j2, (⟨false, .arr 2 ([] ++ a.off.l.map Reason.e)⟩ : HO))] deep (.agg [.str a.problem.name, i64 a.problem.grid.weeks, i64 a.problem.grid.days, i64 a.problem.grid.slots, (copyProblem a.problem).rooms.e Room.e, (copyProblem a.problem).walk.e (Sl.e i64), (copyProblem a.problem).persons.e Person.e, (copyProblem a.problem).classes.e Class.e, (copyProblem a.problem).courses.e Course.e, (copyProblem a.problem).students.e Student.e, (copyProblem a.problem).rules.e Rule.e, i64 a.problem.weigh.time, i64 a.problem.weigh.place, i64 a.problem.weigh.rule, i64 a.problem.weigh.clash, .msl j2 0 (0 + (a.off.l.map Reason.e).length) (0 + (a.off.l.map Reason.e).length), i64 1, nilsl, nilsl, i64 m]) (under a m).e := (.agg (.cons (.imm rfl) (.cons (.imm rfl) (.cons (.imm rfl) (.cons (.imm rfl) (.cons (.imm (by simp)) (.cons (.imm (by simp)) (.cons (.imm (by simp)) (.cons (.imm (by simp)) (.cons (.imm (by simp)) (.cons (.imm (by simp)) (.cons (.imm (by simp)) (.cons (.imm rfl) (.cons (.imm rfl) (.cons (.imm rfl) (.cons (.imm rfl) (.cons (off_rd a.off.l) (.cons (.imm rfl) (.cons (.imm rfl) (.cons (.imm rfl) (.cons (.imm rfl) .nil)))))))))))))))))))))
      exact ret_cell rfl rfl (by (repeat (first | exact .head _ | refine .tail _ ?_ | refine List.mem_append_right _ ?_))) rfl rfl (h.sub fun q hq => by rw [List.mem_singleton.1 hq]; exact .head _)
end Hp.T
end
section
set_option maxRecDepth 100000
namespace Hp.T
open Go Hp
attribute [local irreducible] RunsC RunsO RunsL OpW W Iso FW
theorem copySl_good {α : Type} {k b : Nat} {P : α → Prop} {s : Sl α} (h : s.good k b P) : (copySl s).good k b P := by
  refine ⟨?_, h.len, h.all⟩
  rcases h.ok with h1 | h1
  · exact .inl h1
  · by_cases he : s.l = []
    · exact .inl he
    · right; simp [copySl, csz, he, h1]
theorem copyWith_good {α : Type} {k b : Nat} {P : α → Prop} {f : α → α} {s : Sl α} (h : s.good k b P) (hf : ∀ x, P x → P (f x)) : (copyWith f s).good k b P := by
  refine ⟨?_, by simpa [copyWith] using h.len, fun x hx => ?_⟩
  · rcases h.ok with h1 | h1
    · left; simp [copyWith, h1]
    · by_cases he : s.l = []
      · left; simp [copyWith, he]
      · right; simp [copyWith, csz, he, h1]
  · simp only [copyWith, List.mem_map] at hx
    obtain ⟨y, hy, rfl⟩ := hx
    exact hf y (h.all y hy)
theorem copyRows_good {x : Sl (Sl Int)} (h : x.good 1 24 (Sl.good 1 8 yes)) : (copyRows x).good 1 24 (Sl.good 1 8 yes) := copyWith_good (f := copySl) h fun _ h => copySl_good h
theorem copyProblem_good {p : Problem} (h : p.good) : (copyProblem p).good where
  rooms := copyWith_good h.rooms fun _ h => copySl_good h
  walk := copyRows_good h.walk
  persons := copyWith_good h.persons fun _ h => copySl_good h
  classes := copyWith_good h.classes fun _ h => ⟨copySl_good h.persons, copySl_good h.times, copySl_good h.places⟩
  courses := copyWith_good h.courses fun _ h => copyWith_good (P := Way.good) h fun _ h => copyRows_good h
  students := copyWith_good h.students fun _ h => copySl_good h
  rules := copyWith_good h.rules fun _ h => copySl_good h
theorem copyProblem_k (p : Problem) : (copyProblem p).k = p.k := by
  have hw : ∀ x : Sl (Sl Int), (copyRows x).l.map Sl.l = x.l.map Sl.l := fun x => by simp [copyRows, copySl]
  simp only [Problem.k, copyProblem, copyWith, List.map_map, hw, ProblemK.mk.injEq, true_and]
  refine ⟨rfl, rfl, rfl, ?_, rfl, rfl⟩
  refine List.map_congr_left fun c _ => ?_
  simp only [Function.comp, Course.k, copyCourse, copyWith, List.map_map, CourseK.mk.injEq, true_and]
  exact List.map_congr_left fun w _ => hw w.parts
theorem slNil_good {α : Type} {k b : Nat} {P : α → Prop} : (slNil : Sl α).good k b P := ⟨.inl rfl, by simp [slNil], by simp [slNil]⟩
theorem under_good {a : Ask} (h : a.good) (m : Int) : (under a m).good := ⟨copyProblem_good h.problem, ⟨.inr rfl, h.off.len, h.off.all⟩, slNil_good, slNil_good⟩
theorem refUnder_good {a : Ask} (h : a.good) (m : Int) : (refUnder a m).good := ⟨h.problem, h.off, slNil_good, slNil_good⟩
theorem bestUnder_ok (hcopy : ∀ p : Problem, p.good → Iso E2 f_problem_Copy [p.e] ((copyProblem p).e)) (a : Ask) (ha : a.good) (m : Int) : Iso E2 f_law40_BestUnder [a.e, i64 m] (.bool true) := by
  have h1 := small_ok a ha
  have hh := heads40_ok
  have hi : immL [a.e] = true := by simp [immL]
  have hi2 : immL [a.e, i64 m] = true := by simp [immL]
  refine Iso_body rfl ?_
  (repeat (first | refine GO0 ?_ | ((first | refine WO_op ?_ | refine WO_op0 ?_); (first | refine o_box rfl rfl rfl fun i => ?_ | refine o_alloc fun i => ?_)) | refine CH1 ?_))
  refine W_cond rfl (fun hc => ?_) (fun hc => ?_)
  · (repeat (first | refine GO0 ?_ | ((first | refine WO_op ?_ | refine WO_op0 ?_); (first | refine o_box rfl rfl rfl fun i => ?_ | refine o_alloc fun i => ?_)) | refine CH1 ?_))
    exact ⟨rfl, _, .tmp rfl .nil, _, _, rfl, .imm rfl⟩
  · have hs : a.off.l.length ≤ 30 := by simp [small, smallAsk] at hc; omega
    have h2 := under_ok hcopy a ha hs m
    have h3 := refUnder_ok a m
    have h4 := sameAsk_ok (under a m) (refUnder a m) (under_good ha m) (refUnder_good ha m)
    have hi4 : immL [(under a m).e, (refUnder a m).e] = true := by simp [immL]
    (repeat (first | refine GO0 ?_ | ((first | refine WO_op ?_ | refine WO_op0 ?_); (first | refine o_box rfl rfl rfl fun i => ?_ | refine o_alloc fun i => ?_)) | refine CH1 ?_))
    have he : (under a m).k = (refUnder a m).k := by simp only [Ask.k, under, refUnder, copyProblem_k]
    exact ⟨rfl, _, .tmp rfl .nil, _, _, rfl, Rf_eq (by (try simp only [resV]); rw [he]; simp) (by first | rfl | simp [imm, immL])⟩
end Hp.T
end
