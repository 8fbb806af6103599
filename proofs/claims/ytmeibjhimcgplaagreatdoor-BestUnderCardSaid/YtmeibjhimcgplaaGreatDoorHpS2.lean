/- Common ground: a pure interpreter for the program, and what it computes. -/
import Derived.Test.YtmeibjhimcgplaaGreatDoorHpS1
import Derived.Laws.Strings
set_option linter.all false
section
set_option maxRecDepth 100000
namespace Hp.T
open Go Hp
attribute [local irreducible] RunsC RunsO RunsL OpW W Iso FW
theorem ba_iff {a b : ByteArray} : a.toList = b.toList ↔ a = b := by
  refine ⟨fun h => ?_, fun h => by rw [h]⟩
  rw [ByteArray.toList_eq, ByteArray.toList_eq] at h
  exact ByteArray.ext (Array.toList_inj.1 h)
theorem sameRule_ok (x y : Rule) (hx : x.good) (hy : y.good) : Iso E2 f_ref17_sameRule [x.e, y.e] (.bool (decide (x.k = y.k))) := by
  have h1 := ints3_ok x.classes y.classes hx.ok hy.ok hx.le
  refine Iso_body rfl ?_
  (repeat (first | refine GO0 ?_ | ((first | refine WO_op ?_ | refine WO_op0 ?_); (first | refine o_box rfl rfl rfl fun i => ?_ | refine o_alloc fun i => ?_)) | refine CH1 ?_))
  exact ⟨rfl, _, .tmp rfl .nil, _, _, rfl, Rf_eq (by (try simp only [resV]); congr 1; rw [Bool.eq_iff_iff]; simp [Rule.k, and_assoc]) (by first | rfl | simp [imm, immL])⟩
theorem sameRoom_ok (x y : Room) (hx : x.good) (hy : y.good) : Iso E2 f_ref11_Same [x.e, y.e] (.bool (decide (x.k = y.k))) := by
  have h1 := whens_ok x.shut y.shut hx.ok hy.ok hx.le
  refine Iso_body rfl ?_
  (repeat (first | refine GO0 ?_ | ((first | refine WO_op ?_ | refine WO_op0 ?_); (first | refine o_box rfl rfl rfl fun i => ?_ | refine o_alloc fun i => ?_)) | refine CH1 ?_))
  exact ⟨rfl, _, .tmp rfl .nil, _, _, rfl, Rf_eq (by (try simp only [resV]); congr 1; rw [Bool.eq_iff_iff]; simp [Room.k, and_assoc, bv_int, ba_iff]) (by first | rfl | simp [imm, immL])⟩
theorem samePerson_ok (x y : Person) (hx : x.good) (hy : y.good) : Iso E2 f_ref12_Same [x.e, y.e] (.bool (decide (x.k = y.k))) := by
  have h1 := whens_ok x.away y.away hx.ok hy.ok hx.le
  refine Iso_body rfl ?_
  (repeat (first | refine GO0 ?_ | ((first | refine WO_op ?_ | refine WO_op0 ?_); (first | refine o_box rfl rfl rfl fun i => ?_ | refine o_alloc fun i => ?_)) | refine CH1 ?_))
  exact ⟨rfl, _, .tmp rfl .nil, _, _, rfl, Rf_eq (by (try simp only [resV]); congr 1; rw [Bool.eq_iff_iff]; simp [Person.k, and_assoc, ba_iff]) (by first | rfl | simp [imm, immL])⟩
theorem sameClass_ok (x y : Class) (hx : x.good) (hy : y.good) : Iso E2 f_ref13_Same [x.e, y.e] (.bool (decide (x.k = y.k))) := by
  have h1 := ints3_ok x.persons y.persons hx.persons.ok hy.persons.ok hx.persons.le
  refine Iso_body rfl ?_
  (repeat (first | refine GO0 ?_ | ((first | refine WO_op ?_ | refine WO_op0 ?_); (first | refine o_box rfl rfl rfl fun i => ?_ | refine o_alloc fun i => ?_)) | refine CH1 ?_))
  refine W_cond rfl (fun hc => ?_) (fun hc => ?_)
  · (repeat (first | refine GO0 ?_ | ((first | refine WO_op ?_ | refine WO_op0 ?_); (first | refine o_box rfl rfl rfl fun i => ?_ | refine o_alloc fun i => ?_)) | refine CH1 ?_))
    have hne : decide (x.k = y.k) = false := by
      rw [decide_eq_false_iff_not]; intro h
      simp [Class.k] at h
      simp [h] at hc
    exact ⟨rfl, _, .tmp rfl .nil, _, _, rfl, Rf_eq (by (try simp only [resV]); rw [hne]) (by first | rfl | simp [imm, immL])⟩
  · simp [ba_iff, bv_int] at hc
    obtain ⟨⟨⟨⟨⟨⟨e1, e2⟩, e3⟩, e4⟩, e5⟩, e6⟩, e7⟩ := hc
    have hxl := hx.times.le
    have hyl := hx.places.le
    (repeat (first | refine GO0 ?_ | ((first | refine WO_op ?_ | refine WO_op0 ?_); (first | refine o_box rfl rfl rfl fun i => ?_ | refine o_alloc fun i => ?_)) | refine CH1 ?_))
    rename_i i2
    have hxo := hx.times.ok
    have hyo := hy.times.ok
    refine W_loop (WL_count (fun k => [(2, .mptr i2 0 0), (3, .mptr i 0 0), (5, i64 k)]) (fun _ => [(i, ⟨false, .arr 7 [y.e]⟩), (i2, ⟨false, .arr 7 [x.e]⟩)]) (fun k => ∀ j, j < k → (x.times.l)[j]? = (y.times.l)[j]?) x.times.l.length 0 (by simp) (by omega) fun k hk hP ih => WL_round ?_)
    (repeat (first | refine GO0 ?_ | ((first | refine WO_op ?_ | refine WO_op0 ?_); (first | refine o_box rfl rfl rfl fun i => ?_ | refine o_alloc fun i => ?_)) | refine CH1 ?_))
    refine W_cond rfl (fun hc => ?_) (fun hc => ?_)
    · have hkx := lt_of_dec hc
      have hky : k < y.times.l.length := by omega
      have ax := Sl.at Time.e x.times hkx
      have ay := Sl.at Time.e y.times hky
      have sx := Sl.szOf hxo hkx
      have sy := Sl.szOf hyo hky
      (repeat (first | ((first | refine WO_op ?_ | refine WO_op0 ?_); (first | refine o_ne rfl rfl (peq_Time ..) ?_ | refine o_box rfl rfl rfl fun i => ?_ | refine o_alloc fun i => ?_)) | refine GS ?_ | refine CH1 ?_))
      refine W_cond rfl (fun hc => ?_) (fun hc => ?_)
      · (repeat (first | refine GO0 ?_ | ((first | refine WO_op ?_ | refine WO_op0 ?_); (first | refine o_box rfl rfl rfl fun i => ?_ | refine o_alloc fun i => ?_)) | refine CH1 ?_))
        have hne : decide (x.k = y.k) = false := by
          rw [decide_eq_false_iff_not]; intro h
          have h1 : x.times.l = y.times.l := by simp [Class.k] at h; simp [h]
          have h2 : (x.times.l)[k]? = (y.times.l)[k]? := by rw [h1]
          simp [hkx, hky] at h2
          simp [h2] at hc
        exact ⟨rfl, _, .tmp rfl .nil, _, _, rfl, Rf_eq (by (try simp only [resV]); rw [hne]) (by first | rfl | simp [imm, immL])⟩
      · (repeat (first | refine GO0 ?_ | ((first | refine WO_op ?_ | refine WO_op0 ?_); (first | refine o_box rfl rfl rfl fun i => ?_ | refine o_alloc fun i => ?_)) | refine CH1 ?_))
        exact ih hkx fun j hj => by
          by_cases h : j = k
          · subst h; simp at hc; simp [hkx, hky, hc]
          · exact hP j (by omega)
    · have hkl := ge_of_dec hc
      have he : x.times.l = y.times.l := eq_at (by first | omega | (simp only [List.length_map]; omega)) fun j hj => hP j (by first | (simp only [List.length_map] at hj; omega) | omega)
      clear ih hP hc hk
      (repeat (first | refine GO0 ?_ | ((first | refine WO_op ?_ | refine WO_op0 ?_); (first | refine o_box rfl rfl rfl fun i => ?_ | refine o_alloc fun i => ?_)) | refine CH1 ?_))
      have hxo := hx.places.ok
      have hyo := hy.places.ok
      refine W_loop (WL_count (fun k => [(2, .mptr i2 0 0), (3, .mptr i 0 0), (6, i64 k)]) (fun _ => [(i, ⟨false, .arr 7 [y.e]⟩), (i2, ⟨false, .arr 7 [x.e]⟩)]) (fun k => ∀ j, j < k → (x.places.l)[j]? = (y.places.l)[j]?) x.places.l.length 0 (by simp) (by omega) fun k hk hP ih => WL_round ?_)
      (repeat (first | refine GO0 ?_ | ((first | refine WO_op ?_ | refine WO_op0 ?_); (first | refine o_box rfl rfl rfl fun i => ?_ | refine o_alloc fun i => ?_)) | refine CH1 ?_))
      refine W_cond rfl (fun hc => ?_) (fun hc => ?_)
      · have hkx := lt_of_dec hc
        have hky : k < y.places.l.length := by omega
        have ax := Sl.at Place.e x.places hkx
        have ay := Sl.at Place.e y.places hky
        have sx := Sl.szOf hxo hkx
        have sy := Sl.szOf hyo hky
        (repeat (first | ((first | refine WO_op ?_ | refine WO_op0 ?_); (first | refine o_ne rfl rfl (peq_Place ..) ?_ | refine o_box rfl rfl rfl fun i => ?_ | refine o_alloc fun i => ?_)) | refine GS ?_ | refine CH1 ?_))
        refine W_cond rfl (fun hc => ?_) (fun hc => ?_)
        · (repeat (first | refine GO0 ?_ | ((first | refine WO_op ?_ | refine WO_op0 ?_); (first | refine o_box rfl rfl rfl fun i => ?_ | refine o_alloc fun i => ?_)) | refine CH1 ?_))
          have hne : decide (x.k = y.k) = false := by
            rw [decide_eq_false_iff_not]; intro h
            have h1 : x.places.l = y.places.l := by simp [Class.k] at h; simp [h]
            have h2 : (x.places.l)[k]? = (y.places.l)[k]? := by rw [h1]
            simp [hkx, hky] at h2
            simp [h2] at hc
          exact ⟨rfl, _, .tmp rfl .nil, _, _, rfl, Rf_eq (by (try simp only [resV]); rw [hne]) (by first | rfl | simp [imm, immL])⟩
        · (repeat (first | refine GO0 ?_ | ((first | refine WO_op ?_ | refine WO_op0 ?_); (first | refine o_box rfl rfl rfl fun i => ?_ | refine o_alloc fun i => ?_)) | refine CH1 ?_))
          exact ih hkx fun j hj => by
            by_cases h : j = k
            · subst h; simp at hc; simp [hkx, hky, hc]
            · exact hP j (by omega)
      · have hkl := ge_of_dec hc
        have he : x.places.l = y.places.l := eq_at (by first | omega | (simp only [List.length_map]; omega)) fun j hj => hP j (by first | (simp only [List.length_map] at hj; omega) | omega)
        clear ih hP hc hk
        (repeat (first | refine GO0 ?_ | ((first | refine WO_op ?_ | refine WO_op0 ?_); (first | refine o_box rfl rfl rfl fun i => ?_ | refine o_alloc fun i => ?_)) | refine CH1 ?_))
        have hy1 : decide (x.k = y.k) = true := by
          rw [decide_eq_true_iff]; simp [Class.k, *]
        exact ⟨rfl, _, .tmp rfl .nil, _, _, rfl, Rf_eq (by (try simp only [resV]); rw [hy1]) (by first | rfl | simp [imm, immL])⟩
theorem sameCourse_ok (x y : Course) (hx : x.good) (hy : y.good) : Iso E2 f_ref14_Same [x.e, y.e] (.bool (decide (x.k = y.k))) := by
  refine Iso_body rfl ?_
  (repeat (first | refine GO0 ?_ | ((first | refine WO_op ?_ | refine WO_op0 ?_); (first | refine o_box rfl rfl rfl fun i => ?_ | refine o_alloc fun i => ?_)) | refine CH1 ?_))
  refine W_cond rfl (fun hc => ?_) (fun hc => ?_)
  · (repeat (first | refine GO0 ?_ | ((first | refine WO_op ?_ | refine WO_op0 ?_); (first | refine o_box rfl rfl rfl fun i => ?_ | refine o_alloc fun i => ?_)) | refine CH1 ?_))
    have hne : decide (x.k = y.k) = false := by
      rw [decide_eq_false_iff_not]; intro h
      simp only [Course.k, CourseK.mk.injEq] at h
      have h2 := congrArg List.length h.2
      simp only [List.length_map] at h2
      simp [h.1, h2] at hc
    exact ⟨rfl, _, .tmp rfl .nil, _, _, rfl, Rf_eq (by (try simp only [resV]); rw [hne]) (by first | rfl | simp [imm, immL])⟩
  · simp [ba_iff] at hc
    obtain ⟨e1, e2⟩ := hc
    have hxl := hx.le
    (repeat (first | refine GO0 ?_ | ((first | refine WO_op ?_ | refine WO_op0 ?_); (first | refine o_box rfl rfl rfl fun i => ?_ | refine o_alloc fun i => ?_)) | refine CH1 ?_))
    rename_i i2
    have hxo := hx.ok
    have hyo := hy.ok
    refine W_loop (WL_count (fun k => [(2, .mptr i2 0 0), (3, .mptr i 0 0), (5, i64 k)]) (fun _ => [(i, ⟨false, .arr 2 [y.e]⟩), (i2, ⟨false, .arr 2 [x.e]⟩)]) (fun k => ∀ j, j < k → (x.ways.l.map Way.k)[j]? = (y.ways.l.map Way.k)[j]?) x.ways.l.length 0 (by simp) (by omega) fun k hk hP ih => WL_round ?_)
    (repeat (first | refine GO0 ?_ | ((first | refine WO_op ?_ | refine WO_op0 ?_); (first | refine o_box rfl rfl rfl fun i => ?_ | refine o_alloc fun i => ?_)) | refine CH1 ?_))
    refine W_cond rfl (fun hc => ?_) (fun hc => ?_)
    · have hkx := lt_of_dec hc
      have hky : k < y.ways.l.length := by omega
      have ax := Sl.at Way.e x.ways hkx
      have ay := Sl.at Way.e y.ways hky
      have sx := Sl.szOf hxo hkx
      have sy := Sl.szOf hyo hky
      have hcall := rows14_ok x.ways.l[k].parts y.ways.l[k].parts (hx.all _ (List.getElem_mem hkx)).ok (hy.all _ (List.getElem_mem hky)).ok (hx.all _ (List.getElem_mem hkx)).le (fun a ha => ⟨((hx.all _ (List.getElem_mem hkx)).all a ha).ok, ((hx.all _ (List.getElem_mem hkx)).all a ha).le⟩) (fun a ha => ⟨((hy.all _ (List.getElem_mem hky)).all a ha).ok, ((hy.all _ (List.getElem_mem hky)).all a ha).le⟩)
      (repeat (first | refine GO0 ?_ | ((first | refine WO_op ?_ | refine WO_op0 ?_); (first | refine o_box rfl rfl rfl fun i => ?_ | refine o_alloc fun i => ?_)) | refine CH1 ?_))
      refine W_cond rfl (fun hc => ?_) (fun hc => ?_)
      · (repeat (first | refine GO0 ?_ | ((first | refine WO_op ?_ | refine WO_op0 ?_); (first | refine o_box rfl rfl rfl fun i => ?_ | refine o_alloc fun i => ?_)) | refine CH1 ?_))
        have hne : decide (x.k = y.k) = false := by
          rw [decide_eq_false_iff_not]; intro h
          have h1 : x.ways.l.map Way.k = y.ways.l.map Way.k := by simp [Course.k] at h; simp [h]
          have h2 : (x.ways.l.map Way.k)[k]? = (y.ways.l.map Way.k)[k]? := by rw [h1]
          simp [hkx, hky, Way.k] at h2
          simp [h2] at hc
        exact ⟨rfl, _, .tmp rfl .nil, _, _, rfl, Rf_eq (by (try simp only [resV]); rw [hne]) (by first | rfl | simp [imm, immL])⟩
      · (repeat (first | refine GO0 ?_ | ((first | refine WO_op ?_ | refine WO_op0 ?_); (first | refine o_box rfl rfl rfl fun i => ?_ | refine o_alloc fun i => ?_)) | refine CH1 ?_))
        exact ih hkx fun j hj => by
          by_cases h : j = k
          · subst h; simp at hc; simp [hkx, hky, hc, Way.k]
          · exact hP j (by omega)
    · have hkl := ge_of_dec hc
      have he : x.ways.l.map Way.k = y.ways.l.map Way.k := eq_at (by first | omega | (simp only [List.length_map]; omega)) fun j hj => hP j (by first | (simp only [List.length_map] at hj; omega) | omega)
      clear ih hP hc hk
      (repeat (first | refine GO0 ?_ | ((first | refine WO_op ?_ | refine WO_op0 ?_); (first | refine o_box rfl rfl rfl fun i => ?_ | refine o_alloc fun i => ?_)) | refine CH1 ?_))
      have hy1 : decide (x.k = y.k) = true := by
        rw [decide_eq_true_iff]; simp only [Course.k, CourseK.mk.injEq]; exact ⟨e1, he⟩
      exact ⟨rfl, _, .tmp rfl .nil, _, _, rfl, Rf_eq (by (try simp only [resV]); rw [hy1]) (by first | rfl | simp [imm, immL])⟩
end Hp.T
end
section
set_option maxRecDepth 100000
namespace Hp.T
open Go Hp
attribute [local irreducible] RunsC RunsO RunsL OpW W Iso FW
theorem WL_start {E : Env} {c : PC} {live : List Nat} {al0 al : AL} {B : BL} {df : DF} {K : PExit → AL → BL → DF → Prop} (h : WL E c live al0 B df K) (ha : AlSub al0 al) : WL E c live al B df K := by
  unfold WL W at h ⊢
  exact fun fr hh nx hf hp => h fr hh nx (hf.sub ha) hp
def accB {α : Type} [DecidableEq α] (b : Bool) (xs ys : List α) (k : Nat) : Bool := b && decide (xs.take k = ys.take k)
theorem accB_zero {α : Type} [DecidableEq α] (b : Bool) (xs ys : List α) : accB b xs ys 0 = b := by simp [accB]
theorem accB_step {α : Type} [DecidableEq α] (b : Bool) {xs ys : List α} {k : Nat} {p q : α} (h : xs[k]? = some p) (h' : ys[k]? = some q) : accB b xs ys (k + 1) = (accB b xs ys k && decide (p = q)) := by
  unfold accB
  rw [Bool.and_assoc]
  congr 1
  have hl : k < xs.length := (List.getElem?_eq_some_iff.1 h).1
  have hl' : k < ys.length := (List.getElem?_eq_some_iff.1 h').1
  rw [List.take_add_one, List.take_add_one, h, h', Bool.eq_iff_iff, Bool.and_eq_true, decide_eq_true_iff, decide_eq_true_iff, decide_eq_true_iff]
  simp only [Option.toList_some]
  constructor
  · intro he
    have := List.append_inj he (by simp only [List.length_take]; omega)
    exact ⟨this.1, by simpa using this.2⟩
  · rintro ⟨h1, h2⟩; rw [h1, h2]
theorem accB_all {α : Type} [DecidableEq α] (b : Bool) {xs ys : List α} {k : Nat} (h : xs.length ≤ k) (h' : ys.length ≤ k) : accB b xs ys k = (b && decide (xs = ys)) := by
  unfold accB; rw [List.take_of_length_le h, List.take_of_length_le h']
theorem mapAt {α β : Type} (f : α → β) {l : List α} {k : Nat} (h : k < l.length) : (l.map f)[k]? = some (f l[k]) := by simp [h]
theorem peq_Weigh (a b : Weigh) : peq (.st [.i, .i, .i, .i]) (.agg [i64 a.time, i64 a.place, i64 a.rule, i64 a.clash]) (.agg [i64 b.time, i64 b.place, i64 b.rule, i64 b.clash]) = some (decide (a = b)) := by
  cases a; cases b
  simp only [peq, scEqL, scEq, if_true, Weigh.mk.injEq, Option.some.injEq]
  rw [Bool.eq_iff_iff]; simp
theorem studentK_eq (a b : Student) : decide (a.k = b.k) = ((a.name.toList == b.name.toList) && decide (a.courses.l = b.courses.l)) := by
  rw [Bool.eq_iff_iff]; simp [Student.k, ba_iff]
theorem sameProblem_ok (x y : Problem) (hx : x.good) (hy : y.good) : Iso E2 f_ref17_Same [x.e, y.e] (.bool (decide (x.k = y.k))) := by
  have h1 := rows14_ok x.walk y.walk hx.walk.ok hy.walk.ok hx.walk.le (fun a ha => ⟨(hx.walk.all a ha).ok, (hx.walk.all a ha).le⟩) (fun a ha => ⟨(hy.walk.all a ha).ok, (hy.walk.all a ha).le⟩)
  refine Iso_body rfl ?_
  (repeat (first | ((first | refine WO_op ?_ | refine WO_op0 ?_); (first | refine o_ne rfl rfl (peq_Grid x.grid y.grid) ?_ | refine o_ne rfl rfl (peq_Weigh x.weigh y.weigh) ?_ | refine o_box rfl rfl rfl fun i => ?_ | refine o_alloc fun i => ?_)) | refine GS ?_ | refine CH1 ?_))
  refine W_cond rfl (fun hc => ?_) (fun hc => ?_)
  · (repeat (first | refine GO0 ?_ | ((first | refine WO_op ?_ | refine WO_op0 ?_); (first | refine o_box rfl rfl rfl fun i => ?_ | refine o_alloc fun i => ?_)) | refine CH1 ?_))
    have hne : decide (x.k = y.k) = false := by
      rw [decide_eq_false_iff_not]; intro h
      simp only [Problem.k, ProblemK.mk.injEq] at h
      obtain ⟨q1, q2, q3, q4, q5, q6, q7, q8, q9, q10⟩ := h
      have l5 := congrArg List.length q5
      have l6 := congrArg List.length q6
      have l7 := congrArg List.length q7
      have l8 := congrArg List.length q8
      have l9 := congrArg List.length q9
      have l10 := congrArg List.length q10
      simp only [List.length_map] at l5 l6 l7 l8 l9 l10
      simp [q1, q2, q3, q4, l5, l6, l7, l8, l9, l10] at hc
    exact ⟨rfl, _, .tmp rfl .nil, _, _, rfl, Rf_eq (by (try simp only [resV]); rw [hne]) (by first | rfl | simp [imm, immL])⟩
  · simp [ba_iff] at hc
    rename_i i2
    obtain ⟨⟨⟨⟨⟨⟨⟨⟨⟨e1, e2⟩, e3⟩, e4⟩, l5⟩, l6⟩, l7⟩, l8⟩, l9⟩, l10⟩ := hc
    have b5 := hx.rooms.le
    have b6 := hx.persons.le
    have b7 := hx.classes.le
    have b8 := hx.courses.le
    have b9 := hx.students.le
    have b10 := hx.rules.le
    (repeat (first | refine GO0 ?_ | ((first | refine WO_op ?_ | refine WO_op0 ?_); (first | refine o_box rfl rfl rfl fun i => ?_ | refine o_alloc fun i => ?_)) | refine CH1 ?_))
    refine W_loop (WL_start (WL_count (fun k => [(2, .mptr i2 0 0), (3, .mptr i 0 0), (5, .bool (accB (true) (x.rooms.l.map Room.k) (y.rooms.l.map Room.k) k)), (6, i64 k)]) (fun _ => [(i, ⟨false, .arr 15 [y.e]⟩), (i2, ⟨false, .arr 15 [x.e]⟩)]) (fun k => True) x.rooms.l.length 0 trivial (by omega) fun k hk hP ih => WL_round ?_) (.cons rfl (.cons rfl (.cons (by rw [accB_zero]; rfl) (.cons rfl .nil)))))
    (repeat (first | refine GO0 ?_ | ((first | refine WO_op ?_ | refine WO_op0 ?_); (first | refine o_box rfl rfl rfl fun i => ?_ | refine o_alloc fun i => ?_)) | refine CH1 ?_))
    refine W_cond rfl (fun hc => ?_) (fun hc => ?_)
    · have hkx := lt_of_dec hc
      have hky : k < y.rooms.l.length := by omega
      have ax := Sl.at Room.e x.rooms hkx
      have ay := Sl.at Room.e y.rooms hky
      have sx := Sl.szOf hx.rooms.ok hkx
      have sy := Sl.szOf hy.rooms.ok hky
      have hcall := sameRoom_ok x.rooms.l[k] y.rooms.l[k] (hx.rooms.all _ (List.getElem_mem hkx)) (hy.rooms.all _ (List.getElem_mem hky))
      (repeat (first | refine GO0 ?_ | ((first | refine WO_op ?_ | refine WO_op0 ?_); (first | refine o_box rfl rfl rfl fun i => ?_ | refine o_alloc fun i => ?_)) | refine CH2 ?_))
      exact WL_start (ih hkx trivial) (.cons rfl (.cons rfl (.cons (by rw [accB_step _ (mapAt Room.k hkx) (mapAt Room.k hky)]; rfl) (.cons rfl .nil))))
    · have hkl := ge_of_dec hc
      have he_rooms := accB_all (true) (xs := x.rooms.l.map Room.k) (ys := y.rooms.l.map Room.k) (k := k) (by simpa using hkl) (by rw [List.length_map]; omega)
      rw [he_rooms]
      clear ih hP hc hk
      (repeat (first | refine GO0 ?_ | ((first | refine WO_op ?_ | refine WO_op0 ?_); (first | refine o_box rfl rfl rfl fun i => ?_ | refine o_alloc fun i => ?_)) | refine CH1 ?_))
      refine W_loop (WL_start (WL_count (fun k => [(2, .mptr i2 0 0), (3, .mptr i 0 0), (5, .bool (accB ((true && decide (x.rooms.l.map Room.k = y.rooms.l.map Room.k))) (x.persons.l.map Person.k) (y.persons.l.map Person.k) k)), (7, i64 k)]) (fun _ => [(i, ⟨false, .arr 15 [y.e]⟩), (i2, ⟨false, .arr 15 [x.e]⟩)]) (fun k => True) x.persons.l.length 0 trivial (by omega) fun k hk hP ih => WL_round ?_) (.cons rfl (.cons rfl (.cons (by rw [accB_zero]; rfl) (.cons rfl .nil)))))
      (repeat (first | refine GO0 ?_ | ((first | refine WO_op ?_ | refine WO_op0 ?_); (first | refine o_box rfl rfl rfl fun i => ?_ | refine o_alloc fun i => ?_)) | refine CH1 ?_))
      refine W_cond rfl (fun hc => ?_) (fun hc => ?_)
      · have hkx := lt_of_dec hc
        have hky : k < y.persons.l.length := by omega
        have ax := Sl.at Person.e x.persons hkx
        have ay := Sl.at Person.e y.persons hky
        have sx := Sl.szOf hx.persons.ok hkx
        have sy := Sl.szOf hy.persons.ok hky
        have hcall := samePerson_ok x.persons.l[k] y.persons.l[k] (hx.persons.all _ (List.getElem_mem hkx)) (hy.persons.all _ (List.getElem_mem hky))
        (repeat (first | refine GO0 ?_ | ((first | refine WO_op ?_ | refine WO_op0 ?_); (first | refine o_box rfl rfl rfl fun i => ?_ | refine o_alloc fun i => ?_)) | refine CH2 ?_))
        exact WL_start (ih hkx trivial) (.cons rfl (.cons rfl (.cons (by rw [accB_step _ (mapAt Person.k hkx) (mapAt Person.k hky)]; rfl) (.cons rfl .nil))))
      · have hkl := ge_of_dec hc
        have he_persons := accB_all ((true && decide (x.rooms.l.map Room.k = y.rooms.l.map Room.k))) (xs := x.persons.l.map Person.k) (ys := y.persons.l.map Person.k) (k := k) (by simpa using hkl) (by rw [List.length_map]; omega)
        rw [he_persons]
        clear ih hP hc hk
        (repeat (first | refine GO0 ?_ | ((first | refine WO_op ?_ | refine WO_op0 ?_); (first | refine o_box rfl rfl rfl fun i => ?_ | refine o_alloc fun i => ?_)) | refine CH1 ?_))
        refine W_loop (WL_start (WL_count (fun k => [(2, .mptr i2 0 0), (3, .mptr i 0 0), (5, .bool (accB (((true && decide (x.rooms.l.map Room.k = y.rooms.l.map Room.k)) && decide (x.persons.l.map Person.k = y.persons.l.map Person.k))) (x.classes.l.map Class.k) (y.classes.l.map Class.k) k)), (8, i64 k)]) (fun _ => [(i, ⟨false, .arr 15 [y.e]⟩), (i2, ⟨false, .arr 15 [x.e]⟩)]) (fun k => True) x.classes.l.length 0 trivial (by omega) fun k hk hP ih => WL_round ?_) (.cons rfl (.cons rfl (.cons (by rw [accB_zero]; rfl) (.cons rfl .nil)))))
        (repeat (first | refine GO0 ?_ | ((first | refine WO_op ?_ | refine WO_op0 ?_); (first | refine o_box rfl rfl rfl fun i => ?_ | refine o_alloc fun i => ?_)) | refine CH1 ?_))
        refine W_cond rfl (fun hc => ?_) (fun hc => ?_)
        · have hkx := lt_of_dec hc
          have hky : k < y.classes.l.length := by omega
          have ax := Sl.at Class.e x.classes hkx
          have ay := Sl.at Class.e y.classes hky
          have sx := Sl.szOf hx.classes.ok hkx
          have sy := Sl.szOf hy.classes.ok hky
          have hcall := sameClass_ok x.classes.l[k] y.classes.l[k] (hx.classes.all _ (List.getElem_mem hkx)) (hy.classes.all _ (List.getElem_mem hky))
          (repeat (first | refine GO0 ?_ | ((first | refine WO_op ?_ | refine WO_op0 ?_); (first | refine o_box rfl rfl rfl fun i => ?_ | refine o_alloc fun i => ?_)) | refine CH2 ?_))
          exact WL_start (ih hkx trivial) (.cons rfl (.cons rfl (.cons (by rw [accB_step _ (mapAt Class.k hkx) (mapAt Class.k hky)]; rfl) (.cons rfl .nil))))
        · have hkl := ge_of_dec hc
          have he_classes := accB_all (((true && decide (x.rooms.l.map Room.k = y.rooms.l.map Room.k)) && decide (x.persons.l.map Person.k = y.persons.l.map Person.k))) (xs := x.classes.l.map Class.k) (ys := y.classes.l.map Class.k) (k := k) (by simpa using hkl) (by rw [List.length_map]; omega)
          rw [he_classes]
          clear ih hP hc hk
          (repeat (first | refine GO0 ?_ | ((first | refine WO_op ?_ | refine WO_op0 ?_); (first | refine o_box rfl rfl rfl fun i => ?_ | refine o_alloc fun i => ?_)) | refine CH1 ?_))
          refine W_loop (WL_start (WL_count (fun k => [(2, .mptr i2 0 0), (3, .mptr i 0 0), (5, .bool (accB ((((true && decide (x.rooms.l.map Room.k = y.rooms.l.map Room.k)) && decide (x.persons.l.map Person.k = y.persons.l.map Person.k)) && decide (x.classes.l.map Class.k = y.classes.l.map Class.k))) (x.courses.l.map Course.k) (y.courses.l.map Course.k) k)), (9, i64 k)]) (fun _ => [(i, ⟨false, .arr 15 [y.e]⟩), (i2, ⟨false, .arr 15 [x.e]⟩)]) (fun k => True) x.courses.l.length 0 trivial (by omega) fun k hk hP ih => WL_round ?_) (.cons rfl (.cons rfl (.cons (by rw [accB_zero]; rfl) (.cons rfl .nil)))))
          (repeat (first | refine GO0 ?_ | ((first | refine WO_op ?_ | refine WO_op0 ?_); (first | refine o_box rfl rfl rfl fun i => ?_ | refine o_alloc fun i => ?_)) | refine CH1 ?_))
          refine W_cond rfl (fun hc => ?_) (fun hc => ?_)
          · have hkx := lt_of_dec hc
            have hky : k < y.courses.l.length := by omega
            have ax := Sl.at Course.e x.courses hkx
            have ay := Sl.at Course.e y.courses hky
            have sx := Sl.szOf hx.courses.ok hkx
            have sy := Sl.szOf hy.courses.ok hky
            have hcall := sameCourse_ok x.courses.l[k] y.courses.l[k] (hx.courses.all _ (List.getElem_mem hkx)) (hy.courses.all _ (List.getElem_mem hky))
            (repeat (first | refine GO0 ?_ | ((first | refine WO_op ?_ | refine WO_op0 ?_); (first | refine o_box rfl rfl rfl fun i => ?_ | refine o_alloc fun i => ?_)) | refine CH2 ?_))
            exact WL_start (ih hkx trivial) (.cons rfl (.cons rfl (.cons (by rw [accB_step _ (mapAt Course.k hkx) (mapAt Course.k hky)]; rfl) (.cons rfl .nil))))
          · have hkl := ge_of_dec hc
            have he_courses := accB_all ((((true && decide (x.rooms.l.map Room.k = y.rooms.l.map Room.k)) && decide (x.persons.l.map Person.k = y.persons.l.map Person.k)) && decide (x.classes.l.map Class.k = y.classes.l.map Class.k))) (xs := x.courses.l.map Course.k) (ys := y.courses.l.map Course.k) (k := k) (by simpa using hkl) (by rw [List.length_map]; omega)
            rw [he_courses]
            clear ih hP hc hk
            (repeat (first | refine GO0 ?_ | ((first | refine WO_op ?_ | refine WO_op0 ?_); (first | refine o_box rfl rfl rfl fun i => ?_ | refine o_alloc fun i => ?_)) | refine CH1 ?_))
            refine W_loop (WL_start (WL_count (fun k => [(2, .mptr i2 0 0), (3, .mptr i 0 0), (5, .bool (accB (((((true && decide (x.rooms.l.map Room.k = y.rooms.l.map Room.k)) && decide (x.persons.l.map Person.k = y.persons.l.map Person.k)) && decide (x.classes.l.map Class.k = y.classes.l.map Class.k)) && decide (x.courses.l.map Course.k = y.courses.l.map Course.k))) (x.students.l.map Student.k) (y.students.l.map Student.k) k)), (10, i64 k)]) (fun _ => [(i, ⟨false, .arr 15 [y.e]⟩), (i2, ⟨false, .arr 15 [x.e]⟩)]) (fun k => True) x.students.l.length 0 trivial (by omega) fun k hk hP ih => WL_round ?_) (.cons rfl (.cons rfl (.cons (by rw [accB_zero]; rfl) (.cons rfl .nil)))))
            (repeat (first | refine GO0 ?_ | ((first | refine WO_op ?_ | refine WO_op0 ?_); (first | refine o_box rfl rfl rfl fun i => ?_ | refine o_alloc fun i => ?_)) | refine CH1 ?_))
            refine W_cond rfl (fun hc => ?_) (fun hc => ?_)
            · have hkx := lt_of_dec hc
              have hky : k < y.students.l.length := by omega
              have ax := Sl.at Student.e x.students hkx
              have ay := Sl.at Student.e y.students hky
              have sx := Sl.szOf hx.students.ok hkx
              have sy := Sl.szOf hy.students.ok hky
              have hcall := ints3_ok x.students.l[k].courses y.students.l[k].courses (hx.students.all _ (List.getElem_mem hkx)).ok (hy.students.all _ (List.getElem_mem hky)).ok (hx.students.all _ (List.getElem_mem hkx)).le
              (repeat (first | refine GO0 ?_ | ((first | refine WO_op ?_ | refine WO_op0 ?_); (first | refine o_box rfl rfl rfl fun i => ?_ | refine o_alloc fun i => ?_)) | refine CH2 ?_))
              exact WL_start (ih hkx trivial) (.cons rfl (.cons rfl (.cons (by rw [accB_step _ (mapAt Student.k hkx) (mapAt Student.k hky), studentK_eq, ← Bool.and_assoc]; rfl) (.cons rfl .nil))))
            · have hkl := ge_of_dec hc
              have he_students := accB_all (((((true && decide (x.rooms.l.map Room.k = y.rooms.l.map Room.k)) && decide (x.persons.l.map Person.k = y.persons.l.map Person.k)) && decide (x.classes.l.map Class.k = y.classes.l.map Class.k)) && decide (x.courses.l.map Course.k = y.courses.l.map Course.k))) (xs := x.students.l.map Student.k) (ys := y.students.l.map Student.k) (k := k) (by simpa using hkl) (by rw [List.length_map]; omega)
              rw [he_students]
              clear ih hP hc hk
              (repeat (first | refine GO0 ?_ | ((first | refine WO_op ?_ | refine WO_op0 ?_); (first | refine o_box rfl rfl rfl fun i => ?_ | refine o_alloc fun i => ?_)) | refine CH1 ?_))
              refine W_loop (WL_start (WL_count (fun k => [(2, .mptr i2 0 0), (3, .mptr i 0 0), (5, .bool (accB ((((((true && decide (x.rooms.l.map Room.k = y.rooms.l.map Room.k)) && decide (x.persons.l.map Person.k = y.persons.l.map Person.k)) && decide (x.classes.l.map Class.k = y.classes.l.map Class.k)) && decide (x.courses.l.map Course.k = y.courses.l.map Course.k)) && decide (x.students.l.map Student.k = y.students.l.map Student.k))) (x.rules.l.map Rule.k) (y.rules.l.map Rule.k) k)), (11, i64 k)]) (fun _ => [(i, ⟨false, .arr 15 [y.e]⟩), (i2, ⟨false, .arr 15 [x.e]⟩)]) (fun k => True) x.rules.l.length 0 trivial (by omega) fun k hk hP ih => WL_round ?_) (.cons rfl (.cons rfl (.cons (by rw [accB_zero]; rfl) (.cons rfl .nil)))))
              (repeat (first | refine GO0 ?_ | ((first | refine WO_op ?_ | refine WO_op0 ?_); (first | refine o_box rfl rfl rfl fun i => ?_ | refine o_alloc fun i => ?_)) | refine CH1 ?_))
              refine W_cond rfl (fun hc => ?_) (fun hc => ?_)
              · have hkx := lt_of_dec hc
                have hky : k < y.rules.l.length := by omega
                have ax := Sl.at Rule.e x.rules hkx
                have ay := Sl.at Rule.e y.rules hky
                have sx := Sl.szOf hx.rules.ok hkx
                have sy := Sl.szOf hy.rules.ok hky
                have hcall := sameRule_ok x.rules.l[k] y.rules.l[k] (hx.rules.all _ (List.getElem_mem hkx)) (hy.rules.all _ (List.getElem_mem hky))
                (repeat (first | refine GO0 ?_ | ((first | refine WO_op ?_ | refine WO_op0 ?_); (first | refine o_box rfl rfl rfl fun i => ?_ | refine o_alloc fun i => ?_)) | refine CH2 ?_))
                exact WL_start (ih hkx trivial) (.cons rfl (.cons rfl (.cons (by rw [accB_step _ (mapAt Rule.k hkx) (mapAt Rule.k hky)]; rfl) (.cons rfl .nil))))
              · have hkl := ge_of_dec hc
                have he_rules := accB_all ((((((true && decide (x.rooms.l.map Room.k = y.rooms.l.map Room.k)) && decide (x.persons.l.map Person.k = y.persons.l.map Person.k)) && decide (x.classes.l.map Class.k = y.classes.l.map Class.k)) && decide (x.courses.l.map Course.k = y.courses.l.map Course.k)) && decide (x.students.l.map Student.k = y.students.l.map Student.k))) (xs := x.rules.l.map Rule.k) (ys := y.rules.l.map Rule.k) (k := k) (by simpa using hkl) (by rw [List.length_map]; omega)
                rw [he_rules]
                clear ih hP hc hk
                (repeat (first | refine GO0 ?_ | ((first | refine WO_op ?_ | refine WO_op0 ?_); (first | refine o_box rfl rfl rfl fun i => ?_ | refine o_alloc fun i => ?_)) | refine CH1 ?_))
                have hy1 : ((((((true && decide (x.rooms.l.map Room.k = y.rooms.l.map Room.k)) && decide (x.persons.l.map Person.k = y.persons.l.map Person.k)) && decide (x.classes.l.map Class.k = y.classes.l.map Class.k)) && decide (x.courses.l.map Course.k = y.courses.l.map Course.k)) && decide (x.students.l.map Student.k = y.students.l.map Student.k)) && decide (x.rules.l.map Rule.k = y.rules.l.map Rule.k)) = decide (x.k = y.k) := by
                  have g2 : x.grid = y.grid := by have e := e2; cases h : x.grid; cases h' : y.grid; rw [h, h'] at e; simp at e; simp [e]
                  have g3 : x.weigh = y.weigh := by have e := e3; cases h : x.weigh; cases h' : y.weigh; rw [h, h'] at e; simp at e; simp [e]
                  rw [Bool.eq_iff_iff]; simp [Problem.k, e1, g2, g3, e4, and_assoc]
                exact ⟨rfl, _, .tmp rfl .nil, _, _, rfl, Rf_eq (by (try simp only [resV]); rw [hy1]) (by first | rfl | simp [imm, immL])⟩
end Hp.T
end
section
set_option maxRecDepth 100000
namespace Hp.T
open Go Hp
attribute [local irreducible] RunsC RunsO RunsL OpW W Iso FW
theorem sameAsk_ok (x y : Ask) (hx : x.good) (hy : y.good) : Iso E2 f_ref28_Same [x.e, y.e] (.bool (decide (x.k = y.k))) := by
  have h1 : Iso E2 f_ref17_Same [x.problem.e, y.problem.e] (.bool (decide (x.problem.k = y.problem.k))) := sameProblem_ok x.problem y.problem hx.problem hy.problem
  have h2 := reasons_ok x.off y.off hx.off.ok hy.off.ok hx.off.le
  have h3 := seats_ok x.old y.old hx.old.ok hy.old.ok hx.old.le
  have h4 := ints_ok x.weights y.weights hx.weights.ok hy.weights.ok hx.weights.le
  have hi : immL [x.problem.e, y.problem.e] = true := by simp [immL]
  refine Iso_body rfl ?_
  (repeat (first | refine GO0 ?_ | ((first | refine WO_op ?_ | refine WO_op0 ?_); (first | refine o_box rfl rfl rfl fun i => ?_ | refine o_alloc fun i => ?_)) | refine CH1 ?_))
  exact ⟨rfl, _, .tmp rfl .nil, _, _, rfl, Rf_eq (by (try simp only [resV]); congr 1; rw [Bool.eq_iff_iff]; simp [Ask.k, and_assoc]) (by first | rfl | simp [imm, immL])⟩
def smallClass (c : Class) : Bool := decide (c.times.l.length ≤ 4) && decide (c.places.l.length ≤ 4)
def smallAsk (a : Ask) : Bool :=
  decide (a.problem.classes.l.length ≤ 5) && decide (a.problem.rules.l.length ≤ 6) && decide (a.problem.rooms.l.length ≤ 6) && decide (a.problem.persons.l.length ≤ 6) && decide (a.problem.courses.l.length ≤ 6) && decide (a.problem.students.l.length ≤ 8) && decide (a.off.l.length ≤ 30) && decide (a.old.l.length ≤ 20) && decide (a.weights.l.length ≤ 20)
def small (a : Ask) : Bool := smallAsk a && a.problem.classes.l.all smallClass
theorem small_ok (x : Ask) (hx : x.good) : Iso E2 f_law40_small [x.e] (.bool (small x)) := by
  refine Iso_body rfl ?_
  (repeat (first | refine GO0 ?_ | ((first | refine WO_op ?_ | refine WO_op0 ?_); (first | refine o_box rfl rfl rfl fun i => ?_ | refine o_alloc fun i => ?_)) | refine CH1 ?_))
  refine W_cond rfl (fun hc => ?_) (fun hc => ?_)
  · (repeat (first | refine GO0 ?_ | ((first | refine WO_op ?_ | refine WO_op0 ?_); (first | refine o_box rfl rfl rfl fun i => ?_ | refine o_alloc fun i => ?_)) | refine CH1 ?_))
    have hne : small x = false := by
      simp [small, smallAsk] at hc ⊢
      intros; omega
    exact ⟨rfl, _, .tmp rfl .nil, _, _, rfl, Rf_eq (by (try simp only [resV]); rw [hne]) (by first | rfl | simp [imm, immL])⟩
  · have hs : smallAsk x = true := by
      simp [smallAsk] at hc ⊢
      omega
    have hl : x.problem.classes.l.length ≤ 5 := by simp [smallAsk] at hs; omega
    (repeat (first | refine GO0 ?_ | ((first | refine WO_op ?_ | refine WO_op0 ?_); (first | refine o_box rfl rfl rfl fun i => ?_ | refine o_alloc fun i => ?_)) | refine CH1 ?_))
    rename_i i3
    refine W_loop (WL_count (fun k => [(3, .mptr i 0 0), (4, i64 k)]) (fun _ => [(i, ⟨false, .arr 15 [x.problem.e]⟩), (i3, ⟨false, .arr 20 [x.e]⟩)]) (fun k => ∀ j (h : j < x.problem.classes.l.length), j < k → smallClass x.problem.classes.l[j] = true) x.problem.classes.l.length 0 (by simp) (by omega) fun k hk hP ih => WL_round ?_)
    (repeat (first | refine GO0 ?_ | ((first | refine WO_op ?_ | refine WO_op0 ?_); (first | refine o_box rfl rfl rfl fun i => ?_ | refine o_alloc fun i => ?_)) | refine CH1 ?_))
    refine W_cond rfl (fun hc => ?_) (fun hc => ?_)
    · have hkx := lt_of_dec hc
      have ax := Sl.at Class.e x.problem.classes hkx
      have sx := Sl.szOf hx.problem.classes.ok hkx
      (repeat (first | refine GO0 ?_ | ((first | refine WO_op ?_ | refine WO_op0 ?_); (first | refine o_box rfl rfl rfl fun i => ?_ | refine o_alloc fun i => ?_)) | refine CH1 ?_))
      refine W_cond rfl (fun hc => ?_) (fun hc => ?_)
      · (repeat (first | refine GO0 ?_ | ((first | refine WO_op ?_ | refine WO_op0 ?_); (first | refine o_box rfl rfl rfl fun i => ?_ | refine o_alloc fun i => ?_)) | refine CH1 ?_))
        have hne : small x = false := by
          rw [small, hs, Bool.true_and, List.all_eq_false]
          refine ⟨_, List.getElem_mem hkx, ?_⟩
          simp [smallClass] at hc ⊢; omega
        exact ⟨rfl, _, .tmp rfl .nil, _, _, rfl, Rf_eq (by (try simp only [resV]); rw [hne]) (by first | rfl | simp [imm, immL])⟩
      · (repeat (first | refine GO0 ?_ | ((first | refine WO_op ?_ | refine WO_op0 ?_); (first | refine o_box rfl rfl rfl fun i => ?_ | refine o_alloc fun i => ?_)) | refine CH1 ?_))
        exact ih hkx fun j h hj => by
          by_cases e : j = k
          · subst e; simp [smallClass] at hc ⊢; omega
          · exact hP j h (by omega)
    · have hkl := ge_of_dec hc
      have he : small x = true := by
        rw [small, hs, Bool.true_and, List.all_eq_true]
        intro c hcm
        obtain ⟨j, hj, rfl⟩ := List.getElem_of_mem hcm
        exact hP j hj (by omega)
      (repeat (first | refine GO0 ?_ | ((first | refine WO_op ?_ | refine WO_op0 ?_); (first | refine o_box rfl rfl rfl fun i => ?_ | refine o_alloc fun i => ?_)) | refine CH1 ?_))
      exact ⟨rfl, _, .tmp rfl .nil, _, _, rfl, Rf_eq (by (try simp only [resV]); rw [he]) (by first | rfl | simp [imm, immL])⟩
end Hp.T
end
