/- Rows compared. -/
import Derived.Test.YtmeibjhimcgplaaGreatDoorHpD
import Derived.Test.YtmeibjhimcgplaaGreatDoorHpC
import Derived.Test.YtmeibjhimcgplaaGreatDoorHpE
set_option linter.all false
set_option maxRecDepth 100000
namespace Hp.T
open Go Hp
attribute [local irreducible] RunsC RunsO RunsL OpW W Iso FW
theorem Sl.at {α : Type} (f : α → PV) (s : Sl α) {k : Nat} (h : k < s.l.length) : (s.l.map f)[k]? = some (f s.l[k]) := by simp [h]
theorem Sl.szOf {α : Type} {s : Sl α} {m k : Nat} (hs : s.ok m) (h : k < s.l.length) : m = s.sz := by
  rcases hs with hs | hs
  · rw [hs] at h; simp at h
  · exact hs.symm
theorem eq_at {α : Type} {x y : List α} (hl : x.length = y.length) (h : ∀ j, j < x.length → x[j]? = y[j]?) : x = y := List.ext_getElem? fun i => by
  by_cases hi : i < x.length
  · exact h i hi
  · rw [List.getElem?_eq_none (by omega), List.getElem?_eq_none (by omega)]
theorem lt_of_dec {α β : Type} {f : α → β} {k : Nat} {l : List α} (h : decide ((k : Int) < ((l.map f).length : Nat)) = true) : k < l.length := by
  have := of_decide_eq_true h; simp at this; omega
theorem ge_of_dec {α β : Type} {f : α → β} {k : Nat} {l : List α} (h : decide ((k : Int) < ((l.map f).length : Nat)) = false) : l.length ≤ k := by
  have := of_decide_eq_false h; simp at this; omega
theorem ne_of_ne {α β γ δ : Type} {f : α → β} {g : γ → δ} {x : List α} {y : List γ} (h : ((((x.map f).length : Nat) : Int) != (((y.map g).length : Nat) : Int)) = true) : x.length ≠ y.length := by simp at h; omega
theorem eq_of_ne {α β γ δ : Type} {f : α → β} {g : γ → δ} {x : List α} {y : List γ} (h : ((((x.map f).length : Nat) : Int) != (((y.map g).length : Nat) : Int)) = false) : x.length = y.length := by simp at h; omega
theorem bv_int {n : Nat} (a b : BitVec n) : ((a.toNat : Int) = (b.toNat : Int)) ↔ a = b := by rw [Int.ofNat_inj, BitVec.toNat_inj]
theorem peq_Reason (a b : Reason) : peq (.st [.i, .i]) a.e b.e = some (decide (a = b)) := by
  cases a; cases b
  simp only [Reason.e, peq, scEqL, scEq, if_true, Reason.mk.injEq, Option.some.injEq]
  rw [Bool.eq_iff_iff]; simp
theorem peq_Seat (a b : Seat) : peq (.st [.i, .i]) a.e b.e = some (decide (a = b)) := by
  cases a; cases b
  simp only [Seat.e, peq, scEqL, scEq, if_true, Seat.mk.injEq, Option.some.injEq]
  rw [Bool.eq_iff_iff]; simp
theorem peq_When (a b : When) : peq (.st [.i, .i, .i, .i]) a.e b.e = some (decide (a = b)) := by
  cases a; cases b
  simp only [When.e, peq, scEqL, scEq, if_true, When.mk.injEq, Option.some.injEq]
  rw [Bool.eq_iff_iff]; simp [bv_int]
theorem peq_Place (a b : Place) : peq (.st [.i, .i]) a.e b.e = some (decide (a = b)) := by
  cases a; cases b
  simp only [Place.e, peq, scEqL, scEq, if_true, Place.mk.injEq, Option.some.injEq]
  rw [Bool.eq_iff_iff]; simp
theorem peq_Time (a b : Time) : peq (.ns [.i, .i, .i, .i, .i]) a.e b.e = some (decide (a = b)) := by
  rcases a with ⟨⟨⟩, _⟩; rcases b with ⟨⟨⟩, _⟩
  simp only [Time.e, peq, scEqL, scEq, if_true, Time.mk.injEq, When.mk.injEq, Option.some.injEq]
  rw [Bool.eq_iff_iff]; simp [bv_int, and_assoc]
theorem peq_Grid (a b : Grid) : peq (.st [.i, .i, .i]) a.e b.e = some (decide (a = b)) := by
  cases a; cases b
  simp only [Grid.e, peq, scEqL, scEq, if_true, Grid.mk.injEq, Option.some.injEq]
  rw [Bool.eq_iff_iff]; simp
theorem ints_ok (x y : Sl Int) (hx : x.ok 1) (hy : y.ok 1) (hl : x.l.length ≤ 140737488351232) : Iso E2 f_ref28_ints [x.e i64, y.e i64] (.bool (decide (x.l = y.l))) := by
  refine Iso_body rfl ?_
  (repeat' (first | refine GO0 ?_ | ((first | refine WO_op ?_ | refine WO_op0 ?_); (first | refine o_box rfl rfl rfl fun i => ?_ | refine o_alloc fun i => ?_)) | refine CH1 ?_ | refine W_cond rfl (fun hc => ?_) (fun hc => ?_)))
  · have hne : decide (x.l = y.l) = false := by
      rw [decide_eq_false_iff_not]; intro h
      have := congrArg List.length h
      try simp only [List.length_map] at this
      exact ne_of_ne hc this
    exact ⟨rfl, _, .tmp rfl .nil, _, _, rfl, Rf_eq (by (try simp only [resV]); rw [hne]) (by first | rfl | simp [imm, immL])⟩
  · have hlen := eq_of_ne hc
    refine W_loop (WL_count (fun k => [(0, x.e i64), (1, y.e i64), (5, i64 k)]) (fun _ => []) (fun k => ∀ j, j < k → (x.l)[j]? = (y.l)[j]?) x.l.length 0 (by simp) (by omega) fun k hk hP ih => WL_round ?_)
    (repeat (first | refine GO0 ?_ | ((first | refine WO_op ?_ | refine WO_op0 ?_); (first | refine o_box rfl rfl rfl fun i => ?_ | refine o_alloc fun i => ?_)) | refine CH1 ?_))
    refine W_cond rfl (fun hc => ?_) (fun hc => ?_)
    · have hkx := lt_of_dec hc
      have hky : k < y.l.length := by omega
      have ax := Sl.at i64 x hkx
      have ay := Sl.at i64 y hky
      have sx := Sl.szOf hx hkx
      have sy := Sl.szOf hy hky
      (repeat (first | refine GO0 ?_ | ((first | refine WO_op ?_ | refine WO_op0 ?_); (first | refine o_box rfl rfl rfl fun i => ?_ | refine o_alloc fun i => ?_)) | refine CH1 ?_))
      refine W_cond rfl (fun hc => ?_) (fun hc => ?_)
      · (repeat (first | refine GO0 ?_ | ((first | refine WO_op ?_ | refine WO_op0 ?_); (first | refine o_box rfl rfl rfl fun i => ?_ | refine o_alloc fun i => ?_)) | refine CH1 ?_))
        have hne : decide (x.l = y.l) = false := by
          rw [decide_eq_false_iff_not]; intro h
          have h2 : (x.l)[k]? = (y.l)[k]? := by rw [h]
          simp [hkx, hky] at h2
          simp [h2] at hc
        exact ⟨rfl, _, .tmp rfl .nil, _, _, rfl, Rf_eq (by (try simp only [resV]); rw [hne]) (by first | rfl | simp [imm, immL])⟩
      · (repeat (first | refine GO0 ?_ | ((first | refine WO_op ?_ | refine WO_op0 ?_); (first | refine o_box rfl rfl rfl fun i => ?_ | refine o_alloc fun i => ?_)) | refine CH1 ?_))
        exact ih hkx fun j hj => by
          by_cases h : j = k
          · subst h; simp at hc; simp [hkx, hky, hc]
          · exact hP j (by omega)
    · have hkl := ge_of_dec hc
      have he : decide (x.l = y.l) = true := by
        rw [decide_eq_true_iff]; exact eq_at (by simpa using hlen) fun j hj => hP j (by try simp only [List.length_map] at hj
                                                                                        omega)
      (repeat (first | refine GO0 ?_ | ((first | refine WO_op ?_ | refine WO_op0 ?_); (first | refine o_box rfl rfl rfl fun i => ?_ | refine o_alloc fun i => ?_)) | refine CH1 ?_))
      exact ⟨rfl, _, .tmp rfl .nil, _, _, rfl, Rf_eq (by (try simp only [resV]); rw [he]) (by first | rfl | simp [imm, immL])⟩
theorem ints3_ok (x y : Sl Int) (hx : x.ok 1) (hy : y.ok 1) (hl : x.l.length ≤ 140737488351232) : Iso E2 f_ref03_Ints [x.e i64, y.e i64] (.bool (decide (x.l = y.l))) := by
  refine Iso_body rfl ?_
  (repeat' (first | refine GO0 ?_ | ((first | refine WO_op ?_ | refine WO_op0 ?_); (first | refine o_box rfl rfl rfl fun i => ?_ | refine o_alloc fun i => ?_)) | refine CH1 ?_ | refine W_cond rfl (fun hc => ?_) (fun hc => ?_)))
  · have hne : decide (x.l = y.l) = false := by
      rw [decide_eq_false_iff_not]; intro h
      have := congrArg List.length h
      try simp only [List.length_map] at this
      exact ne_of_ne hc this
    exact ⟨rfl, _, .tmp rfl .nil, _, _, rfl, Rf_eq (by (try simp only [resV]); rw [hne]) (by first | rfl | simp [imm, immL])⟩
  · have hlen := eq_of_ne hc
    refine W_loop (WL_count (fun k => [(0, x.e i64), (1, y.e i64), (5, i64 k)]) (fun _ => []) (fun k => ∀ j, j < k → (x.l)[j]? = (y.l)[j]?) x.l.length 0 (by simp) (by omega) fun k hk hP ih => WL_round ?_)
    (repeat (first | refine GO0 ?_ | ((first | refine WO_op ?_ | refine WO_op0 ?_); (first | refine o_box rfl rfl rfl fun i => ?_ | refine o_alloc fun i => ?_)) | refine CH1 ?_))
    refine W_cond rfl (fun hc => ?_) (fun hc => ?_)
    · have hkx := lt_of_dec hc
      have hky : k < y.l.length := by omega
      have ax := Sl.at i64 x hkx
      have ay := Sl.at i64 y hky
      have sx := Sl.szOf hx hkx
      have sy := Sl.szOf hy hky
      (repeat (first | refine GO0 ?_ | ((first | refine WO_op ?_ | refine WO_op0 ?_); (first | refine o_box rfl rfl rfl fun i => ?_ | refine o_alloc fun i => ?_)) | refine CH1 ?_))
      refine W_cond rfl (fun hc => ?_) (fun hc => ?_)
      · (repeat (first | refine GO0 ?_ | ((first | refine WO_op ?_ | refine WO_op0 ?_); (first | refine o_box rfl rfl rfl fun i => ?_ | refine o_alloc fun i => ?_)) | refine CH1 ?_))
        have hne : decide (x.l = y.l) = false := by
          rw [decide_eq_false_iff_not]; intro h
          have h2 : (x.l)[k]? = (y.l)[k]? := by rw [h]
          simp [hkx, hky] at h2
          simp [h2] at hc
        exact ⟨rfl, _, .tmp rfl .nil, _, _, rfl, Rf_eq (by (try simp only [resV]); rw [hne]) (by first | rfl | simp [imm, immL])⟩
      · (repeat (first | refine GO0 ?_ | ((first | refine WO_op ?_ | refine WO_op0 ?_); (first | refine o_box rfl rfl rfl fun i => ?_ | refine o_alloc fun i => ?_)) | refine CH1 ?_))
        exact ih hkx fun j hj => by
          by_cases h : j = k
          · subst h; simp at hc; simp [hkx, hky, hc]
          · exact hP j (by omega)
    · have hkl := ge_of_dec hc
      have he : decide (x.l = y.l) = true := by
        rw [decide_eq_true_iff]; exact eq_at (by simpa using hlen) fun j hj => hP j (by try simp only [List.length_map] at hj
                                                                                        omega)
      (repeat (first | refine GO0 ?_ | ((first | refine WO_op ?_ | refine WO_op0 ?_); (first | refine o_box rfl rfl rfl fun i => ?_ | refine o_alloc fun i => ?_)) | refine CH1 ?_))
      exact ⟨rfl, _, .tmp rfl .nil, _, _, rfl, Rf_eq (by (try simp only [resV]); rw [he]) (by first | rfl | simp [imm, immL])⟩
theorem reasons_ok (x y : Sl Reason) (hx : x.ok 2) (hy : y.ok 2) (hl : x.l.length ≤ 140737488351232) : Iso E2 f_ref28_Rows [x.e Reason.e, y.e Reason.e] (.bool (decide (x.l = y.l))) := by
  refine Iso_body rfl ?_
  (repeat' (first | refine GO0 ?_ | ((first | refine WO_op ?_ | refine WO_op0 ?_); (first | refine o_box rfl rfl rfl fun i => ?_ | refine o_alloc fun i => ?_)) | refine CH1 ?_ | refine W_cond rfl (fun hc => ?_) (fun hc => ?_)))
  · have hne : decide (x.l = y.l) = false := by
      rw [decide_eq_false_iff_not]; intro h
      have := congrArg List.length h
      try simp only [List.length_map] at this
      exact ne_of_ne hc this
    exact ⟨rfl, _, .tmp rfl .nil, _, _, rfl, Rf_eq (by (try simp only [resV]); rw [hne]) (by first | rfl | simp [imm, immL])⟩
  · have hlen := eq_of_ne hc
    refine W_loop (WL_count (fun k => [(0, x.e Reason.e), (1, y.e Reason.e), (5, i64 k)]) (fun _ => []) (fun k => ∀ j, j < k → (x.l)[j]? = (y.l)[j]?) x.l.length 0 (by simp) (by omega) fun k hk hP ih => WL_round ?_)
    (repeat (first | refine GO0 ?_ | ((first | refine WO_op ?_ | refine WO_op0 ?_); (first | refine o_box rfl rfl rfl fun i => ?_ | refine o_alloc fun i => ?_)) | refine CH1 ?_))
    refine W_cond rfl (fun hc => ?_) (fun hc => ?_)
    · have hkx := lt_of_dec hc
      have hky : k < y.l.length := by omega
      have ax := Sl.at Reason.e x hkx
      have ay := Sl.at Reason.e y hky
      have sx := Sl.szOf hx hkx
      have sy := Sl.szOf hy hky
      (repeat (first | ((first | refine WO_op ?_ | refine WO_op0 ?_); (first | refine o_ne rfl rfl (peq_Reason ..) ?_ | refine o_box rfl rfl rfl fun i => ?_ | refine o_alloc fun i => ?_)) | refine GS ?_ | refine CH1 ?_))
      refine W_cond rfl (fun hc => ?_) (fun hc => ?_)
      · (repeat (first | refine GO0 ?_ | ((first | refine WO_op ?_ | refine WO_op0 ?_); (first | refine o_box rfl rfl rfl fun i => ?_ | refine o_alloc fun i => ?_)) | refine CH1 ?_))
        have hne : decide (x.l = y.l) = false := by
          rw [decide_eq_false_iff_not]; intro h
          have h2 : (x.l)[k]? = (y.l)[k]? := by rw [h]
          simp [hkx, hky] at h2
          simp [h2] at hc
        exact ⟨rfl, _, .tmp rfl .nil, _, _, rfl, Rf_eq (by (try simp only [resV]); rw [hne]) (by first | rfl | simp [imm, immL])⟩
      · (repeat (first | refine GO0 ?_ | ((first | refine WO_op ?_ | refine WO_op0 ?_); (first | refine o_box rfl rfl rfl fun i => ?_ | refine o_alloc fun i => ?_)) | refine CH1 ?_))
        exact ih hkx fun j hj => by
          by_cases h : j = k
          · subst h; simp at hc; simp [hkx, hky, hc]
          · exact hP j (by omega)
    · have hkl := ge_of_dec hc
      have he : decide (x.l = y.l) = true := by
        rw [decide_eq_true_iff]; exact eq_at (by simpa using hlen) fun j hj => hP j (by try simp only [List.length_map] at hj
                                                                                        omega)
      (repeat (first | refine GO0 ?_ | ((first | refine WO_op ?_ | refine WO_op0 ?_); (first | refine o_box rfl rfl rfl fun i => ?_ | refine o_alloc fun i => ?_)) | refine CH1 ?_))
      exact ⟨rfl, _, .tmp rfl .nil, _, _, rfl, Rf_eq (by (try simp only [resV]); rw [he]) (by first | rfl | simp [imm, immL])⟩
theorem seats_ok (x y : Sl Seat) (hx : x.ok 2) (hy : y.ok 2) (hl : x.l.length ≤ 140737488351232) : Iso E2 f_ref19_Same [x.e Seat.e, y.e Seat.e] (.bool (decide (x.l = y.l))) := by
  refine Iso_body rfl ?_
  (repeat' (first | refine GO0 ?_ | ((first | refine WO_op ?_ | refine WO_op0 ?_); (first | refine o_box rfl rfl rfl fun i => ?_ | refine o_alloc fun i => ?_)) | refine CH1 ?_ | refine W_cond rfl (fun hc => ?_) (fun hc => ?_)))
  · have hne : decide (x.l = y.l) = false := by
      rw [decide_eq_false_iff_not]; intro h
      have := congrArg List.length h
      try simp only [List.length_map] at this
      exact ne_of_ne hc this
    exact ⟨rfl, _, .tmp rfl .nil, _, _, rfl, Rf_eq (by (try simp only [resV]); rw [hne]) (by first | rfl | simp [imm, immL])⟩
  · have hlen := eq_of_ne hc
    refine W_loop (WL_count (fun k => [(0, x.e Seat.e), (1, y.e Seat.e), (5, i64 k)]) (fun _ => []) (fun k => ∀ j, j < k → (x.l)[j]? = (y.l)[j]?) x.l.length 0 (by simp) (by omega) fun k hk hP ih => WL_round ?_)
    (repeat (first | refine GO0 ?_ | ((first | refine WO_op ?_ | refine WO_op0 ?_); (first | refine o_box rfl rfl rfl fun i => ?_ | refine o_alloc fun i => ?_)) | refine CH1 ?_))
    refine W_cond rfl (fun hc => ?_) (fun hc => ?_)
    · have hkx := lt_of_dec hc
      have hky : k < y.l.length := by omega
      have ax := Sl.at Seat.e x hkx
      have ay := Sl.at Seat.e y hky
      have sx := Sl.szOf hx hkx
      have sy := Sl.szOf hy hky
      (repeat (first | ((first | refine WO_op ?_ | refine WO_op0 ?_); (first | refine o_ne rfl rfl (peq_Seat ..) ?_ | refine o_box rfl rfl rfl fun i => ?_ | refine o_alloc fun i => ?_)) | refine GS ?_ | refine CH1 ?_))
      refine W_cond rfl (fun hc => ?_) (fun hc => ?_)
      · (repeat (first | refine GO0 ?_ | ((first | refine WO_op ?_ | refine WO_op0 ?_); (first | refine o_box rfl rfl rfl fun i => ?_ | refine o_alloc fun i => ?_)) | refine CH1 ?_))
        have hne : decide (x.l = y.l) = false := by
          rw [decide_eq_false_iff_not]; intro h
          have h2 : (x.l)[k]? = (y.l)[k]? := by rw [h]
          simp [hkx, hky] at h2
          simp [h2] at hc
        exact ⟨rfl, _, .tmp rfl .nil, _, _, rfl, Rf_eq (by (try simp only [resV]); rw [hne]) (by first | rfl | simp [imm, immL])⟩
      · (repeat (first | refine GO0 ?_ | ((first | refine WO_op ?_ | refine WO_op0 ?_); (first | refine o_box rfl rfl rfl fun i => ?_ | refine o_alloc fun i => ?_)) | refine CH1 ?_))
        exact ih hkx fun j hj => by
          by_cases h : j = k
          · subst h; simp at hc; simp [hkx, hky, hc]
          · exact hP j (by omega)
    · have hkl := ge_of_dec hc
      have he : decide (x.l = y.l) = true := by
        rw [decide_eq_true_iff]; exact eq_at (by simpa using hlen) fun j hj => hP j (by try simp only [List.length_map] at hj
                                                                                        omega)
      (repeat (first | refine GO0 ?_ | ((first | refine WO_op ?_ | refine WO_op0 ?_); (first | refine o_box rfl rfl rfl fun i => ?_ | refine o_alloc fun i => ?_)) | refine CH1 ?_))
      exact ⟨rfl, _, .tmp rfl .nil, _, _, rfl, Rf_eq (by (try simp only [resV]); rw [he]) (by first | rfl | simp [imm, immL])⟩
theorem whens_ok (x y : Sl When) (hx : x.ok 4) (hy : y.ok 4) (hl : x.l.length ≤ 140737488351232) : Iso E2 f_ref11_Rows [x.e When.e, y.e When.e] (.bool (decide (x.l = y.l))) := by
  refine Iso_body rfl ?_
  (repeat' (first | refine GO0 ?_ | ((first | refine WO_op ?_ | refine WO_op0 ?_); (first | refine o_box rfl rfl rfl fun i => ?_ | refine o_alloc fun i => ?_)) | refine CH1 ?_ | refine W_cond rfl (fun hc => ?_) (fun hc => ?_)))
  · have hne : decide (x.l = y.l) = false := by
      rw [decide_eq_false_iff_not]; intro h
      have := congrArg List.length h
      try simp only [List.length_map] at this
      exact ne_of_ne hc this
    exact ⟨rfl, _, .tmp rfl .nil, _, _, rfl, Rf_eq (by (try simp only [resV]); rw [hne]) (by first | rfl | simp [imm, immL])⟩
  · have hlen := eq_of_ne hc
    refine W_loop (WL_count (fun k => [(0, x.e When.e), (1, y.e When.e), (5, i64 k)]) (fun _ => []) (fun k => ∀ j, j < k → (x.l)[j]? = (y.l)[j]?) x.l.length 0 (by simp) (by omega) fun k hk hP ih => WL_round ?_)
    (repeat (first | refine GO0 ?_ | ((first | refine WO_op ?_ | refine WO_op0 ?_); (first | refine o_box rfl rfl rfl fun i => ?_ | refine o_alloc fun i => ?_)) | refine CH1 ?_))
    refine W_cond rfl (fun hc => ?_) (fun hc => ?_)
    · have hkx := lt_of_dec hc
      have hky : k < y.l.length := by omega
      have ax := Sl.at When.e x hkx
      have ay := Sl.at When.e y hky
      have sx := Sl.szOf hx hkx
      have sy := Sl.szOf hy hky
      (repeat (first | ((first | refine WO_op ?_ | refine WO_op0 ?_); (first | refine o_ne rfl rfl (peq_When ..) ?_ | refine o_box rfl rfl rfl fun i => ?_ | refine o_alloc fun i => ?_)) | refine GS ?_ | refine CH1 ?_))
      refine W_cond rfl (fun hc => ?_) (fun hc => ?_)
      · (repeat (first | refine GO0 ?_ | ((first | refine WO_op ?_ | refine WO_op0 ?_); (first | refine o_box rfl rfl rfl fun i => ?_ | refine o_alloc fun i => ?_)) | refine CH1 ?_))
        have hne : decide (x.l = y.l) = false := by
          rw [decide_eq_false_iff_not]; intro h
          have h2 : (x.l)[k]? = (y.l)[k]? := by rw [h]
          simp [hkx, hky] at h2
          simp [h2] at hc
        exact ⟨rfl, _, .tmp rfl .nil, _, _, rfl, Rf_eq (by (try simp only [resV]); rw [hne]) (by first | rfl | simp [imm, immL])⟩
      · (repeat (first | refine GO0 ?_ | ((first | refine WO_op ?_ | refine WO_op0 ?_); (first | refine o_box rfl rfl rfl fun i => ?_ | refine o_alloc fun i => ?_)) | refine CH1 ?_))
        exact ih hkx fun j hj => by
          by_cases h : j = k
          · subst h; simp at hc; simp [hkx, hky, hc]
          · exact hP j (by omega)
    · have hkl := ge_of_dec hc
      have he : decide (x.l = y.l) = true := by
        rw [decide_eq_true_iff]; exact eq_at (by simpa using hlen) fun j hj => hP j (by try simp only [List.length_map] at hj
                                                                                        omega)
      (repeat (first | refine GO0 ?_ | ((first | refine WO_op ?_ | refine WO_op0 ?_); (first | refine o_box rfl rfl rfl fun i => ?_ | refine o_alloc fun i => ?_)) | refine CH1 ?_))
      exact ⟨rfl, _, .tmp rfl .nil, _, _, rfl, Rf_eq (by (try simp only [resV]); rw [he]) (by first | rfl | simp [imm, immL])⟩
theorem rows14_ok (x y : Sl (Sl Int)) (hx : x.ok 1) (hy : y.ok 1) (hl : x.l.length ≤ 140737488351232) (hxx : ∀ a ∈ x.l, a.ok 1 ∧ a.l.length ≤ 140737488351232) (hyy : ∀ a ∈ y.l, a.ok 1 ∧ a.l.length ≤ 140737488351232) : Iso E2 f_ref14_Rows [x.e (Sl.e i64), y.e (Sl.e i64)] (.bool (decide (x.l.map Sl.l = y.l.map Sl.l))) := by
  refine Iso_body rfl ?_
  (repeat' (first | refine GO0 ?_ | ((first | refine WO_op ?_ | refine WO_op0 ?_); (first | refine o_box rfl rfl rfl fun i => ?_ | refine o_alloc fun i => ?_)) | refine CH1 ?_ | refine W_cond rfl (fun hc => ?_) (fun hc => ?_)))
  · have hne : decide (x.l.map Sl.l = y.l.map Sl.l) = false := by
      rw [decide_eq_false_iff_not]; intro h
      have := congrArg List.length h
      try simp only [List.length_map] at this
      exact ne_of_ne hc this
    exact ⟨rfl, _, .tmp rfl .nil, _, _, rfl, Rf_eq (by (try simp only [resV]); rw [hne]) (by first | rfl | simp [imm, immL])⟩
  · have hlen := eq_of_ne hc
    refine W_loop (WL_count (fun k => [(0, x.e (Sl.e i64)), (1, y.e (Sl.e i64)), (5, i64 k)]) (fun _ => []) (fun k => ∀ j, j < k → (x.l.map Sl.l)[j]? = (y.l.map Sl.l)[j]?) x.l.length 0 (by simp) (by omega) fun k hk hP ih => WL_round ?_)
    (repeat (first | refine GO0 ?_ | ((first | refine WO_op ?_ | refine WO_op0 ?_); (first | refine o_box rfl rfl rfl fun i => ?_ | refine o_alloc fun i => ?_)) | refine CH1 ?_))
    refine W_cond rfl (fun hc => ?_) (fun hc => ?_)
    · have hkx := lt_of_dec hc
      have hky : k < y.l.length := by omega
      have ax := Sl.at (Sl.e i64) x hkx
      have ay := Sl.at (Sl.e i64) y hky
      have sx := Sl.szOf hx hkx
      have sy := Sl.szOf hy hky
      have hcall := ints3_ok x.l[k] y.l[k] (hxx _ (List.getElem_mem hkx)).1 (hyy _ (List.getElem_mem hky)).1 (hxx _ (List.getElem_mem hkx)).2
      (repeat (first | refine GO0 ?_ | ((first | refine WO_op ?_ | refine WO_op0 ?_); (first | refine o_box rfl rfl rfl fun i => ?_ | refine o_alloc fun i => ?_)) | refine CH1 ?_))
      refine W_cond rfl (fun hc => ?_) (fun hc => ?_)
      · (repeat (first | refine GO0 ?_ | ((first | refine WO_op ?_ | refine WO_op0 ?_); (first | refine o_box rfl rfl rfl fun i => ?_ | refine o_alloc fun i => ?_)) | refine CH1 ?_))
        have hne : decide (x.l.map Sl.l = y.l.map Sl.l) = false := by
          rw [decide_eq_false_iff_not]; intro h
          have h2 : (x.l.map Sl.l)[k]? = (y.l.map Sl.l)[k]? := by rw [h]
          simp [hkx, hky] at h2
          simp [h2] at hc
        exact ⟨rfl, _, .tmp rfl .nil, _, _, rfl, Rf_eq (by (try simp only [resV]); rw [hne]) (by first | rfl | simp [imm, immL])⟩
      · (repeat (first | refine GO0 ?_ | ((first | refine WO_op ?_ | refine WO_op0 ?_); (first | refine o_box rfl rfl rfl fun i => ?_ | refine o_alloc fun i => ?_)) | refine CH1 ?_))
        exact ih hkx fun j hj => by
          by_cases h : j = k
          · subst h; simp at hc; simp [hkx, hky, hc]
          · exact hP j (by omega)
    · have hkl := ge_of_dec hc
      have he : decide (x.l.map Sl.l = y.l.map Sl.l) = true := by
        rw [decide_eq_true_iff]; exact eq_at (by simpa using hlen) fun j hj => hP j (by try simp only [List.length_map] at hj
                                                                                        omega)
      (repeat (first | refine GO0 ?_ | ((first | refine WO_op ?_ | refine WO_op0 ?_); (first | refine o_box rfl rfl rfl fun i => ?_ | refine o_alloc fun i => ?_)) | refine CH1 ?_))
      exact ⟨rfl, _, .tmp rfl .nil, _, _, rfl, Rf_eq (by (try simp only [resV]); rw [he]) (by first | rfl | simp [imm, immL])⟩
end Hp.T
