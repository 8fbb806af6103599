/- Common ground: a pure interpreter for the program, and what it computes. -/
import Derived.Test.YtmeibjhimcgplaaGreatDoorHpC
import Derived.Test.YtmeibjhimcgplaaGreatDoorHpS1
set_option linter.all false
section
set_option maxRecDepth 100000
namespace Hp.T
open Go Hp
attribute [local irreducible] RunsC RunsO RunsL OpW W Iso FW
def csz {α : Type} (s : Sl α) : Nat := if s.l.isEmpty then 0 else s.sz
def copySl {α : Type} (s : Sl α) : Sl α := ⟨false, csz s, s.l⟩
def copyRows (x : Sl (Sl Int)) : Sl (Sl Int) := ⟨false, csz x, x.l.map copySl⟩
theorem clone_is {α : Type} (f : α → PV) {k bytes : Nat} {P : α → Prop} {s : Sl α} (hs : s.good k bytes P) : cloneX k bytes [s.e f] = some (.isl true s.sz (s.l.map f)) := by
  have h1 : s.l = [] ∨ s.sz = k := hs.ok
  have h2 := hs.len
  simp only [Sl.e, cloneX, okBytes, List.isEmpty_map, List.length_map]
  rw [if_pos]
  rcases h1 with h1 | h1
  · simp [h1]
  · simp [h1]; omega
theorem copy_imm {α : Type} (f : α → PV) (s : Sl α) (i : Nat) (n : Nat) (C : BL) (hf : ∀ a, imm (f a) = true) : Rd1 ((i, ⟨false, .arr (if (s.l.map f).isEmpty then 0 else s.sz) (s.l.map f)⟩) :: C) (n + 1) (.msl i 0 (s.l.map f).length (s.l.map f).length) ((copySl s).e f) := by
  have h : Rf ((i, (⟨false, .arr (if (s.l.map f).isEmpty then 0 else s.sz) (s.l.map f)⟩ : HO)) :: C) (n + 1) (.msl i 0 (s.l.map f).length (s.l.map f).length) (.isl false (if (s.l.map f).isEmpty then 0 else s.sz) (s.l.map f)) [i] := by
    refine .msl (.head _) (by simp) ?_
    rw [List.drop_zero, List.take_length]
    exact .imm (immL_map f s.l hf)
  refine ⟨[i], ?_⟩
  have e : (copySl s).e f = .isl false (if (s.l.map f).isEmpty then 0 else s.sz) (s.l.map f) := by simp only [copySl, csz, Sl.e, List.isEmpty_map]
  rw [e]; exact h
theorem rows_ok (x : Sl (Sl Int)) (hx : x.good 1 24 (Sl.good 1 8 yes)) : Iso E2 f_problem_rows [x.e (Sl.e i64)] ((copyRows x).e (Sl.e i64)) := by
  have hg := clone_is (Sl.e i64) hx
  have him : immL (x.l.map (Sl.e i64)) = true := immL_map _ _ imm_SlI
  have hlx := hx.le
  refine Iso_body rfl ?_
  (repeat (first | ((first | refine WO_op ?_ | refine WO_op0 ?_); (first | refine o_own rfl (.imm (by simp [immL])) rfl hg him (by simp [immL]) rfl fun i => ?_ | refine o_lenm rfl ?_ | refine o_box rfl rfl rfl fun i => ?_ | refine o_alloc fun i => ?_)) | refine GS ?_ | refine CH1 ?_))
  refine W_loop (WL_countB (fun k => [(3, .msl i 0 (x.l.map (Sl.e i64)).length (x.l.map (Sl.e i64)).length), (8, .int .i64 (x.l.map (Sl.e i64)).length), (9, i64 k)])
    (fun k B => ∃ es D, B = D ++ [(i, (⟨false, .arr (if (x.l.map (Sl.e i64)).isEmpty then 0 else x.sz) es⟩ : HO))] ∧ Over D 5 (x.l.map (Sl.e i64)) ((x.l.map copySl).map (Sl.e i64)) es k) x.l.length 0 (by omega)
    ⟨_, [], rfl, .start (by simp)⟩ fun k B hk hI ih => WL_round ?_)
  obtain ⟨es, D, rfl, hO⟩ := hI
  (repeat (first | refine GO0 ?_ | ((first | refine WO_op ?_ | refine WO_op0 ?_); (first | refine o_box rfl rfl rfl fun i => ?_ | refine o_alloc fun i => ?_)) | refine CH1 ?_))
  refine W_cond rfl (fun hc => ?_) (fun hc => ?_)
  · have hkx := lt_of_dec hc
    have ax := Sl.at (Sl.e i64) x hkx
    have sx := Sl.szOf hx.ok hkx
    have hg2 := clone_is i64 (hx.all _ (List.getElem_mem hkx))
    have hkn : k < (x.l.map (Sl.e i64)).length := by simpa using hkx
    have hes : es[0 + k]? = some (Sl.e i64 x.l[k]) := by rw [Nat.zero_add]; exact hO.at.trans ax
    have hsz : (if (x.l.map (Sl.e i64)).isEmpty then 0 else x.sz) = 1 := by
      have : x.l ≠ [] := fun e => by rw [e] at hkx; simp at hkx
      simp [this, sx]
    (repeat (first | ((first | refine WO_op ?_ | refine WO_op0 ?_); (first | refine o_iaddrm rfl (by (repeat (first | exact .head _ | refine .tail _ ?_ | refine List.mem_append_right _ ?_))) rfl (natOf_cast ..) hkn hsz.symm ?_ | refine o_loadm rfl (by (repeat (first | exact .head _ | refine .tail _ ?_ | refine List.mem_append_right _ ?_))) hes rfl ?_ | refine o_own rfl (.imm (by simp [immL])) rfl hg2 (immL_map _ _ imm_i64) (by simp [immL]) rfl fun j => ?_ | refine o_box rfl rfl rfl fun i => ?_ | refine o_alloc fun i => ?_)) | refine GS ?_ | refine CH1 ?_))
    refine ih hkx _ ⟨es.set (0 + k) _, _ :: D, rfl, ?_⟩
    rw [Nat.zero_add]
    refine hO.step hkn (fun p hp => .tail _ hp) fun r hr => ?_
    have : r = Sl.e i64 (copySl x.l[k]) := by
      rw [List.map_map] at hr; simp [hkx] at hr; exact hr.symm
    rw [this]
    exact copy_imm i64 x.l[k] _ 4 D imm_i64
  · have hkl := ge_of_dec hc
    obtain ⟨L, hL⟩ := hO.all (by simpa using hkl)
    (repeat (first | refine GO0 ?_ | ((first | refine WO_op ?_ | refine WO_op0 ?_); (first | refine o_box rfl rfl rfl fun i => ?_ | refine o_alloc fun i => ?_)) | refine CH1 ?_))
    refine ⟨rfl, _, .tmp rfl .nil, _, i :: L, rfl, ?_⟩
    have e : Sl.e (Sl.e i64) (copyRows x) = .isl false (if (x.l.map (Sl.e i64)).isEmpty then 0 else x.sz) ((x.l.map copySl).map (Sl.e i64)) := by simp only [copyRows, csz, Sl.e, List.isEmpty_map]
    rw [e]
    refine .msl (by (repeat (first | exact .head _ | refine .tail _ ?_ | refine List.mem_append_right _ ?_))) (by have := hO.len; simp at this ⊢; omega) ?_
    rw [List.drop_zero, List.take_of_length_le (by have := hO.len; simp at this ⊢; omega)]
    exact hL.sub fun p hp => List.mem_append_left _ hp
end Hp.T
end
section
set_option maxRecDepth 100000
set_option maxHeartbeats 4000000
namespace Hp.T
open Go Hp
attribute [local irreducible] RunsC RunsO RunsL OpW W Iso FW
def copyWith {α : Type} (f : α → α) (s : Sl α) : Sl α := ⟨false, csz s, s.l.map f⟩
def copyRoom (r : Room) : Room := { r with shut := copySl r.shut }
def copyPerson (r : Person) : Person := { r with away := copySl r.away }
def copyClass (r : Class) : Class := { r with persons := copySl r.persons, times := copySl r.times, places := copySl r.places }
def copyWay (r : Way) : Way := ⟨copyRows r.parts⟩
def copyCourse (r : Course) : Course := { r with ways := copyWith copyWay r.ways }
def copyStudent (r : Student) : Student := { r with courses := copySl r.courses }
def copyRule (r : Rule) : Rule := { r with classes := copySl r.classes }
def copyProblem (p : Problem) : Problem := { p with rooms := copyWith copyRoom p.rooms, walk := copyRows p.walk, persons := copyWith copyPerson p.persons, classes := copyWith copyClass p.classes, courses := copyWith copyCourse p.courses, students := copyWith copyStudent p.students, rules := copyWith copyRule p.rules }
theorem sz_of {α : Type} (f : α → PV) {s : Sl α} {m k : Nat} (hs : s.ok m) (h : k < s.l.length) : m = (if (s.l.map f).isEmpty then 0 else s.sz) := by
  have : s.l ≠ [] := fun e => by rw [e] at h; simp at h
  rw [Sl.szOf hs h]; simp [this]
theorem newAt {α : Type} (f : α → PV) (g : α → α) {l : List α} {k : Nat} (hk : k < l.length) {r : PV} (h : ((l.map g).map f)[k]? = some r) : r = f (g l[k]) := by
  rw [List.map_map] at h; simp [hk] at h; exact h.symm
theorem rd_row {α : Type} {f : α → PV} (s : Sl α) (g : α → α) {i : Nat} {es : List PV} {B : BL} {d : Nat} (hm : (i, (⟨false, .arr (if (s.l.map f).isEmpty then 0 else s.sz) es⟩ : HO)) ∈ B) (hl : es.length = (s.l.map f).length) (hR : RdL B d es ((s.l.map g).map f)) :
    Rd1 B (d + 1) (.msl i 0 (s.l.map f).length (s.l.map f).length) ((copyWith g s).e f) := by
  have e : (copyWith g s).e f = .isl false (if (s.l.map f).isEmpty then 0 else s.sz) ((s.l.map g).map f) := by simp only [copyWith, csz, Sl.e, List.isEmpty_map]
  rw [e]; exact .msl hm hl hR
theorem copy_end (p : Problem) {B : BL} {jr jp jc0 jc js jl : Nat} {es1 es2 es3 es4 es5 es6 : List PV}
    (m1 : (jr, (⟨false, .arr (if (p.rooms.l.map Room.e).isEmpty then 0 else p.rooms.sz) es1⟩ : HO)) ∈ B) (l1 : es1.length = (p.rooms.l.map Room.e).length) (r1 : RdL B 5 es1 ((p.rooms.l.map copyRoom).map Room.e))
    (m2 : (jp, (⟨false, .arr (if (p.persons.l.map Person.e).isEmpty then 0 else p.persons.sz) es2⟩ : HO)) ∈ B) (l2 : es2.length = (p.persons.l.map Person.e).length) (r2 : RdL B 5 es2 ((p.persons.l.map copyPerson).map Person.e))
    (m3 : (jc0, (⟨false, .arr (if (p.classes.l.map Class.e).isEmpty then 0 else p.classes.sz) es3⟩ : HO)) ∈ B) (l3 : es3.length = (p.classes.l.map Class.e).length) (r3 : RdL B 5 es3 ((p.classes.l.map copyClass).map Class.e))
    (m4 : (jc, (⟨false, .arr (if (p.courses.l.map Course.e).isEmpty then 0 else p.courses.sz) es4⟩ : HO)) ∈ B) (l4 : es4.length = (p.courses.l.map Course.e).length) (r4 : RdL B 5 es4 ((p.courses.l.map copyCourse).map Course.e))
    (m5 : (js, (⟨false, .arr (if (p.students.l.map Student.e).isEmpty then 0 else p.students.sz) es5⟩ : HO)) ∈ B) (l5 : es5.length = (p.students.l.map Student.e).length) (r5 : RdL B 5 es5 ((p.students.l.map copyStudent).map Student.e))
    (m6 : (jl, (⟨false, .arr (if (p.rules.l.map Rule.e).isEmpty then 0 else p.rules.sz) es6⟩ : HO)) ∈ B) (l6 : es6.length = (p.rules.l.map Rule.e).length) (r6 : RdL B 5 es6 ((p.rules.l.map copyRule).map Rule.e)) :
    Rd1 B deep (.agg [.str p.name, i64 p.grid.weeks, i64 p.grid.days, i64 p.grid.slots, .msl jr 0 (p.rooms.l.map Room.e).length (p.rooms.l.map Room.e).length, (copyRows p.walk).e (Sl.e i64), .msl jp 0 (p.persons.l.map Person.e).length (p.persons.l.map Person.e).length, .msl jc0 0 (p.classes.l.map Class.e).length (p.classes.l.map Class.e).length, .msl jc 0 (p.courses.l.map Course.e).length (p.courses.l.map Course.e).length, .msl js 0 (p.students.l.map Student.e).length (p.students.l.map Student.e).length, .msl jl 0 (p.rules.l.map Rule.e).length (p.rules.l.map Rule.e).length, i64 p.weigh.time, i64 p.weigh.place, i64 p.weigh.rule, i64 p.weigh.clash]) (copyProblem p).e :=
  .agg (.cons (.imm rfl) (.cons (.imm rfl) (.cons (.imm rfl) (.cons (.imm rfl) (.cons (rd_row _ copyRoom m1 l1 r1) (.cons (.imm (imm_SlSlI _)) (.cons (rd_row _ copyPerson m2 l2 r2) (.cons (rd_row _ copyClass m3 l3 r3) (.cons (rd_row _ copyCourse m4 l4 r4) (.cons (rd_row _ copyStudent m5 l5 r5) (.cons (rd_row _ copyRule m6 l6 r6) (.cons (.imm rfl) (.cons (.imm rfl) (.cons (.imm rfl) (.cons (.imm rfl) .nil)))))))))))))))
theorem RdL_in {B D : BL} {n : Nat} {l r : List PV} (h : ∃ L, RfL D n l r L) (hs : ∀ p ∈ D, p ∈ B) : RdL B n l r := h.elim fun L h => ⟨L, h.sub hs⟩
end Hp.T
end
