/- Asks as they are read. -/
import Derived.Test.YtmeibjhimcgplaaGreatDoorHpD
import Derived.Test.YtmeibjhimcgplaaGreatDoorHpV
import Derived.Test.YtmeibjhimcgplaaGreatDoorProg
import Derived.KernelRfl
set_option linter.all false
namespace Go.Proofs.YtmeibjhimcgplaaGreatDoor
open Go Hp Hp.T
set_option maxRecDepth 100000
theorem map_of {α : Type} {f : α → PV} {P : α → Prop} : ∀ {es : List PV}, (∀ x ∈ es, ∃ y, P y ∧ x = f y) → ∃ l : List α, es = l.map f ∧ ∀ y ∈ l, P y
  | [], _ => ⟨[], rfl, fun y h => by cases h⟩
  | x :: es, h => by
    obtain ⟨y, hy, rfl⟩ := h x (by simp)
    obtain ⟨l, rfl, hl⟩ := map_of (es := es) fun z hz => h z (by simp [hz])
    exact ⟨y :: l, rfl, fun z hz => by rcases List.mem_cons.1 hz with rfl | hz; exact hy; exact hl z hz⟩
theorem Rd_Sl {t e : TypeId} {k bytes : Nat} {α : Type} {f : α → PV} {P : α → Prop} (hu : Tryz.prog.underlying t = some (.slice e)) (hc : Tryz.prog.cellsOf t = 1) (hk : 0 < k) (he : Rd Tryz.prog e k fun p => ∃ x, P x ∧ p = f x) (hb : Tryz.prog.bytesOf e = bytes) :
    Rd Tryz.prog t 1 fun p => ∃ s : Sl α, s.good k bytes P ∧ p = s.e f := by
  refine (Rd_slice hu hc hk he).mono fun p hp => ?_
  obtain ⟨es, h1, h2, rfl⟩ := hp
  obtain ⟨l, rfl, hl⟩ := map_of h1
  refine ⟨⟨false, k, l⟩, ⟨.inr rfl, ?_, hl⟩, rfl⟩
  rw [List.length_map, hb] at h2
  simp only [reachBytes] at h2
  omega
theorem rdInt : Rd Tryz.prog 3 1 fun p => ∃ n, yes n ∧ p = i64 n := (Rd_int Tryz.underlying3 (by kernel_rfl)).mono fun p ⟨n, _, h⟩ => ⟨n, trivial, h⟩
theorem rdStr : Rd Tryz.prog 9 1 fun p => ∃ s : ByteArray, p = .str s := (Rd_str Tryz.underlying9 (by kernel_rfl)).mono fun p ⟨s, _, h⟩ => ⟨s, h⟩
theorem rdBool : Rd Tryz.prog 4 1 fun p => ∃ b, p = .bool b := Rd_bool Tryz.underlying4 (by kernel_rfl)
theorem rdU {t : TypeId} {kd : IntKind} (w : Nat) (hu : Tryz.prog.underlying t = some (.int kd)) (hc : Tryz.prog.cellsOf t = 1) (hmin : kd.min = 0) (hmax : kd.max = 2 ^ w - 1) : Rd Tryz.prog t 1 fun p => ∃ n : BitVec w, p = .int kd n.toNat := (Rd_int hu hc).mono fun p ⟨n, h, hp⟩ => by
  simp only [Lit.wf, Bool.and_eq_true, decide_eq_true_iff, hmin, hmax] at h
  have h2 : n.toNat < 2 ^ w := by
    have : ((2 ^ w : Nat) : Int) = (2 : Int) ^ w := by simp
    omega
  exact ⟨BitVec.ofNat w n.toNat, by rw [hp, BitVec.toNat_ofNat, Nat.mod_eq_of_lt h2, Int.toNat_of_nonneg h.1]⟩
theorem rdU32 : Rd Tryz.prog 124 1 fun p => ∃ n : BitVec 32, p = .int .u32 n.toNat := rdU 32 Tryz.underlying124 (by kernel_rfl) rfl rfl
theorem rdU8 : Rd Tryz.prog 5 1 fun p => ∃ n : BitVec 8, p = .int .u8 n.toNat := rdU 8 Tryz.underlying5 (by kernel_rfl) rfl rfl
theorem rdU16 : Rd Tryz.prog 75 1 fun p => ∃ n : BitVec 16, p = .int .u16 n.toNat := rdU 16 Tryz.underlying75 (by kernel_rfl) rfl rfl
theorem Fd_nil {tot : Nat} : FieldsRd Tryz.prog tot [] tot [] := rfl
theorem Fd_cons {tot o k : Nat} {f : Field} {fs : List Field} {Q : PV → Prop} {Qs : List (PV → Prop)} (h : f.offset = o) (hr : Rd Tryz.prog f.type k Q) (hrest : FieldsRd Tryz.prog tot fs (o + k) Qs) : FieldsRd Tryz.prog tot (f :: fs) o (Q :: Qs) := ⟨h, k, hr, hrest⟩
theorem rdWhen : Rd Tryz.prog 126 4 fun p => ∃ x : When, yes x ∧ p = x.e :=
  (Rd_struct Tryz.underlying126 (by kernel_rfl) (Fd_cons rfl rdU32 (Fd_cons rfl rdU8 (Fd_cons rfl rdInt (Fd_cons rfl rdInt Fd_nil))))).mono fun p hp => by
    obtain ⟨_, ⟨_, _, ⟨a, rfl⟩, ⟨_, _, ⟨b, rfl⟩, ⟨_, _, ⟨c, _, rfl⟩, ⟨_, _, ⟨d, _, rfl⟩, rfl, rfl⟩, rfl⟩, rfl⟩, rfl⟩, rfl⟩ := hp
    exact ⟨⟨a, b, c, d⟩, trivial, rfl⟩
theorem rdWhens : Rd Tryz.prog 81 1 fun p => ∃ s : Sl When, s.good 4 24 yes ∧ p = s.e When.e := Rd_Sl Tryz.underlying81 (by kernel_rfl) (by decide) rdWhen (by kernel_rfl)
theorem rdInts : Rd Tryz.prog 37 1 fun p => ∃ s : Sl Int, s.good 1 8 yes ∧ p = s.e i64 := Rd_Sl Tryz.underlying37 (by kernel_rfl) (by decide) rdInt (by kernel_rfl)
theorem rdRows : Rd Tryz.prog 25 1 fun p => ∃ s : Sl (Sl Int), s.good 1 24 (Sl.good 1 8 yes) ∧ p = s.e (Sl.e i64) := Rd_Sl Tryz.underlying25 (by kernel_rfl) (by decide) rdInts (by kernel_rfl)
theorem rdRoom : Rd Tryz.prog 169 4 fun p => ∃ x : Room, x.good ∧ p = x.e :=
  (Rd_struct Tryz.underlying169 (by kernel_rfl) (Fd_cons rfl rdStr (Fd_cons rfl rdInt (Fd_cons rfl rdU16 (Fd_cons rfl rdWhens Fd_nil))))).mono fun p hp => by
    obtain ⟨_, ⟨_, _, ⟨a, rfl⟩, ⟨_, _, ⟨b, _, rfl⟩, ⟨_, _, ⟨c, rfl⟩, ⟨_, _, ⟨d, hd, rfl⟩, rfl, rfl⟩, rfl⟩, rfl⟩, rfl⟩, rfl⟩ := hp
    exact ⟨⟨a, b, c, d⟩, hd, rfl⟩
theorem rdRooms : Rd Tryz.prog 24 1 fun p => ∃ s : Sl Room, s.good 4 56 Room.good ∧ p = s.e Room.e := Rd_Sl Tryz.underlying24 (by kernel_rfl) (by decide) rdRoom (by kernel_rfl)
theorem rdPerson : Rd Tryz.prog 83 2 fun p => ∃ x : Person, x.good ∧ p = x.e :=
  (Rd_struct Tryz.underlying83 (by kernel_rfl) (Fd_cons rfl rdStr (Fd_cons rfl rdWhens Fd_nil))).mono fun p hp => by
    obtain ⟨_, ⟨_, _, ⟨a, rfl⟩, ⟨_, _, ⟨b, hb, rfl⟩, rfl, rfl⟩, rfl⟩, rfl⟩ := hp
    exact ⟨⟨a, b⟩, hb, rfl⟩
theorem rdPersons : Rd Tryz.prog 26 1 fun p => ∃ s : Sl Person, s.good 2 40 Person.good ∧ p = s.e Person.e := Rd_Sl Tryz.underlying26 (by kernel_rfl) (by decide) rdPerson (by kernel_rfl)
theorem rdTime : Rd Tryz.prog 128 5 fun p => ∃ x : Time, yes x ∧ p = x.e :=
  (Rd_struct Tryz.underlying128 (by kernel_rfl) (Fd_cons rfl rdWhen (Fd_cons rfl rdInt Fd_nil))).mono fun p hp => by
    obtain ⟨_, ⟨_, _, ⟨a, _, rfl⟩, ⟨_, _, ⟨b, _, rfl⟩, rfl, rfl⟩, rfl⟩, rfl⟩ := hp
    exact ⟨⟨a, b⟩, trivial, rfl⟩
theorem rdTimes : Rd Tryz.prog 76 1 fun p => ∃ s : Sl Time, s.good 5 32 yes ∧ p = s.e Time.e := Rd_Sl Tryz.underlying76 (by kernel_rfl) (by decide) rdTime (by kernel_rfl)
theorem rdPlace : Rd Tryz.prog 189 2 fun p => ∃ x : T.Place, yes x ∧ p = x.e :=
  (Rd_struct Tryz.underlying189 (by kernel_rfl) (Fd_cons rfl rdInt (Fd_cons rfl rdInt Fd_nil))).mono fun p hp => by
    obtain ⟨_, ⟨_, _, ⟨a, _, rfl⟩, ⟨_, _, ⟨b, _, rfl⟩, rfl, rfl⟩, rfl⟩, rfl⟩ := hp
    exact ⟨⟨a, b⟩, trivial, rfl⟩
theorem rdPlaces : Rd Tryz.prog 77 1 fun p => ∃ s : Sl T.Place, s.good 2 16 yes ∧ p = s.e T.Place.e := Rd_Sl Tryz.underlying77 (by kernel_rfl) (by decide) rdPlace (by kernel_rfl)
theorem rdClass : Rd Tryz.prog 79 7 fun p => ∃ x : Class, x.good ∧ p = x.e :=
  (Rd_struct Tryz.underlying79 (by kernel_rfl) (Fd_cons rfl rdStr (Fd_cons rfl rdInt (Fd_cons rfl rdU16 (Fd_cons rfl rdInts (Fd_cons rfl rdTimes (Fd_cons rfl rdPlaces (Fd_cons rfl rdInt Fd_nil)))))))).mono fun p hp => by
    obtain ⟨_, ⟨_, _, ⟨a, rfl⟩, ⟨_, _, ⟨b, _, rfl⟩, ⟨_, _, ⟨c, rfl⟩, ⟨_, _, ⟨d, hd, rfl⟩, ⟨_, _, ⟨e, he, rfl⟩, ⟨_, _, ⟨f, hf, rfl⟩, ⟨_, _, ⟨g, _, rfl⟩, rfl, rfl⟩, rfl⟩, rfl⟩, rfl⟩, rfl⟩, rfl⟩, rfl⟩, rfl⟩ := hp
    exact ⟨⟨a, b, c, d, e, f, g⟩, ⟨hd, he, hf⟩, rfl⟩
theorem rdClasses : Rd Tryz.prog 27 1 fun p => ∃ s : Sl Class, s.good 7 112 Class.good ∧ p = s.e Class.e := Rd_Sl Tryz.underlying27 (by kernel_rfl) (by decide) rdClass (by kernel_rfl)
theorem rdWay : Rd Tryz.prog 194 1 fun p => ∃ x : T.Way, x.good ∧ p = x.e :=
  (Rd_struct Tryz.underlying194 (by kernel_rfl) (Fd_cons rfl rdRows Fd_nil)).mono fun p hp => by
    obtain ⟨_, ⟨_, _, ⟨a, ha, rfl⟩, rfl, rfl⟩, rfl⟩ := hp
    exact ⟨⟨a⟩, ha, rfl⟩
theorem rdWays : Rd Tryz.prog 173 1 fun p => ∃ s : Sl T.Way, s.good 1 24 T.Way.good ∧ p = s.e T.Way.e := Rd_Sl Tryz.underlying173 (by kernel_rfl) (by decide) rdWay (by kernel_rfl)
theorem rdCourse : Rd Tryz.prog 175 2 fun p => ∃ x : Course, x.good ∧ p = x.e :=
  (Rd_struct Tryz.underlying175 (by kernel_rfl) (Fd_cons rfl rdStr (Fd_cons rfl rdWays Fd_nil))).mono fun p hp => by
    obtain ⟨_, ⟨_, _, ⟨a, rfl⟩, ⟨_, _, ⟨b, hb, rfl⟩, rfl, rfl⟩, rfl⟩, rfl⟩ := hp
    exact ⟨⟨a, b⟩, hb, rfl⟩
theorem rdCourses : Rd Tryz.prog 28 1 fun p => ∃ s : Sl Course, s.good 2 40 Course.good ∧ p = s.e Course.e := Rd_Sl Tryz.underlying28 (by kernel_rfl) (by decide) rdCourse (by kernel_rfl)
theorem rdStudent : Rd Tryz.prog 177 2 fun p => ∃ x : Student, x.good ∧ p = x.e :=
  (Rd_struct Tryz.underlying177 (by kernel_rfl) (Fd_cons rfl rdStr (Fd_cons rfl rdInts Fd_nil))).mono fun p hp => by
    obtain ⟨_, ⟨_, _, ⟨a, rfl⟩, ⟨_, _, ⟨b, hb, rfl⟩, rfl, rfl⟩, rfl⟩, rfl⟩ := hp
    exact ⟨⟨a, b⟩, hb, rfl⟩
theorem rdStudents : Rd Tryz.prog 29 1 fun p => ∃ s : Sl Student, s.good 2 40 Student.good ∧ p = s.e Student.e := Rd_Sl Tryz.underlying29 (by kernel_rfl) (by decide) rdStudent (by kernel_rfl)
theorem rdKind : Rd Tryz.prog 144 1 fun p => ∃ n, yes n ∧ p = i64 n := (Rd_int Tryz.underlying144 (by kernel_rfl)).mono fun p ⟨n, _, h⟩ => ⟨n, trivial, h⟩
theorem rdRule : Rd Tryz.prog 146 6 fun p => ∃ x : Rule, x.good ∧ p = x.e :=
  (Rd_struct Tryz.underlying146 (by kernel_rfl) (Fd_cons rfl rdKind (Fd_cons rfl rdInts (Fd_cons rfl rdInt (Fd_cons rfl rdInt (Fd_cons rfl rdBool (Fd_cons rfl rdInt Fd_nil))))))).mono fun p hp => by
    obtain ⟨_, ⟨_, _, ⟨a, _, rfl⟩, ⟨_, _, ⟨b, hb, rfl⟩, ⟨_, _, ⟨c, _, rfl⟩, ⟨_, _, ⟨d, _, rfl⟩, ⟨_, _, ⟨e, rfl⟩, ⟨_, _, ⟨f, _, rfl⟩, rfl, rfl⟩, rfl⟩, rfl⟩, rfl⟩, rfl⟩, rfl⟩, rfl⟩ := hp
    exact ⟨⟨a, b, c, d, e, f⟩, hb, rfl⟩
theorem rdRules : Rd Tryz.prog 30 1 fun p => ∃ s : Sl Rule, s.good 6 64 Rule.good ∧ p = s.e Rule.e := Rd_Sl Tryz.underlying30 (by kernel_rfl) (by decide) rdRule (by kernel_rfl)
theorem rdGrid : Rd Tryz.prog 23 3 fun p => ∃ x : Grid, p = x.e :=
  (Rd_struct Tryz.underlying23 (by kernel_rfl) (Fd_cons rfl rdInt (Fd_cons rfl rdInt (Fd_cons rfl rdInt Fd_nil)))).mono fun p hp => by
    obtain ⟨_, ⟨_, _, ⟨a, _, rfl⟩, ⟨_, _, ⟨b, _, rfl⟩, ⟨_, _, ⟨c, _, rfl⟩, rfl, rfl⟩, rfl⟩, rfl⟩, rfl⟩ := hp
    exact ⟨⟨a, b, c⟩, rfl⟩
theorem rdWeigh : Rd Tryz.prog 32 4 fun p => ∃ x : Weigh, p = .agg [i64 x.time, i64 x.place, i64 x.rule, i64 x.clash] :=
  (Rd_struct Tryz.underlying32 (by kernel_rfl) (Fd_cons rfl rdInt (Fd_cons rfl rdInt (Fd_cons rfl rdInt (Fd_cons rfl rdInt Fd_nil))))).mono fun p hp => by
    obtain ⟨_, ⟨_, _, ⟨a, _, rfl⟩, ⟨_, _, ⟨b, _, rfl⟩, ⟨_, _, ⟨c, _, rfl⟩, ⟨_, _, ⟨d, _, rfl⟩, rfl, rfl⟩, rfl⟩, rfl⟩, rfl⟩, rfl⟩ := hp
    exact ⟨⟨a, b, c, d⟩, rfl⟩
theorem rdProblem : Rd Tryz.prog 34 15 fun p => ∃ x : Problem, x.good ∧ p = x.e :=
  (Rd_struct Tryz.underlying34 (by kernel_rfl) (Fd_cons rfl rdStr (Fd_cons rfl rdGrid (Fd_cons rfl rdRooms (Fd_cons rfl rdRows (Fd_cons rfl rdPersons (Fd_cons rfl rdClasses (Fd_cons rfl rdCourses (Fd_cons rfl rdStudents (Fd_cons rfl rdRules (Fd_cons rfl rdWeigh Fd_nil))))))))))).mono fun p hp => by
    obtain ⟨_, ⟨_, _, ⟨a, rfl⟩, ⟨_, _, ⟨b, rfl⟩, ⟨_, _, ⟨c, hc, rfl⟩, ⟨_, _, ⟨d, hd, rfl⟩, ⟨_, _, ⟨e, he, rfl⟩, ⟨_, _, ⟨f, hf, rfl⟩, ⟨_, _, ⟨g, hg, rfl⟩, ⟨_, _, ⟨h, hh, rfl⟩, ⟨_, _, ⟨i, hi, rfl⟩, ⟨_, _, ⟨j, rfl⟩, rfl, rfl⟩, rfl⟩, rfl⟩, rfl⟩, rfl⟩, rfl⟩, rfl⟩, rfl⟩, rfl⟩, rfl⟩, rfl⟩ := hp
    exact ⟨⟨a, b, c, d, e, f, g, h, i, j⟩, ⟨hc, hd, he, hf, hg, hh, hi⟩, rfl⟩
theorem rdSeat : Rd Tryz.prog 85 2 fun p => ∃ x : Seat, yes x ∧ p = x.e :=
  (Rd_struct Tryz.underlying85 (by kernel_rfl) (Fd_cons rfl rdInt (Fd_cons rfl rdInt Fd_nil))).mono fun p hp => by
    obtain ⟨_, ⟨_, _, ⟨a, _, rfl⟩, ⟨_, _, ⟨b, _, rfl⟩, rfl, rfl⟩, rfl⟩, rfl⟩ := hp
    exact ⟨⟨a, b⟩, trivial, rfl⟩
theorem rdSeats : Rd Tryz.prog 36 1 fun p => ∃ s : Sl Seat, s.good 2 16 yes ∧ p = s.e Seat.e := Rd_Sl Tryz.underlying36 (by kernel_rfl) (by decide) rdSeat (by kernel_rfl)
theorem rdKind2 {t : TypeId} (hu : Tryz.prog.underlying t = some (.int .i64)) (hc : Tryz.prog.cellsOf t = 1) : Rd Tryz.prog t 1 fun p => ∃ n, yes n ∧ p = i64 n := (Rd_int hu hc).mono fun p ⟨n, _, h⟩ => ⟨n, trivial, h⟩
theorem rdReason : Rd Tryz.prog 56 2 fun p => ∃ x : Reason, yes x ∧ p = x.e :=
  (Rd_struct Tryz.underlying56 (by kernel_rfl) (Fd_cons rfl (rdKind2 Tryz.underlying54 (by kernel_rfl)) (Fd_cons rfl rdInt Fd_nil))).mono fun p hp => by
    obtain ⟨_, ⟨_, _, ⟨a, _, rfl⟩, ⟨_, _, ⟨b, _, rfl⟩, rfl, rfl⟩, rfl⟩, rfl⟩ := hp
    exact ⟨⟨a, b⟩, trivial, rfl⟩
theorem rdReasons : Rd Tryz.prog 35 1 fun p => ∃ s : Sl Reason, s.good 2 16 yes ∧ p = s.e Reason.e := Rd_Sl Tryz.underlying35 (by kernel_rfl) (by decide) rdReason (by kernel_rfl)
theorem rdAsk : Rd Tryz.prog 39 20 fun p => ∃ l, (∃ x : T.Ask, x.good ∧ PV.agg l = x.e) ∧ p = .agg l :=
  (Rd_struct Tryz.underlying39 (by kernel_rfl) (Fd_cons rfl rdProblem (Fd_cons rfl rdReasons (Fd_cons rfl rdInt (Fd_cons rfl rdSeats (Fd_cons rfl rdInts (Fd_cons rfl rdInt Fd_nil))))))).mono fun p hp => by
    obtain ⟨_, ⟨_, _, ⟨a, ha, rfl⟩, ⟨_, _, ⟨b, hb, rfl⟩, ⟨_, _, ⟨c, _, rfl⟩, ⟨_, _, ⟨d, hd, rfl⟩, ⟨_, _, ⟨e, he, rfl⟩, ⟨_, _, ⟨f, _, rfl⟩, rfl, rfl⟩, rfl⟩, rfl⟩, rfl⟩, rfl⟩, rfl⟩, rfl⟩ := hp
    exact ⟨_, ⟨⟨a, b, c, d, e, f⟩, ⟨ha, hb, hd, he⟩, rfl⟩, rfl⟩
end Go.Proofs.YtmeibjhimcgplaaGreatDoor
