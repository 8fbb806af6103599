/- Common ground: a pure interpreter for the program, and what it computes. -/
import Derived.Test.YtmeibjhimcgplaaGreatDoorHpB
import Derived.Test.YtmeibjhimcgplaaGreatDoorHpE
import Derived.Test.YtmeibjhimcgplaaGreatDoorHpZ
import Derived.Test.YtmeibjhimcgplaaGreatDoorHpY
import Derived.Test.YtmeibjhimcgplaaGreatDoorHpK
import Derived.ChangeArms
import Derived.DataReads
import Derived.ChangeShapes
import GoSem.ClaimJoined
import Derived.Test.YtmeibjhimcgplaaGreatDoorRows
import Derived.ProofKit
import Derived.LaidMore
import Derived.OpenShut
import Derived.Stop.Joined
import Derived.Lib.LaidTab
import Derived.LaidLaws
import Derived.MakeChecks
import Derived.LaidHandle
set_option linter.all false
section
namespace Go.Proofs.YtmeibjhimcgplaaGreatDoor
open Go Hp Hp.T
theorem mixed : Tryz.prog.follows .mixedOrders = true := by kernel_rfl
variable {t : Obj} {e : TypeId} {f : Nat × Nat}
theorem env0 (ht : t = .cells (Go.Lib.pow10Tab.map fun z => Value.int .u64 z).toArray e f) : EnvOk Tryz.prog [(0, t)] E0 where
  fns f pf h := tab_fns h
  ext := extOk_of (extTab_ok ht)
  draw call hc := draw_sim mixed (extOk_of (extTab_ok ht)) hc
theorem ext2 (ht : t = .cells (Go.Lib.pow10Tab.map fun z => Value.int .u64 z).toArray e f) : ExtOk Tryz.prog [(0, t)] E2.ext := by
  refine extOk_of fun f x hx => ?_
  simp only [E2] at hx
  split at hx
  · rename_i hf; cases hx; subst hf
    refine ⟨by kernel_rfl, fun args r hg w N vs hN hτ hr => ?_⟩
    obtain ⟨n, hn⟩ := seekP_is hg
    exact seek_calls (env0 ht) n hn hN hτ hr
  · exact extTab_ok ht f x hx
theorem env2 (ht : t = .cells (Go.Lib.pow10Tab.map fun z => Value.int .u64 z).toArray e f) : EnvOk Tryz.prog [(0, t)] E2 where
  fns f pf h := tab_fns h
  ext := ext2 ht
  draw call hc := draw_sim mixed (ext2 ht) hc
end Go.Proofs.YtmeibjhimcgplaaGreatDoor
end
section
namespace Hp
open Go
variable {P : Program} {t e : TypeId} {k : Nat} {Q : PV → Prop}
abbrev noN : Nat → Prop := fun _ => False
/-- what is read at a type is such data -/
def Rd (P : Program) (t : TypeId) (k : Nat) (Q : PV → Prop) : Prop :=
  P.cellsOf t = k ∧ ∀ {H : Type} (enc : TypeId × Value → H) (w : World) (fuel : Nat) (cs : List Value) (d : DataW H) (ps : List MemPlace),
    DataW.trod enc P w 0 (fun _ => true) true fuel t cs = some (d, ps) → (∀ n ∈ d.weights P t, n ≤ reachBytes) →
    cs.length = k ∧ ∃ pv, Q pv ∧ pv.cells.length = k ∧ ∀ i, i < k → Rel w noN noR (pv.cells.getD i .any) (cs.getD i undef) ∧ (cs.getD i undef).oneCell' = true
theorem Rd.mono (h : Rd P t k Q) {Q' : PV → Prop} (hq : ∀ p, Q p → Q' p) : Rd P t k Q' :=
  ⟨h.1, fun enc w fuel cs d ps ht hw => let ⟨h1, pv, h2, h3⟩ := h.2 enc w fuel cs d ps ht hw; ⟨h1, pv, hq _ h2, h3⟩⟩
theorem Rd_bool (hu : P.underlying t = some .bool) (hc : P.cellsOf t = 1) : Rd P t 1 fun p => ∃ b, p = .bool b := by
  refine ⟨hc, fun enc w fuel cs d ps h _ => ?_⟩
  obtain ⟨b, rfl, -⟩ := DataW.trod_bool hu h
  refine ⟨rfl, .bool b, ⟨b, rfl⟩, rfl, fun i hi => ?_⟩
  obtain rfl : i = 0 := by omega
  exact ⟨.bool b, rfl⟩
theorem Rd_int {kd : IntKind} (hu : P.underlying t = some (.int kd)) (hc : P.cellsOf t = 1) : Rd P t 1 fun p => ∃ n, (Lit.int kd n).wf = true ∧ p = .int kd n := by
  refine ⟨hc, fun enc w fuel cs d ps h _ => ?_⟩
  obtain ⟨n, rfl, -, hw⟩ := DataW.trod_int hu h
  refine ⟨rfl, .int kd n, ⟨n, hw, rfl⟩, rfl, fun i hi => ?_⟩
  obtain rfl : i = 0 := by omega
  exact ⟨.int kd n, rfl⟩
theorem Rd_str (hu : P.underlying t = some .string) (hc : P.cellsOf t = 1) : Rd P t 1 fun p => ∃ s : ByteArray, s.size ≤ reachBytes ∧ p = .str s := by
  refine ⟨hc, fun enc w fuel cs d ps h hw => ?_⟩
  obtain ⟨s, rfl, hx, -⟩ := DataW.trod_string hu h
  cases hx
  refine ⟨rfl, .str s, ⟨s, ?_, rfl⟩, rfl, fun i hi => ?_⟩
  · have := hw s.data.toList.length (by simp [DataW.weights])
    simpa using this
  · obtain rfl : i = 0 := by omega
    exact ⟨.str s, rfl⟩
theorem weightsAll_mem {H : Type} {d : DataW H} {n : Nat} : ∀ {l : List (DataW H)}, d ∈ l → n ∈ d.weights P e → n ∈ DataW.weightsAll P e l
  | x :: l, h, hn => by
    simp only [DataW.weightsAll, List.mem_append]
    rcases List.mem_cons.1 h with h | h
    · subst h; exact .inl hn
    · exact .inr (weightsAll_mem h hn)
theorem add_spot {a : Addr} {w : World} {v : Value} (h : w.cell? a = some v) : a = ⟨a.block, a.off, none⟩ := by
  obtain ⟨b, o, s⟩ := a
  cases s with
  | none => rfl
  | some s =>
    simp only [World.cell?] at h
    split at h
    · simp at h
    · cases h
theorem mem_exists {α β : Type} {R : α → Nat → β → Prop} : ∀ (n : Nat) (xs : Nat → α), (∀ i, i < n → ∃ b, R (xs i) i b) → ∃ l : List β, l.length = n ∧ ∀ (i : Nat) (b : β), l[i]? = some b → R (xs i) i b
  | 0, xs, _ => ⟨[], rfl, fun i b h => by simp at h⟩
  | n + 1, xs, h => by
    obtain ⟨l, h1, h2⟩ := mem_exists n xs fun i hi => h i (by omega)
    obtain ⟨b, hb⟩ := h n (by omega)
    refine ⟨l ++ [b], by simp [h1], fun i c hc => ?_⟩
    by_cases hi : i < l.length
    · rw [List.getElem?_append_left hi] at hc; exact h2 i c hc
    · rw [List.getElem?_append_right (by omega)] at hc
      have : i - l.length = 0 := by
        have := (List.getElem?_eq_some_iff.1 hc).1
        simp at this; omega
      have hil : i = n := by omega
      subst hil
      rw [this] at hc; simp at hc; subst hc; exact hb
theorem Rd_slice (hu : P.underlying t = some (.slice e)) (hc : P.cellsOf t = 1) (hk : 0 < k) (he : Rd P e k Q) :
    Rd P t 1 fun p => ∃ es : List PV, (∀ x ∈ es, Q x) ∧ es.length * P.bytesOf e ≤ reachBytes ∧ p = .isl false k es := by
  refine ⟨hc, fun enc w fuel cs d ps h hw => ?_⟩
  rcases DataW.trod_slice hu h with ⟨rfl, hx⟩ | ⟨a, len, cap, elems, rest, n, rfl, rfl, hx, hb, hl, hm, hlen, hel, _, _⟩
  · refine ⟨rfl, .isl false k [], ⟨[], by simp, by simp, rfl⟩, rfl, fun i hi => ?_⟩
    obtain rfl : i = 0 := by omega
    exact ⟨.isl0 _ _ _ _ (by simp), rfl⟩
  · cases hx
    simp only [DataW.weights, hu] at hw
    have hwe : ∀ y ∈ elems, ∀ n ∈ y.1.weights P e, n ≤ reachBytes := fun y hy n hn => hw n (by
      simp only [List.mem_cons, List.mem_append]
      exact .inr (.inl (weightsAll_mem (List.mem_map_of_mem hy) hn)))
    have hlw : len * P.bytesOf e ≤ reachBytes := by
      have := hw _ (List.mem_cons_self ..)
      simp only [List.length_map, hlen] at this
      exact Nat.le_trans (Nat.mul_le_mul_right _ (Nat.le_add_right _ _)) this
    have each : ∀ i, i < len → ∃ p : PV × List Value, Q p.1 ∧ p.1.cells.length = k ∧ w.cells? 0 (a.add (i * k)) k = some p.2 ∧ ∀ j, j < k → Rel w noN noR (p.1.cells.getD j .any) (p.2.getD j undef) ∧ (p.2.getD j undef).oneCell' = true := by
      intro i hi
      have h1 := hel i hi
      have hi' : i < elems.length := by omega
      rw [List.getElem?_eq_getElem hi', he.1] at h1
      cases hcs : w.cells? 0 (a.add (i * k)) k with
      | none => rw [hcs] at h1; cases h1
      | some cs =>
        rw [hcs] at h1
        obtain ⟨_, pv, q1, q2, q3⟩ := he.2 enc w n cs _ _ h1 (hwe _ (List.getElem_mem hi'))
        exact ⟨(pv, cs), q1, q2, rfl, q3⟩
    obtain ⟨l, hll, hle⟩ := mem_exists (R := fun (_ : Unit) i (p : PV × List Value) => Q p.1 ∧ p.1.cells.length = k ∧ w.cells? 0 (a.add (i * k)) k = some p.2 ∧ ∀ j, j < k → Rel w noN noR (p.1.cells.getD j .any) (p.2.getD j undef) ∧ (p.2.getD j undef).oneCell' = true) len (fun _ => ()) each
    refine ⟨rfl, .isl false k (l.map (·.1)), ⟨_, fun x hx => ?_, by rw [List.length_map, hll]; exact hlw, rfl⟩, rfl, fun i hi => ?_⟩
    · obtain ⟨y, hy, rfl⟩ := List.mem_map.1 hx
      obtain ⟨i, hi⟩ := List.getElem?_of_mem hy
      exact (hle i y hi).1
    obtain rfl : i = 0 := by omega
    refine ⟨?_, rfl⟩
    show Rel w noN noR (.isl false k (l.map (·.1))) (.slice (some a) len cap)
    by_cases hl0 : len = 0
    · subst hl0
      have : l = [] := List.eq_nil_of_length_eq_zero hll
      subst this
      exact .isl0 _ _ _ _ (by simp)
    · have hcell : ∀ i j, i < len → j < k → ∀ y, l[i]? = some y → w.cell? ((a.add (i * k)).add j) = some (y.2.getD j undef) := by
        intro i j hi hj y hy
        obtain ⟨_, _, h3, h4⟩ := hle i y hy
        obtain ⟨_, r1, r2⟩ := World.cells?_some h3
        rw [r2 j hj, List.getElem?_eq_getElem (by omega)]
        simp [List.getD, List.getElem?_eq_getElem (show j < y.2.length by omega)]
      have h00 : ∃ y, l[0]? = some y := ⟨l[0]'(by omega), List.getElem?_eq_getElem (by omega)⟩
      obtain ⟨y0, hy0⟩ := h00
      have hc0 := hcell 0 0 (by omega) hk y0 hy0
      have ha : a = ⟨a.block, a.off, none⟩ := add_spot (w := w) (v := y0.2.getD 0 undef) (by simpa [Addr.add] using hc0)
      generalize hB : a.block = B at ha
      generalize hO : a.off = O at ha
      subst ha
      have hadd : ∀ i j, ((⟨B, O, none⟩ : Addr).add (i * k)).add j = ⟨B, O + i * k + j, none⟩ := by
        intro i j
        unfold Addr.add
        by_cases h1 : i * k = 0 <;> by_cases h2 : j = 0 <;> simp [h1, h2]
      have := Rel.isl (w := w) (N := noN) (ρ := noR) false k (l.map (·.1)) B O cap (fun i j => match l[i]? with | some y => y.2.getD j undef | none => undef) (by rw [List.length_map]; omega) (by simp)
        (lt_of_cell (by simpa [Addr.add] using hc0)) (fun h => h) (fun i hi => ?_) (fun i j hi hj => ?_) (fun i j hi hj => ?_) fun i j hi hj => ?_
      · rwa [List.length_map, hll] at this
      all_goals
        have hi' : i < l.length := by simpa using hi
        have hy : l[i]? = some l[i] := List.getElem?_eq_getElem hi'
      · obtain ⟨_, q2, _, _⟩ := hle i _ hy
        simpa [List.getD, hi'] using q2
      · rw [← hadd i j, hcell i j (by omega) hj _ hy]; simp only [hy]
      · simp only [hy]; exact ((hle i _ hy).2.2.2 j hj).2
      · simp only [hy]
        have := ((hle i _ hy).2.2.2 j hj).1
        simpa [List.getD, hi'] using this
/-- the parts of a struct -/
def Parts : List (PV → Prop) → List PV → Prop
  | [], l => l = []
  | Q :: Qs, l => ∃ p l', Q p ∧ Parts Qs l' ∧ l = p.cells ++ l'
def FieldsRd (P : Program) (tot : Nat) : List Field → Nat → List (PV → Prop) → Prop
  | [], o, [] => o = tot
  | f :: fs, o, Q :: Qs => f.offset = o ∧ ∃ k, Rd P f.type k Q ∧ FieldsRd P tot fs (o + k) Qs
  | _, _, _ => False
theorem fields_le {tot : Nat} : ∀ {fs : List Field} {o : Nat} {Qs : List (PV → Prop)}, FieldsRd P tot fs o Qs → o ≤ tot
  | [], o, [], h => Nat.le_of_eq h
  | f :: fs, o, Q :: Qs, ⟨_, k, _, h⟩ => Nat.le_trans (Nat.le_add_right o k) (fields_le h)
theorem fields_read {H : Type} {enc : TypeId × Value → H} {w : World} {n tot : Nat} {cs : List Value} (hcs : cs.length = tot) :
    ∀ {fs : List Field} {o : Nat} {Qs : List (PV → Prop)} {xs : List (DataW H × List MemPlace)}, FieldsRd P tot fs o Qs → xs.length = fs.length →
      (∀ (i : Nat) (f : Field), fs[i]? = some f → DataW.trod enc P w 0 (fun _ => true) true n f.type ((cs.drop f.offset).take (P.cellsOf f.type)) = xs[i]?) →
      (∀ m ∈ DataW.weightsEach P (fs.map (·.type)) (xs.map (·.1)), m ≤ reachBytes) →
      ∃ l, Parts Qs l ∧ l.length = tot - o ∧ ∀ i, i < tot - o → Rel w noN noR (l.getD i .any) (cs.getD (o + i) undef) ∧ (cs.getD (o + i) undef).oneCell' = true
  | [], o, [], _, h, _, _, _ => ⟨[], rfl, by have h : o = tot := h; simp [h], fun i hi => by have h : o = tot := h; omega⟩
  | f :: fs, o, Q :: Qs, [], _, hl, _, _ => by simp at hl
  | f :: fs, o, Q :: Qs, x :: xs, ⟨ho, k, hrd, hrest⟩, hl, ht, hw => by
    have hle := fields_le hrest
    have h0 := ht 0 f rfl
    rw [hrd.1, ho] at h0
    obtain ⟨q1, pv, q2, q3, q4⟩ := hrd.2 enc w n _ x.1 x.2 h0 (fun m hm => hw m (by simp [DataW.weightsEach, hm]))
    obtain ⟨l, r1, r2, r3⟩ := fields_read hcs hrest (by simpa using hl) (fun i g hg => ht (i + 1) g hg) (fun m hm => hw m (by simp [DataW.weightsEach, hm]))
    refine ⟨pv.cells ++ l, ⟨pv, l, q2, r1, rfl⟩, by simp; omega, fun i hi => ?_⟩
    by_cases hik : i < k
    · have := q4 i hik
      rw [getD_append_l _ _ _ (by omega)]
      have e : ((cs.drop o).take k).getD i undef = cs.getD (o + i) undef := by simp [List.getD, List.getElem?_take, hik]
      rwa [e] at this
    · have := r3 (i - k) (by omega)
      rw [getD_append_r _ _ _ (by omega), q3]
      rwa [show o + k + (i - k) = o + i by omega] at this
theorem Rd_struct {fs : Array Field} {Qs : List (PV → Prop)} (hu : P.underlying t = some (.struct fs)) (hc : P.cellsOf t = k) (hf : FieldsRd P k fs.toList 0 Qs) : Rd P t k fun p => ∃ l, Parts Qs l ∧ p = .agg l := by
  refine ⟨hc, fun enc w fuel cs d ps h hw => ?_⟩
  obtain ⟨xs, n, -, hx, hl, hxl, hat⟩ := DataW.trod_struct hu h
  cases hx
  simp only [DataW.weights, hu] at hw
  obtain ⟨l, r1, r2, r3⟩ := fields_read (P := P) (enc := enc) (w := w) (n := n) (hl.trans hc) hf (by simpa using hxl) (fun i f hi => hat i f (by simpa using hi)) hw
  refine ⟨hl.trans hc, .agg l, ⟨l, r1, rfl⟩, by simpa [PV.cells] using r2, fun i hi => ?_⟩
  have := r3 i (by omega)
  simpa [PV.cells] using this
/-- an argument: a struct -/
theorem Rd.struct {Q : List PV → Prop} {fs : Array Field} (h : Rd P t k fun p => ∃ l, Q l ∧ p = .agg l) (hu : P.underlying t = some (.struct fs)) {H : Type} {enc : TypeId × Value → H} {w w0 : World} {b0 : Nat} {v : Value} {d : DataW H} {ps : List MemPlace} (ht : DataW.Trod enc P w 0 (fun _ => true) true t v d ps)
    (hw : ∀ n ∈ d.weights P t, n ≤ reachBytes) (hval : Value.okWide P w0 .any b0 t v) : ∃ l, Q l ∧ Rel w noN noR (.agg l) v := by
  obtain ⟨fuel, h0⟩ := ht
  obtain ⟨h1, pv, ⟨l, h2, rfl⟩, h3, h4⟩ := h.2 enc w fuel _ d ps h0 hw
  refine ⟨l, h2, ?_⟩
  unfold Value.okWide at hval
  rw [hu] at hval
  obtain ⟨cs, rfl, -, -⟩ := hval
  have hl : l.length = k := h3
  have hcs : cs.size = k := by simpa [Value.cells] using h1
  refine .agg l cs (hcs.trans hl.symm) (fun i hi => ?_) fun i hi => ?_
  · have := (h4 i (by omega)).2
    rwa [show (Value.agg cs).cells.toList.getD i undef = cs.getD i undef by rw [agetD]; rfl] at this
  · have := (h4 i (by omega)).1
    rwa [show (Value.agg cs).cells.toList.getD i undef = cs.getD i undef by rw [agetD]; rfl] at this
/-- an argument: a number -/
theorem arg_int {kd : IntKind} (hu : P.underlying t = some (.int kd)) {H : Type} {enc : TypeId × Value → H} {w : World} {b0 : Nat} {v : Value} {d : DataW H} {ps : List MemPlace} (ht : DataW.Trod enc P w 0 (fun _ => true) true t v d ps)
    (hval : Value.okWide P w .any b0 t v) : ∃ n, (Lit.int kd n).wf = true ∧ v = .int kd n := by
  obtain ⟨n, rfl, -, -, hw⟩ := Go.ChangeShapes.open_int (w := w) hu hval ht
  exact ⟨n, hw, rfl⟩
end Hp
end
section
namespace Go.Proofs.YtmeibjhimcgplaaGreatDoor
open Go Hp Hp.T
open Go.ChangeShapes Go.WideShapes Go.ChangeAt Go.RowKit
set_option maxRecDepth 100000
theorem own : ownKnob Tryz.prog.godebug = none := by kernel_rfl
theorem laidOut : laidOutB Tryz.prog = true := by kernel_rfl
def laid3 : List (String × DataW Unit) := [("math/bits.deBruijn32tab", Rows.laid_math_bits_deBruijn32tab), ("math/bits.deBruijn64tab", Rows.laid_math_bits_deBruijn64tab), ("internal/strconv.uint64pow10", Rows.laid_internal_strconv_uint64pow10)]
theorem door_met (os : Os) (args : Array Value) : laidMetH Tryz.prog laid3 ((World.doorLaid Tryz.prog 400 os).forCall (fun _ _ => 0) ⟨#[], args, []⟩).memory :=
  laidMetH_of_parts3 (fuel := 8) (laidMet_of_run' 8 (by kernel_rfl) (by kernel_rfl)) (by kernel_rfl) (by kernel_rfl)
theorem gPow : Tryz.prog.globalNamed "internal/strconv.uint64pow10" = some 0 := by kernel_rfl
def isArr (P : Program) (g : Nat) (k : IntKind) : Bool :=
  match (P.globals[g]?).map (·.type) with
  | some t => match P.underlying t with
    | some (.array n e) => (match P.underlying e with
      | some (.int k') => decide (k' = k)
      | _ => false) && decide (P.cellsOf e = 1) && decide (P.cellsOf t = n)
    | _ => false
  | none => false
theorem isArr_is {P : Program} {g : Nat} {k : IntKind} (h : isArr P g k = true) : ∃ t n e, (P.globals[g]?).map (·.type) = some t ∧ P.underlying t = some (.array n e) ∧ P.underlying e = some (.int k) ∧ P.cellsOf e = 1 ∧ P.cellsOf t = n := by
  unfold isArr at h
  split at h
  · rename_i t ht
    split at h
    · rename_i n e hu
      simp only [Bool.and_eq_true, decide_eq_true_eq] at h
      obtain ⟨⟨h1, h2⟩, h3⟩ := h
      split at h1
      · rename_i k' hk
        obtain rfl := of_decide_eq_true h1
        exact ⟨t, n, e, ht, hu, hk, h2, h3⟩
      · cases h1
    · cases h
  · cases h
theorem powT : ∃ t n e, (Tryz.prog.globals[0]?).map (·.type) = some t ∧ Tryz.prog.underlying t = some (.array n e) ∧ Tryz.prog.underlying e = some (.int .u64) ∧ Tryz.prog.cellsOf e = 1 ∧ Tryz.prog.cellsOf t = n := isArr_is (by kernel_rfl)
theorem powRow {W : World} (h : laidMetH Tryz.prog laid3 W) : ∃ e f, W.heap[0]? = some (.cells (Go.Lib.pow10Tab.map fun z => Value.int .u64 z).toArray e f) := by
  rw [MakeChecks.laidMetH_plain _ _ _ (by kernel_rfl)] at h
  obtain ⟨ps, ⟨g0, t0, cs0, f0, p0, q0, hg0, ht0, hv0, hd0, ⟨g1, t1, cs1, f1, p1, q1, hg1, ht1, hv1, hd1, ⟨g2, t2, cs2, f2, p2, q2, hg2, ht2, hv2, hd2, _, _⟩, _⟩, _⟩, _, _⟩ := h
  obtain rfl := Option.some.inj (gPow.symm.trans hg2)
  have hd : DataW.trod (fun _ => ()) Tryz.prog W 0 (fun _ => true) false f2 t2 cs2.toList = some (Go.Lib.tabData .u64 Go.Lib.pow10Tab, p2) := hd2
  have hc : cs2.toList = Go.Lib.pow10Tab.map fun z => Value.int .u64 z := by
    obtain ⟨t, n, e, h1, h2, h3, h4, h5⟩ := powT
    obtain rfl := Option.some.inj (h1.symm.trans ht2)
    exact Go.Lib.cells_of_tab h2 h3 h4 h5 hd
  unfold World.var? at hv2
  rw [gPow] at hv2
  simp only [Option.bind_some] at hv2
  split at hv2
  · rename_i c e f hw
    cases hv2
    exact ⟨e, f, by rw [hw, ← hc]⟩
  · cases hv2
end Go.Proofs.YtmeibjhimcgplaaGreatDoor
end
section
namespace Go.Proofs.YtmeibjhimcgplaaGreatDoor
open Go Hp Hp.T
open Go.ChangeShapes Go.WideShapes Go.ChangeAt Go.RowKit
set_option maxRecDepth 100000
/-- a law that runs: true, and what was there stays -/
theorem run_law {f : FuncId} {l : List PV} {vs : Array Value} {W : World} (hi : Iso E2 f l (.bool true)) (hr : RelL W noN noR l vs) (hL : laidMetH Tryz.prog laid3 W) :
    Calls Tryz.prog f vs W fun e w' => e = .returned (.bool true) ∧ Outer W w' := by
  obtain ⟨e0, f0, hrow⟩ := powRow hL
  obtain ⟨n, hn⟩ := hi
  obtain ⟨v, h', nx', h1, h2⟩ := hn n (Nat.le_refl n)
  obtain rfl : v = .bool true := by
    unfold reify at h2
    cases v <;> simp only [reifyV] at h2 <;> first | (cases h2; rfl) | (cases h2; done) | skip
    all_goals first
      | (obtain ⟨_, _, h2⟩ := Option.map_eq_some_iff.1 h2; cases h2; done)
      | (simp only [deep, deref] at h2; (repeat' split at h2) <;> first | (cases h2; done) | (obtain ⟨_, _, h2⟩ := Option.map_eq_some_iff.1 h2; cases h2; done))
      | ((repeat' split at h2) <;> cases h2; done)
  let F : Fx [(0, Obj.cells (Go.Lib.pow10Tab.map fun z => Value.int .u64 z).toArray e0 f0)] := ⟨noN, fun _ => False, 0⟩
  have hi : Hp.Inv W F noR .e 0 := {
    obj := fun id x hx => by rw [get_e] at hx; cases hx
    fz := fun id x l hx => by rw [get_e] at hx; cases hx
    inj := fun i j x y l l' hx => by rw [get_e] at hx; cases hx
    idh := fun id x hx => by rw [get_e] at hx; cases hx
    idr := fun id l hl => by simp [noR] at hl
    lo := Nat.le_refl _
    blk := fun id l hl => by simp [noR] at hl
    fF := fun b hb => hb.elim
    disj := fun b hb => absurd hb own_e
    tb := fun x hx => by
      obtain rfl := List.mem_singleton.1 hx
      exact ⟨hrow, own_e⟩ }
  have hNN : NN F .e noR = noN := funext fun b => propext NN_e
  obtain ⟨_, hc⟩ := callN_sim (env2 (e := e0) (f := f0) rfl) n _ _ _ _ _ _ _ h1
  refine (hc W F noR vs hi (fun _ h => h) (hNN ▸ hr : RelL W (NN F .e noR) noR l vs)).mono fun e w' ha => ?_
  obtain ⟨ρ', val, he, hi', hg', hrv⟩ := ha
  cases hrv
  exact ⟨he, hg'.outer⟩
theorem Outer.below {W w' : World} (h : Outer W w') : Below W.heap.size W w' := ⟨h.os, h.tape, h.output, h.size, fun k hk => h.keep k hk own_e⟩
theorem reads_below {H : Type} {enc : TypeId × Value → H} {W W' : World} (hb : Below W.heap.size W W') : ∀ {ts : List TypeId} {vs : List Value} {ds : List (DataW H)} {ps : List MemPlace}, (∀ t ∈ ts, Tryz.prog.readableRec t = true ∧ t < Tryz.prog.types.size) →
    DataW.TrodAll enc Tryz.prog W 0 (fun _ => true) true ts vs ds ps → (∀ x ∈ ps, x.block < W.heap.size) → DataW.TrodAll enc Tryz.prog W' 0 (fun b => decide (b < W.heap.size)) true ts vs ds ps
  | [], [], [], ps, _, h, _ => h
  | t :: ts, v :: vs, d :: ds, ps, ht, ⟨p, q, h1, h2, e⟩, hl => by
    subst e
    have h0 := ht t (by simp)
    exact ⟨p, q, Below.trod laidOut h0.1 h0.2 h1 hb (fun x hx => hl x (by simp [hx])), reads_below hb (fun u hu => ht u (by simp [hu])) h2 (fun x hx => hl x (by simp [hx])), rfl⟩
  | [], _ :: _, _, _, _, h, _ | [], [], _ :: _, _, _, h, _ | _ :: _, [], _, _, _, h, _ | _ :: _, _ :: _, [], _, _, h, _ => h.elim
theorem trods_length {H : Type} {enc : TypeId × Value → H} {W : World} {b : Nat} {sp : Nat → Bool} {hd : Bool} : ∀ {ts : List TypeId} {vs : List Value} {ds : List (DataW H)} {ps : List MemPlace}, DataW.TrodAll enc Tryz.prog W b sp hd ts vs ds ps → ds.length = ts.length
  | [], [], [], _, _ => rfl
  | t :: ts, v :: vs, d :: ds, _, ⟨p, q, _, h2, _⟩ => by simp [trods_length h2]
  | [], _ :: _, _, _, h | [], [], _ :: _, _, h | _ :: _, [], _, _, h | _ :: _, _ :: _, [], _, h => h.elim
/-- what a law must answer: true; and the arguments read as before -/
structure LawSpec (s : ChangeSpec) (ts : List TypeId) : Prop where
  vars : s.vars = []
  plain : ∀ P, s.plain.varTypes P = []
  fn : ∀ (H : Type) (ds : List (DataW H)), ds.length = ts.length → s.fn H ds = { results := [.lit (.bool true)], args := ds }
theorem law_lifted {f : FuncId} {fn : Func} {s : ChangeSpec} {ts : List TypeId} (hfn : Tryz.prog.funcs[f]? = some fn) (hi : Tryz.prog.inits.idxOf? f = none) (hp : fn.params.toList = ts) (hr : fn.resultTypes = #[4]) (hs : LawSpec s ts)
    (ht : ∀ t ∈ ts, Tryz.prog.readableRec t = true ∧ t < Tryz.prog.types.size) (dflt : Array Value) (os : Os) (started : os.Started) (H : Type) (enc : TypeId × Value → H)
    (w1 : (((World.doorLaid Tryz.prog 400 os).forCall (fun _ _ => 0) ⟨#[], dflt, []⟩).Shaped Tryz.prog))
    (w2 : Input.okWideB Tryz.prog ((World.doorLaid Tryz.prog 400 os).forCall (fun _ _ => 0) ⟨#[], dflt, []⟩) f ⟨#[], dflt, []⟩ = true)
    (w3 : s.preB enc Tryz.prog fn [] false ((World.doorLaid Tryz.prog 400 os).forCall (fun _ _ => 0) ⟨#[], dflt, []⟩).memory dflt 8 = true)
    (w4 : s.sizedB enc Tryz.prog fn false ((World.doorLaid Tryz.prog 400 os).forCall (fun _ _ => 0) ⟨#[], dflt, []⟩).memory dflt 8 = true)
    (run : ∀ (W : World) (base : Nat) (args : Array Value) (ds : List (DataW H)) (p : List MemPlace), (∀ (j : Nat) t v, ts[j]? = some t → args.toList[j]? = some v → Value.okWide Tryz.prog W .any base t v) →
      DataW.TrodAll enc Tryz.prog W 0 (fun _ => true) true ts args.toList ds p → (∀ n ∈ DataW.weightsEach Tryz.prog ts ds, n ≤ reachBytes) → ∃ l, RelL W noN noR l args ∧ Iso E2 f l (.bool true)) :
    ReturnsInHanded {} Tryz.checked os f .any (fun w args => (s.pre enc Tryz.prog fn [] false w args ∧ laidMetH Tryz.prog laid3 w) ∧ sizedMet enc Tryz.prog fn (OpenSpec.ofChange s) false w args)
      (s.post enc Tryz.prog fn false true false false) := by
  refine returnsInHanded_of_change_and (C := Tryz.checked) (X := fun w _ => laidMetH Tryz.prog laid3 w) (fun _ _ _ hh h => h.of_heap hh) own started hi hfn
    (ChangeSpec.witness_shaped (enc := enc) (C := Tryz.checked) (os := os) (X := fun w _ => laidMetH Tryz.prog laid3 w) false (World.doorLaid Tryz.prog 400 os) dflt 8 rfl w1 w2 w3 w4 (door_met os _)) ?_
  intro W base args ds gs before hval0 hW _ hsz0 hL _
  have hval : ∀ (j : Nat) t v, fn.params[j]? = some t → args[j]? = some v → Value.okWide Tryz.prog W .any base t v := hval0
  have hsz : (DataW.weightsEach Tryz.prog (fn.params.toList ++ s.plain.varTypes Tryz.prog) (ds ++ gs)).all (· ≤ reachBytes) = true := hsz0
  have hW' := hW
  obtain ⟨p, q, hA0, hV, rfl, hfz, hnd⟩ := hW
  have hA : DataW.TrodAll enc Tryz.prog W 0 (fun _ => true) true ts args.toList ds p := hp ▸ hA0
  rw [hs.vars] at hV
  obtain ⟨rfl, rfl⟩ := trodVars_none hV
  rw [hs.plain, List.append_nil, List.append_nil, hp] at hsz
  have hlen := trods_length hA
  obtain ⟨l, hl, hi⟩ := run W base args ds p (fun j t v h1 h2 => hval j t v (by rw [← hp] at h1; simpa using h1) (by simpa using h2)) hA (fun n hn => by simpa using List.all_eq_true.1 hsz n hn)
  refine (run_law hi hl hL).mono fun e w' h => ?_
  obtain ⟨rfl, ho⟩ := h
  have hb := Outer.below ho
  have hlt : ∀ x ∈ p, x.block < W.heap.size := hA.lt
  refine ⟨_, rfl, ds, [], p ++ [], [], p, [], hW', ?_, ?_, ?_, hb.frame _, fun h => by cases h⟩
  · rw [List.append_nil, hs.fn H ds hlen, hr]
    exact trodAll_mk1 (shut_bool Tryz.underlying4 _)
  · rw [List.append_nil, hs.fn H ds hlen, hp]
    exact reads_below hb ht hA hlt
  · rw [List.append_nil, hs.fn H ds hlen, hs.vars]
    rfl
end Go.Proofs.YtmeibjhimcgplaaGreatDoor
end
