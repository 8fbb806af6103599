/- Common ground: a pure interpreter for the program, and what it computes. -/
import Derived.Test.YtmeibjhimcgplaaGreatDoorHpD
import Derived.Test.YtmeibjhimcgplaaGreatDoorHpB
import Derived.Test.YtmeibjhimcgplaaGreatDoorHpE
import Derived.Test.YtmeibjhimcgplaaGreatDoorProg
import Derived.Recover
import Derived.Tactics
import Derived.Tactics2
import Derived.Laws.Pointers
import Derived.Below
set_option linter.all false
section
namespace Go.Proofs.YtmeibjhimcgplaaGreatDoor
open Go Hp
set_option maxRecDepth 100000
theorem catch_idle (a b c : Value) (w : World) :
    CallsD Tryz.prog 41 #[a, b, c] .returning w fun e u' w' => e = .returned (.tuple #[]) ∧ u' = .returning ∧ w' = w := by
  refine callsD_of_wpS Tryz.func41 rfl fun c₀ cs hu => ?_
  apply wpS_seq
  apply wpS_region
  simp [wpOpsS, go_sem, recoverD, hu, Tryz.ntmps41, Exit.thenS]
  apply wpS_seq
  apply wpS_seq
  apply wpS_region
  simp [wpOpsS, go_sem, recoverD, hu, Tryz.ntmps41, Exit.thenS, Act.put, Act.eval]
  refine wpS_cond (t := true) (by simp [Act.eval, Array.replicate]) ?_
  simp only [if_true]
  refine wpS_of_wp (wp_ret ?_)
  cases c₀
  simp_all [bodyPostS, results, Tryz.results41, Exit.thenS]
theorem gone_is (w : World) : (Instr.typeAssert (.iface 95 (.agg #[])) 20 95 true).run Tryz.prog w = .ok (.tuple #[.agg #[], .bool true]) w := by kernel_rfl
theorem unknown_is (fuel : Int) (w : World) : (Instr.build 44 #[(0, .int .i64 3), (3, .int .i64 fuel)]).run Tryz.prog w = .ok (.agg #[.int .i64 3, .slice none 0 0, .slice none 0 0, .int .i64 fuel]) w := by kernel_rfl
def gonew (b1 o1 b2 o2 : Nat) (fuel : Int) (w : World) : World := (((((w.alloc (.cells #[] 95)).setCell ⟨b1, o1, none⟩ (.int .i64 3)).setCell ⟨b1, o1 + 1, none⟩ (.slice none 0 0)).setCell ⟨b1, o1 + 2, none⟩ (.slice none 0 0)).setCell ⟨b1, o1 + 3, none⟩ (.int .i64 fuel)).setCell ⟨b2, o2, none⟩ (.int .i64 0)
theorem catch_gone (b0 o0 b1 o1 b2 o2 : Nat) (fuel : Int) (x0 x1 x2 x3 x4 : Value) (w : World) (h0 : w.cell? ⟨b0, o0, none⟩ = some (.int .i64 fuel)) (k0 : b0 < w.heap.size) (k1 : b1 < w.heap.size) (k2 : b2 < w.heap.size)
    (c0 : w.cell? ⟨b1, o1, none⟩ = some x0) (c1 : w.cell? ⟨b1, o1 + 1, none⟩ = some x1) (c2 : w.cell? ⟨b1, o1 + 2, none⟩ = some x2) (c3 : w.cell? ⟨b1, o1 + 3, none⟩ = some x3) (c4 : w.cell? ⟨b2, o2, none⟩ = some x4)
    (f0 : w.frozen? ⟨b1, o1, none⟩ = false) (f1 : w.frozen? ⟨b1, o1 + 1, none⟩ = false) (f2 : w.frozen? ⟨b1, o1 + 2, none⟩ = false) (f3 : w.frozen? ⟨b1, o1 + 3, none⟩ = false) (f4 : w.frozen? ⟨b2, o2, none⟩ = false) (h12 : b1 ≠ b2) :
    CallsD Tryz.prog 41 #[.pointer (some ⟨b0, o0, none⟩), .pointer (some ⟨b1, o1, none⟩), .pointer (some ⟨b2, o2, none⟩)] (.panicking [{ v := .iface 95 (.agg #[]), recovered := false }]) w fun e u' w' =>
      e = .returned (.tuple #[]) ∧ u' = .panicking [{ v := .iface 95 (.agg #[]), recovered := true }] ∧ w' = gonew b1 o1 b2 o2 fuel w := by
  refine callsD_of_wpS Tryz.func41 rfl fun c₀ cs hu => ?_
  apply wpS_seq
  apply wpS_region
  simp [wpOpsS, go_sem, recoverD, hu, Tryz.ntmps41, Exit.thenS]
  apply wpS_seq
  apply wpS_seq
  apply wpS_region
  simp [wpOpsS, go_sem, recoverD, hu, Tryz.ntmps41, Exit.thenS, Act.put, Act.eval]
  refine wpS_cond (t := false) (by simp [Act.eval, Array.replicate]) ?_
  simp only [if_false, Bool.false_eq_true]
  refine wpS_of_wp (wp_skip ?_)
  apply wpS_seq
  apply wpS_seq
  apply wpS_region
  simp [wpOpsS, go_sem, recoverD, hu, Tryz.ntmps41, Exit.thenS, Act.put, Act.eval, gone_is]
  apply wpS_seq
  apply wpS_region
  simp [wpOpsS, go_sem, recoverD, hu, Tryz.ntmps41, Exit.thenS, Act.put, Act.eval, gone_is]
  refine wpS_cond (t := false) (by simp [Act.eval, Array.replicate, Act.put]) ?_
  simp only [if_false, Bool.false_eq_true]
  refine wpS_of_wp (wp_skip ?_)
  have fz : ∀ (b j : Nat), b < w.heap.size → (w.alloc (.cells #[] 95)).frozen? ⟨b, j, none⟩ = w.frozen? ⟨b, j, none⟩ := fun b j hb => by simp only [World.frozen?, heap_alloc_lt _ _ hb]
  have f0' := (fz b1 o1 k1).trans f0
  have f1' := (fz b1 (o1 + 1) k1).trans f1
  have f2' := (fz b1 (o1 + 2) k1).trans f2
  have f3' := (fz b1 (o1 + 3) k1).trans f3
  have f4' := (fz b2 o2 k2).trans f4
  have h21 := Ne.symm h12
  apply wpS_region
  simp [wpOpsS, go_sem, recoverD, hu, Tryz.ntmps41, Exit.thenS, Act.put, Act.eval, h0, k0, k1, k2, c0, c1, c2, c3, c4, f0', f1', f2', f3', f4', h12, h21, unknown_is]
  cases c₀
  simp_all [bodyPostS, results, Tryz.results41, gonew]
end Go.Proofs.YtmeibjhimcgplaaGreatDoor
end
section
namespace Go.Proofs.YtmeibjhimcgplaaGreatDoor
open Go Hp Hp.T
set_option maxRecDepth 100000
def seekAnn : Ann := { annG 13 with nt := 31 }
theorem seek_body : ∃ (c0 cb c5 c7 : Code) (i6 : Nat) (o1 o2 : Oper) (ty : Array TypeId), Tryz.f13.body = some (.seq c0 (.seq cb (.seq c5 (.seq (.region i6 #[o1, o2] false) (.seq c7 .ret))))) ∧
    rCode Tryz.prog seekAnn c0 [] [] [] = some seek0 ∧ rCode Tryz.prog seekAnn cb [] [] [] = some seekB ∧ rCode Tryz.prog seekAnn c5 [] [] [] = some seek5 ∧ rCode Tryz.prog seekAnn c7 [] [] [] = some seek7 ∧
    o1.dst = some 28 ∧ o1.guard = none ∧ o1.op = .makeFunc (.func 41) #[] #[.tmp 3, .tmp 4, .tmp 5] ∧ o2.dst = none ∧ o2.guard = none ∧ o2.op = .defer ⟨.value (.tmp 28), #[], ty⟩ ∧
    rRes Tryz.prog Tryz.f13.results.toList = some seekRes :=
  ⟨_, _, _, _, _, _, _, _, rfl, by kernel_rfl, by kernel_rfl, by kernel_rfl, by kernel_rfl, rfl, rfl, rfl, rfl, rfl, rfl, by kernel_rfl⟩
theorem three {l : Array Value} (h : l.size = 3) : ∃ a b c, l = #[a, b, c] := by
  obtain ⟨l⟩ := l
  match l, h with
  | [a, b, c], _ => exact ⟨a, b, c, rfl⟩
variable {τ : Tb} {w w' : World} {N : Nat → Prop} {F : Fx τ} {ρ : Rho} {h : Heap} {nx : Nat}
theorem step_dfr {ops : Array Oper} {Q : Exit → Act → World → Prop} {rest : List Oper} {o : Oper} {a : Act} {d : Deferred} (hg : o.guard = none) (hr : (execOp a.eval o).run Tryz.prog w = .ok (.defer d) w')
    (hk : wpList Tryz.prog ops Q rest ({ a with defers := d :: a.defers }.put o.dst undef) w') : wpList Tryz.prog ops Q (o :: rest) a w := by
  unfold wpList
  have hw : Region.wanted o (yielded ops a.tmps) = true := by simp [Region.wanted, hg]
  rw [hw]
  simp only [if_true]
  refine .inl ?_
  unfold Oper.wp
  rw [hr, Oper.upon_defer]
  exact hk
theorem step_run' {ops : Array Oper} {Q : Exit → Act → World → Prop} {rest : List Oper} {o : Oper} {a : Act} {val : Value} (hg : o.guard = none) (hr : (execOp a.eval o).run Tryz.prog w = .ok (.value val) w')
    (hk : wpList Tryz.prog ops Q rest (a.put o.dst val) w') : wpList Tryz.prog ops Q (o :: rest) a w := by
  unfold wpList
  have hw : Region.wanted o (yielded ops a.tmps) = true := by simp [Region.wanted, hg]
  rw [hw]
  simp only [if_true]
  refine .inl ?_
  unfold Oper.wp
  rw [hr, Oper.upon_value]
  exact hk
theorem gonew_heap {b1 o1 b2 o2 : Nat} {fuel : Int} {w : World} {b : Nat} (hb : b < w.heap.size) (h1 : b ≠ b1) (h2 : b ≠ b2) : (gonew b1 o1 b2 o2 fuel w).heap[b]? = w.heap[b]? := by
  unfold gonew
  rw [RowKit.Below.heap_setCell _ _ _ _ h2, RowKit.Below.heap_setCell _ _ _ _ h1, RowKit.Below.heap_setCell _ _ _ _ h1, RowKit.Below.heap_setCell _ _ _ _ h1, RowKit.Below.heap_setCell _ _ _ _ h1, heap_alloc_lt w _ hb]
theorem gonew_outer {b1 o1 b2 o2 : Nat} {fuel : Int} {w w4 : World} (ho : Outer w w4) (h1 : w.heap.size ≤ b1) (h2 : w.heap.size ≤ b2) : Outer w (gonew b1 o1 b2 o2 fuel w4) := by
  have hk : ∀ b, b < w.heap.size → (gonew b1 o1 b2 o2 fuel w4).heap[b]? = w.heap[b]? := fun b hb => by
    rw [gonew_heap (Nat.lt_of_lt_of_le hb ho.size) (by omega) (by omega)]; exact ho.keep b hb own_e
  have e1 : (gonew b1 o1 b2 o2 fuel w4).os = w4.os := by simp only [gonew, World.setCell, World.alloc]
  have e2 : (gonew b1 o1 b2 o2 fuel w4).tape = w4.tape := by simp only [gonew, World.setCell, World.alloc]
  have e3 : (gonew b1 o1 b2 o2 fuel w4).output = w4.output := by simp only [gonew, World.setCell, World.alloc]
  exact ⟨e1.trans ho.os, e2.trans ho.tape, e3.trans ho.output, by simp only [gonew, World.size_setCell]; exact (Nat.le_trans ho.size (Grow.allocOuter w4 _).size), fun b hb _ => hk b hb, fun b hb => absurd hb own_e, fun id l hl => by simp [noR] at hl,
    fun b c e f hb => ⟨c, f, by rw [hk b (lt_of_heap hb)]; exact hb, rfl⟩⟩
theorem results_gone {tmps : Array Value} {b1 o1 b2 o2 : Nat} {fuel : Int} {w : World} {x0 x1 x2 x3 x4 : Value} (k1 : b1 < w.heap.size) (k2 : b2 < w.heap.size)
    (h4 : tmps.getD 4 undef = .pointer (some ⟨b1, o1, none⟩)) (h5 : tmps.getD 5 undef = .pointer (some ⟨b2, o2, none⟩))
    (c0 : w.cell? ⟨b1, o1, none⟩ = some x0) (c1 : w.cell? ⟨b1, o1 + 1, none⟩ = some x1) (c2 : w.cell? ⟨b1, o1 + 2, none⟩ = some x2) (c3 : w.cell? ⟨b1, o1 + 3, none⟩ = some x3) (c4 : w.cell? ⟨b2, o2, none⟩ = some x4) (h12 : b1 ≠ b2) :
    (results Tryz.f13 tmps).run Tryz.prog (gonew b1 o1 b2 o2 fuel w) = .ok (.tuple #[.agg #[.int .i64 3, .slice none 0 0, .slice none 0 0, .int .i64 fuel], .int .i64 0]) (gonew b1 o1 b2 o2 fuel w) := by
  have h21 := Ne.symm h12
  simp at h4 h5
  simp [results, Tryz.results13, go_sem, h4, h5, gonew, c0, c1, c2, c3, c4, h12, h21, k1, k2]
theorem mptr_one {id ix off : Nat} {va vb : Value} {N : Nat → Prop} (h1 : Rel w N ρ (.mptr id ix off) va) (h2 : Rel w N ρ (.mptr id ix off) vb) : va = vb := by
  cases h1 with
  | mptr _ _ _ l hl =>
    cases h2 with
    | mptr _ _ _ l' hl' => rw [hl] at hl'; cases hl'; rfl
theorem one_cell (hi : Hp.Inv w F ρ h nx) {id sz : Nat} {es : List PV} (hh : harr h id = some (false, sz, es)) (hne : es ≠ []) {va : Value} (hr : Rel w (NN F h ρ) ρ (.mptr id 0 0) va) :
    ∃ b o, va = .pointer (some ⟨b, o, none⟩) ∧ own h ρ b ∧ b < w.heap.size ∧ (∀ j, w.frozen? ⟨b, j, none⟩ = false) ∧ (∃ l, ρ id = some l ∧ l.blk = b) ∧
      ∀ j, j < sz → ∃ v, w.cell? ⟨b, o + j, none⟩ = some v ∧ Rel w (NN F h ρ) ρ ((es.getD 0 .any).cells.getD j .any) v := by
  cases hr with
  | mptr _ _ _ l hl =>
    obtain ⟨l', c, e, h1, h2, h3, h4, h5, h6, h7⟩ := hi.arr hh hne
    rw [hl] at h1; cases h1
    have hl0 : 0 < es.length := by cases es with
      | nil => exact absurd rfl hne
      | cons => simp
    refine ⟨l.blk, l.base, by simp, ⟨id, _, l, harr_some hh, rfl, hl, rfl⟩, lt_of_heap h3, fun j => by simp [World.frozen?, h3], ⟨l, hl, rfl⟩, fun j hj => ?_⟩
    have hlt : l.base + j < c.size := by
      have : 1 * sz ≤ es.length * sz := Nat.mul_le_mul_right sz hl0
      omega
    refine ⟨_, cell_at h3 hlt, ?_⟩
    have := (h7 0 j hl0 hj).1
    simpa using this
/-- the results, read -/
theorem out_fin {F : Fx τ} (hFN : F.blk = N) {ρ : Rho} {s : Hp.S} {a : Act} {r : PV} (hres : rRes Tryz.prog Tryz.f13.results.toList = some seekRes) (hs : St Tryz.prog w' F ρ s a 31) (hg : Outer w w') (hr : seekOut s = some r) :
    ∃ v, (results Tryz.f13 a.tmps).run Tryz.prog w' = .ok v w' ∧ ∃ val, Ending.returned v = .returned val ∧ Outer w w' ∧ Rel w' N noR r val := by
  unfold seekOut at hr
  split at hr
  case h_2 => cases hr
  rename_i l hl
  obtain ⟨x, y, rfl⟩ : ∃ x y, l = [x, y] := by
    simp only [seekRes, resL] at hl
    split at hl
    · rename_i v l' h1 h2
      split at h2
      · rename_i v2 l2 h3 h4
        cases h4; cases h2; cases hl; exact ⟨_, _, rfl⟩
      · cases h2
    · cases hl
  obtain ⟨val, h1, h2⟩ := results_sim (P := Tryz.prog) (fn := Tryz.f13) hs.inv hs.fr hres hl
  refine ⟨val, h1, val, rfl, hg, ?_⟩
  have h2' : Rel w' (NN F s.h ρ) ρ (.tup [x, y]) val := h2
  refine reify_rel hs.inv h2' hr ⟨fun b _ hn hn' => hn (.inl (hFN ▸ hn')), fun id _ x l hx hl hn => ?_⟩
  cases hf : x.fz with
  | true => exact hs.inv.fz id x l hx hf hl (.inl (hFN ▸ hn))
  | false => exact hs.inv.disj l.blk ⟨id, x, l, hx, hf, hl, rfl⟩ (hFN ▸ hn)
theorem seek_calls (hE : EnvOk Tryz.prog τ E0) (n : Nat) {args : List PV} {r : PV} (hx : seekX n args = some r) {vs : Array Value} (hN : ∀ b, N b → b < w.heap.size) (hτ : ∀ x ∈ τ, w.heap[x.1]? = some x.2) (hr : RelL w N noR args vs) :
    Calls Tryz.prog 13 vs w fun e w' => ∃ val, e = .returned val ∧ Outer w w' ∧ Rel w' N noR r val := by
  obtain ⟨c0, cb, c5, c7, i6, o1, o2, ty, hbody, h0, hB, h5, h7, d1, g1, e1, d2, g2, e2, hres⟩ := seek_body
  have hc := callN_sim hE n
  have hd := hE.draw _ hc
  let F : Fx τ := ⟨N, fun _ => False, 0⟩
  have hF : ∀ id, ¬ F.ids id := fun _ h => h
  have hi : Inv w F noR .e 0 := {
    obj := fun id x hx => by rw [get_e] at hx; cases hx
    fz := fun id x l hx => by rw [get_e] at hx; cases hx
    inj := fun i j x y l l' hx => by rw [get_e] at hx; cases hx
    idh := fun id x hx => by rw [get_e] at hx; cases hx
    idr := fun id l hl => by simp [noR] at hl
    lo := Nat.le_refl _
    blk := fun id l hl => by simp [noR] at hl
    fF := hN
    disj := fun b hb => absurd hb own_e
    tb := fun x hx => ⟨hτ x hx, own_e⟩ }
  have hNN : NN F .e noR = N := funext fun b => propext NN_e
  have st := start_st (P := Tryz.prog) (fn := Tryz.f13) hi (hNN ▸ hr : RelL w (NN F .e noR) noR args vs)
  have hnt : Tryz.f13.ntmps = 31 := rfl
  rw [hnt] at st
  refine calls_of_wp_defers Tryz.func13 hbody ?_
  rw [hnt]
  unfold seekX at hx
  split at hx
  case h_2 => cases hx
  rename_i s1 hx0
  refine wp_seq (code_sim hc hE.ext hd hF n c0 seek0 [] [] [] _ _ _ w noR _ _ h0 hx0 st fun e a1 w1 ρ1 q1 st1 gr1 => ?_)
  cases e <;> try exact q1.elim
  show (Code.seq cb _).wp _ _ a1 w1
  split at hx
  case h_3 => cases hx
  · rename_i s2 hxB
    split at hx
    case isFalse => cases hx
    rename_i hdf
    refine wp_seq (code_sim hc hE.ext hd hF n cb seekB [] [] [] _ _ _ w1 ρ1 _ _ hB hxB st1 fun e a2 w2 ρ2 q2 st2 gr2 => ?_)
    cases e <;> try exact q2.elim
    show Leaves Tryz.prog Tryz.f13 a2.tmps _ a2.defers .returning w2
    have hdd := st2.df
    have hde : a2.defers = [] := by
      have : s2.df = [] := by simpa using hdf
      rw [this] at hdd
      cases hq : a2.defers with
      | nil => rfl
      | cons x xs => rw [hq] at hdd; exact hdd.elim
    rw [hde]
    exact out_fin (F := F) rfl hres st2 (gr1.trans gr2).outer hx
  · rename_i s2 hxB
    refine wp_seq (code_sim hc hE.ext hd hF n cb seekB [] [] [] _ _ _ w1 ρ1 _ _ hB hxB st1 fun e a2 w2 ρ2 q2 st2 gr2 => ?_)
    cases e <;> try exact q2.elim
    show (Code.seq c5 _).wp _ _ a2 w2
    split at hx
    case h_2 => cases hx
    rename_i s3 hx5
    split at hx
    case isFalse => cases hx
    rename_i hdf
    refine wp_seq (code_sim hc hE.ext hd hF n c5 seek5 [] [] [] _ _ _ w2 ρ2 _ _ h5 hx5 st2 fun e a3 w3 ρ3 q3 st3 gr3 => ?_)
    cases e <;> try exact q3.elim
    show (Code.seq (.region i6 #[o1, o2] false) _).wp _ _ a3 w3
    have hde : a3.defers = [] := by
      have hdd := st3.df
      have : s3.df = [] := by simpa using hdf
      rw [this] at hdd
      cases hq : a3.defers with
      | nil => rfl
      | cons x xs => rw [hq] at hdd; exact hdd.elim
    have hsz : 31 ≤ a3.tmps.size := st3.nt
    refine wp_seq (wp_region_list (step_run' g1 (val := .func (.func 41) #[] #[a3.eval (.tmp 3), a3.eval (.tmp 4), a3.eval (.tmp 5)]) (w' := w3) (by simp [execOp, e1, Instr.makeFunc]) ?_))
    have he28 : (a3.put o1.dst (.func (.func 41) #[] #[a3.eval (.tmp 3), a3.eval (.tmp 4), a3.eval (.tmp 5)])).eval (.tmp 28) = .func (.func 41) #[] #[a3.eval (.tmp 3), a3.eval (.tmp 4), a3.eval (.tmp 5)] := by
      rw [d1]
      have : 28 < a3.tmps.size := by omega
      simp [Act.eval, Act.put, this]
    refine step_dfr g2 (d := { target := .fn (.func 41) #[a3.eval (.tmp 3), a3.eval (.tmp 4), a3.eval (.tmp 5)], args := #[] }) (w' := w3) (by simp [execOp, e2, resolve, he28, Deferred.ofValue]) ?_
    rw [d2]
    have out3 := (gr1.trans gr2).trans gr3
    refine (fun (key : ∀ am : Act, St Tryz.prog w3 F ρ3 (seekMid s3) am 31 → (Code.seq c7 .ret).wp Tryz.prog (bodyPostD Tryz.prog Tryz.f13 fun e w' => ∃ val, e = Ending.returned val ∧ Outer w w' ∧ Rel w' N noR r val) am w3) => key _ ⟨st3.inv, ?_, ?_, ?_⟩) ?_
    · show FrRel w3 _ ρ3 (Fr.set s3.fr 28 .any) (a3.put o1.dst _).tmps
      rw [d1]
      exact st3.fr.put (by omega) (.any _)
    · show DefsRel _ _ _ _ _ (_ :: (a3.put o1.dst _).defers)
      rw [(put_tmps a3 o1.dst _).1, hde]
      refine ⟨⟨by kernel_rfl, _, rfl, rfl, fun i hi => ?_⟩, trivial⟩
      have hi : i < 3 := hi
      match i, hi with
      | 0, _ => exact st3.fr 3
      | 1, _ => exact st3.fr 4
      | 2, _ => exact st3.fr 5
    · show 31 ≤ (a3.put o1.dst _).tmps.size
      rw [(put_tmps a3 o1.dst _).2]; exact hsz
    intro am stm
    cases hx7 : exec (callN E0 n) E0.ext n seek7 (seekMid s3) with
    | none => rw [hx7] at hx; cases hx
    | some p =>
      obtain ⟨x, s4⟩ := p
      rw [hx7] at hx
      refine wp_seq (code_sim hc hE.ext hd hF n c7 seek7 [] [] [] _ _ _ w3 ρ3 _ _ h7 hx7 stm fun e a4 w4 ρ4 q4 st4 gr4 => ?_)
      have hdr := st4.df
      have out4 := out3.trans gr4
      unfold seekEnd at hx
      split at hx
      · rename_i s hxs; cases hxs
        split at hx
        case h_2 => cases hx
        rename_i f p0 p1 p2 hdf4
        split at hx
        case isFalse => cases hx
        rename_i hf; subst hf
        cases e <;> try exact q4.elim
        refine wp_ret ?_
        show Leaves Tryz.prog Tryz.f13 a4.tmps _ a4.defers .returning w4
        rw [hdf4] at hdr
        generalize a4.defers = dl at hdr
        match dl, hdr with
        | [d], ⟨⟨hcb, cap, htar, hargs⟩, _⟩ =>
          refine ⟨by simp, .func _, cap, _, d.args ++ cap, htar, by rw [htar]; simp only [invoke]; exact run_callFunc hcb _ w4, ?_⟩
          obtain ⟨va, vb, vc, he⟩ := three (hargs.1 : (d.args ++ cap).size = 3)
          rw [he]
          refine (catch_idle va vb vc w4).mono fun e u' w' q => ?_
          obtain ⟨rfl, rfl, rfl⟩ := q
          exact out_fin (F := F) rfl hres st4 out4.outer hx
      · rename_i t s hxs; cases hxs
        split at hx
        case h_2 => cases hx
        rename_i f al hdf4
        split at hx
        case isFalse => cases hx
        rename_i hf; obtain ⟨rfl, rfl⟩ := hf
        cases e <;> try exact q4.elim
        rename_i chain
        show Leaves Tryz.prog Tryz.f13 a4.tmps _ a4.defers (.panicking chain) w4
        obtain ⟨val, rfl, hval⟩ := q4
        obtain ⟨v, rfl, hv⟩ : ∃ v, val = .iface 95 v ∧ Rel w4 _ ρ4 (.agg []) v := by cases hval with
          | ifc _ _ v hv => exact ⟨v, rfl, hv⟩
        obtain rfl : v = .agg #[] := by cases hv with
          | agg _ vs hs _ _ => rw [Array.size_eq_zero_iff.1 hs]
        rw [hdf4] at hdr
        generalize a4.defers = dl at hdr
        match dl, hdr with
        | [d], ⟨⟨hcb, cap, htar, hargs⟩, _⟩ =>
          refine ⟨by simp, .func _, cap, _, d.args ++ cap, htar, by rw [htar]; simp only [invoke]; exact run_callFunc hcb _ w4, ?_⟩
          unfold seekGone at hx
          split at hx
          case h_2 => cases hx
          rename_i i0 i1 i2 j1 j2 f4 f5
          split at hx
          case h_2 => cases hx
          rename_i fuel q0 q1 q2 q3 k5 z5 a0 a1' a2'
          split at hx
          case isFalse => cases hx
          rename_i hc3; obtain ⟨rfl, rfl, hne⟩ := hc3
          cases hx
          obtain ⟨va, vb, vc, he⟩ := three (hargs.1 : (d.args ++ cap).size = 3)
          rw [he] at hargs ⊢
          obtain ⟨b0, o0, rfl, w0, k0, z0, -, e0⟩ := one_cell st4.inv a0 (by simp) (hargs.2 0 (by simp))
          obtain ⟨b1, o1, rfl, w1', k1, z1, ⟨l1, g1', m1⟩, e1'⟩ := one_cell st4.inv a1' (by simp) (hargs.2 1 (by simp))
          obtain ⟨b2, o2, rfl, w2', k2, z2, ⟨l2, g2', m2⟩, e2'⟩ := one_cell st4.inv a2' (by simp) (hargs.2 2 (by simp))
          obtain ⟨v0, c0, r0⟩ := e0 0 (by omega)
          obtain ⟨x0, y0, -⟩ := e1' 0 (by omega)
          obtain ⟨x1, y1, -⟩ := e1' 1 (by omega)
          obtain ⟨x2, y2, -⟩ := e1' 2 (by omega)
          obtain ⟨x3, y3, -⟩ := e1' 3 (by omega)
          obtain ⟨x4, y4, -⟩ := e2' 0 (by omega)
          obtain rfl : v0 = .int .i64 fuel := by
            have r0 : Rel w4 _ ρ4 (.int .i64 fuel) v0 := r0
            cases r0; rfl
          have hb12 : b1 ≠ b2 := by
            intro h
            exact hne (st4.inv.inj _ _ _ _ _ _ (harr_some a1') (harr_some a2') (.inl rfl) g1' g2' (m1.trans (h.trans m2.symm)))
          refine (catch_gone b0 o0 b1 o1 b2 o2 fuel x0 x1 x2 x3 x4 w4 c0 k0 k1 k2 y0 y1 y2 y3 y4 (z1 _) (z1 _) (z1 _) (z1 _) (z2 _) hb12).mono fun e u' w' q => ?_
          obtain ⟨rfl, rfl, rfl⟩ := q
          have t4 := st4.fr 4
          have t5 := st4.fr 5
          rw [f4] at t4
          rw [f5] at t5
          have e4 : a4.tmps.getD 4 undef = .pointer (some ⟨b1, o1, none⟩) := mptr_one t4 (hargs.2 1 (by simp))
          have e5 : a4.tmps.getD 5 undef = .pointer (some ⟨b2, o2, none⟩) := mptr_one t5 (hargs.2 2 (by simp))
          show Leaves Tryz.prog Tryz.f13 a4.tmps _ [] .returning _
          refine ⟨_, results_gone k1 k2 e4 e5 y0 y1 y2 y3 y4 hb12, _, rfl, gonew_outer out4.outer ?_ ?_, ?_⟩
          · exact (out4.own _ w1').resolve_left own_e
          · exact (out4.own _ w2').resolve_left own_e
          · refine .tup _ _ rfl fun i hi => ?_
            have hi : i < 2 := hi
            match i, hi with
            | 0, _ =>
              refine .agg _ _ rfl (fun i hi => ?_) fun i hi => ?_
              · have hi : i < 4 := hi
                match i, hi with
                | 0, _ => rfl
                | 1, _ => rfl
                | 2, _ => rfl
                | 3, _ => rfl
              · have hi : i < 4 := hi
                match i, hi with
                | 0, _ => exact .int ..
                | 1, _ => exact .isl0 _ _ _ _ (fun _ => rfl)
                | 2, _ => exact .isl0 _ _ _ _ (fun _ => rfl)
                | 3, _ => exact .int ..
            | 1, _ => exact .int ..
      · cases hx
end Go.Proofs.YtmeibjhimcgplaaGreatDoor
end
