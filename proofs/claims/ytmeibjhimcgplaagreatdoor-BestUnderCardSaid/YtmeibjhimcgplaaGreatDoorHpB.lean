/- Common ground: a pure interpreter for the program, and what it computes. -/
import Derived.Test.YtmeibjhimcgplaaGreatDoorHpA2
import Derived.Scope
import Derived.LoopN
import Derived.Orders
set_option linter.all false
section
namespace Hp
open Go
variable {P : Program} {τ : Tb} {w w' : World} {F : Fx τ} {ρ : Rho} {h : Heap} {nx : Nat}
def noR : Rho := fun _ => none
theorem get_e (i : Nat) : (Tr.e : Heap).get i = none := rfl
theorem own_e {ρ : Rho} {b : Nat} : ¬ own .e ρ b := fun ⟨_, _, _, h, _⟩ => by rw [get_e] at h; cases h
theorem NN_e {F : Fx τ} {ρ : Rho} {b : Nat} : NN F .e ρ b ↔ F.blk b := ⟨fun h => h.elim id fun h => absurd h own_e, .inl⟩
/-- nothing but new things -/
def Outer (w w' : World) : Prop := Grow w .e noR w' .e noR
theorem Grow.outer {ρ' : Rho} {h' : Heap} (hg : Grow w .e noR w' h' ρ') : Outer w w' :=
  ⟨hg.os, hg.tape, hg.output, hg.size, hg.keep, fun b hb => absurd hb own_e, fun id l hl => by simp [noR] at hl, hg.row⟩
theorem Outer.grow (ho : Outer w w') (h : Heap) (ρ : Rho) : Grow w h ρ w' h ρ :=
  ⟨ho.os, ho.tape, ho.output, ho.size, fun b hb _ => ho.keep b hb own_e, fun b hb => .inl hb, fun _ _ h => h, ho.row⟩
theorem Inv.outer (hi : Inv w F ρ h nx) (ho : Outer w w') : Inv w' F ρ h nx :=
  hi.of_parts (ho.grow h ρ) (fun _ x hx => .inl ⟨x, hx, rfl, rfl, fun l hl => ho.keep l.blk (hi.blk _ l hl) own_e⟩) hi.fz hi.inj hi.idh hi.idr (fun id l hl => Nat.lt_of_lt_of_le (hi.blk id l hl) ho.size) (Nat.le_refl _)
theorem hfrzs_get : ∀ (L : List Nat) (h : Heap) (id : Nat), (hfrzs h L).get id = if id ∈ L then (h.get id).map (fun x => ⟨true, x.o⟩) else h.get id
  | [], h, id => by simp [hfrzs]
  | a :: L, h, id => by
    simp only [hfrzs]
    rw [hfrzs_get L, hfrz_get]
    by_cases ha : id = a
    · subst ha
      simp only [if_true, List.mem_cons, true_or]
      cases h.get id <;> simp
    · simp [ha]
theorem sub_frzs (hi : Inv w F ρ h nx) {L L' : List Nat} (hL : ∀ id ∈ L', id ∈ L) : Sub w F h ρ L' (NN F (hfrzs h L) ρ) := by
  obtain ⟨h1, h2⟩ := hi.frzs L
  refine ⟨fun b hb hn hn' => hn'.elim (fun hf => hn (.inl hf)) fun ho => (h2.own b ho).elim (fun ho => hn (.inr ho)) fun hh => absurd hb (Nat.not_lt.2 hh), fun id hid x l hx hl => ?_⟩
  refine h1.fz id ⟨true, x.o⟩ l ?_ rfl hl
  rw [hfrzs_get, if_pos (hL id hid), hx]; rfl
/-! ### data: nothing that leads into a heap -/
theorem immL_get : ∀ {l : List PV} {i : Nat}, immL l = true → i < l.length → imm (l.getD i .any) = true
  | [], _, _, hi => by simp at hi
  | v :: l, 0, h, _ => by simp [immL] at h; simpa using h.1
  | v :: l, i + 1, h, hi => by simp [immL] at h; have := immL_get h.2 (i := i) (by simpa using hi); simpa [List.getD] using this
theorem noRefsL_get : ∀ {l : List PV} {i : Nat}, noRefsL l = true → i < l.length → noRefs (l.getD i .any) = true
  | [], _, _, hi => by simp at hi
  | v :: l, 0, h, _ => by simp [noRefsL] at h; simpa using h.1
  | v :: l, i + 1, h, hi => by simp [noRefsL] at h; have := noRefsL_get h.2 (i := i) (by simpa using hi); simpa [List.getD] using this
theorem imm_cell {p : PV} {j : Nat} (h : imm p = true) (hj : j < p.cells.length) : imm (p.cells.getD j .any) = true := by
  cases p with
  | agg cs => exact immL_get (l := cs) (by simpa [imm] using h) hj
  | _ => have : j = 0 := by { simp [PV.cells] at hj; exact hj }
         subst this; simpa [PV.cells] using h
theorem Rel.imm {N : Nat → Prop} {ρ ρ' : Rho} {p : PV} {v : Value} (hr : Rel w N ρ p v) : imm p = true → Rel w N ρ' p v := by
  induction hr with
  | any v => intro h; simp [Hp.imm] at h
  | bool b => intro _; exact .bool b
  | int k n => intro _; exact .int k n
  | str s => intro _; exact .str s
  | nilp => intro _; exact .nilp
  | nilf => intro _; exact .nilf
  | nili => intro _; exact .nili
  | nilm => intro _; exact .nilm
  | agg cs vs hs h1 _ ih => intro h; exact .agg cs vs hs h1 fun i hi => ih i hi (immL_get (by simpa [Hp.imm] using h) hi)
  | tup cs vs hs _ ih => intro h; exact .tup cs vs hs fun i hi => ih i hi (immL_get (by simpa [Hp.imm] using h) hi)
  | iptr b o cs g hb hn hc h1 _ ih => intro h; exact .iptr b o cs g hb hn hc h1 fun i hi => ih i hi (immL_get (by simpa [Hp.imm] using h) hi)
  | isl0 full sz a cap hc => intro _; exact .isl0 full sz a cap hc
  | isl full sz es b o cap g h1 h2 hb hn hs hc h3 _ ih =>
    intro h
    refine .isl full sz es b o cap g h1 h2 hb hn hs hc h3 fun i j hi hj => ih i j hi hj (imm_cell (immL_get (by simpa [Hp.imm] using h) hi) (by rw [hs i hi]; exact hj))
  | mptr => intro h; simp [Hp.imm] at h
  | msl0 => intro h; simp [Hp.imm] at h
  | msl => intro h; simp [Hp.imm] at h
  | map => intro h; simp [Hp.imm] at h
  | fn f a b va vb ha hb _ _ iha ihb =>
    intro h; simp [Hp.imm] at h
    exact .fn f a b va vb ha hb (fun i hi => iha i hi (immL_get h.1 hi)) fun i hi => ihb i hi (immL_get h.2 hi)
  | ifc t p v _ ih => intro h; exact .ifc t p v (ih (by simpa [Hp.imm] using h))
theorem Rel.noRefs {N N' : Nat → Prop} {ρ ρ' : Rho} {p : PV} {v : Value} (hr : Rel w N ρ p v) : noRefs p = true → Rel w' N' ρ' p v := by
  induction hr with
  | any v => intro h; simp [Hp.noRefs] at h
  | bool b => intro _; exact .bool b
  | int k n => intro _; exact .int k n
  | str s => intro _; exact .str s
  | nilp => intro _; exact .nilp
  | nilf => intro _; exact .nilf
  | nili => intro _; exact .nili
  | nilm => intro _; exact .nilm
  | agg cs vs hs h1 _ ih => intro h; exact .agg cs vs hs h1 fun i hi => ih i hi (noRefsL_get (by simpa [Hp.noRefs] using h) hi)
  | tup cs vs hs _ ih => intro h; exact .tup cs vs hs fun i hi => ih i hi (noRefsL_get (by simpa [Hp.noRefs] using h) hi)
  | ifc t p v _ ih => intro h; exact .ifc t p v (ih (by simpa [Hp.noRefs] using h))
  | _ => intro h; simp [Hp.noRefs] at h
mutual
theorem leads_imm (f : PV → List Nat) : ∀ p, imm p = true → leads f p = []
  | .any, h | .mptr .., h | .msl .., h | .map _, h => by simp [imm] at h
  | .bool _, _ | .int .., _ | .str _, _ | .nilp, _ | .nilf, _ | .nili, _ | .nilm, _ => rfl
  | .agg cs, h | .tup cs, h | .iptr cs, h => by simp only [leads]; exact leadsL_imm f cs (by simpa [imm] using h)
  | .isl _ _ es, h => by simp only [leads]; exact leadsL_imm f es (by simpa [imm] using h)
  | .fn _ a b, h => by simp [imm] at h; simp only [leads]; rw [leadsL_imm f a h.1, leadsL_imm f b h.2]; rfl
  | .ifc _ v, h => by simp only [leads]; exact leads_imm f v (by simpa [imm] using h)
theorem leadsL_imm (f : PV → List Nat) : ∀ l, immL l = true → leadsL f l = []
  | [], _ => rfl
  | v :: l, h => by simp [immL] at h; simp only [leadsL]; rw [leads_imm f v h.1, leadsL_imm f l h.2]; rfl
end
/-! ### calls -/
/-- how a call ends -/
def After (F : Fx τ) (w : World) (h : Heap) (ρ : Rho) : OpOut → Ending → World → Prop
  | .val v h' nx', e, w' => ∃ (ρ' : Rho) (val : Value), e = .returned val ∧ Inv w' F ρ' h' nx' ∧ Grow w h ρ w' h' ρ' ∧ Rel w' (NN F h' ρ') ρ' v val
  | .pan v h' nx', e, w' => ∃ (ρ' : Rho) (val : Value), e = .panicked [{ v := val, recovered := false }] ∧ Inv w' F ρ' h' nx' ∧ Grow w h ρ w' h' ρ' ∧ Rel w' (NN F h' ρ') ρ' v val
  | .dfr .., _, _ => False
def Out.op (out : Out) (h : Heap) (nx : Nat) : OpOut :=
  match out with
  | .ret v => .val v h nx
  | .pan v => .pan v h nx
/-- what a pure call computes is what the machine comes to -/
def CallSim (P : Program) (τ : Tb) (call : CallF) : Prop :=
  ∀ f args h nx out h' nx', call f args h nx = some (out, h', nx') → callable P f = true ∧
    ∀ (w : World) (F : Fx τ) (ρ : Rho) (vs : Array Value), Inv w F ρ h nx → (∀ id, ¬ F.ids id) → RelL w (NN F h ρ) ρ args vs → Calls P f vs w (After F w h ρ (out.op h' nx'))
theorem RelL.of {N : Nat → Prop} {ps : List PV} {vs : Array Value} (hr : RelL w N ρ ps vs) {ps' : List PV} {N' : Nat → Prop} {ρ' : Rho} (hl : ps'.length = ps.length)
    (h : ∀ i, i < ps.length → ∀ v, Rel w N ρ (ps.getD i .any) v → Rel w N' ρ' (ps'.getD i .any) v) : RelL w N' ρ' ps' vs :=
  ⟨hr.1.trans hl.symm, fun i hi => h i (by omega) _ (hr.2 i (by omega))⟩
/-- arguments read as data -/
theorem reifyL_rel (hi : Inv w F ρ h nx) {args as : List PV} {vs : Array Value} (hr : RelL w (NN F h ρ) ρ args vs) (hd : reifyL (deref h deep) args = some as) :
    RelL w (NN F (hfrzs h (leadL h args)) ρ) noR as vs := by
  obtain ⟨h1, h2⟩ := reifyL_get hd
  exact hr.of h1 fun i hi' v hv => reify_rel hi hv (h2 i hi') (sub_frzs hi fun id hid => leadsL_mem hi' hid)
/-- the things that a callee with a heap of its own must leave alone -/
def Fx.under (F : Fx τ) (h : Heap) (ρ : Rho) (lo : Nat) : Fx τ := ⟨NN F h ρ, fun _ => False, lo⟩
theorem Inv.under (hi : Inv w F ρ h nx) (lo : Nat) : Inv w (F.under h ρ lo) noR .e lo where
  obj id x hx := by rw [get_e] at hx; cases hx
  fz id x l hx := by rw [get_e] at hx; cases hx
  inj i j x y l l' hx := by rw [get_e] at hx; cases hx
  idh id x hx := by rw [get_e] at hx; cases hx
  idr id l hl := by simp [noR] at hl
  lo := Nat.le_refl _
  blk id l hl := by simp [noR] at hl
  fF b hb := hb.elim (hi.fF b) fun ⟨id, x, l, hx, hf, hl, hb⟩ => hb ▸ hi.blk id l hl
  disj b hb := absurd hb own_e
  tb x hx := ⟨(hi.tb x hx).1, own_e⟩
theorem NN_under {lo : Nat} : NN (F.under h ρ lo) .e noR = NN F h ρ := funext fun b => propext NN_e
theorem leadL_imm {args : List PV} (ha : immL args = true) : leadL h args = [] := leadsL_imm _ _ ha
theorem iso_sim {call : CallF} (hc : CallSim P τ call) {f : FuncId} {args : List PV} {r : PV} {b : Bool} (hcall : isoCall call f args h = some (r, b)) {vs : Array Value}
    (hi : Inv w F ρ h nx) (hr : RelL w (NN F h ρ) ρ args vs) : callable P f = true ∧ Calls P f vs w (After F w h ρ (.val r (if b then h else hfrzs h (leadL h args)) nx)) := by
  unfold isoCall at hcall
  split at hcall
  · cases hcall
  rename_i as has
  split at hcall
  case h_2 => cases hcall
  rename_i v h' nx' hv
  split at hcall
  case h_2 => cases hcall
  rename_i r' hre
  simp only [Option.some.injEq, Prod.mk.injEq] at hcall
  obtain ⟨rfl, hb⟩ := hcall
  obtain ⟨g0, g1⟩ := hc _ _ _ _ _ _ _ hv
  refine ⟨g0, ?_⟩
  obtain ⟨hi1, hg1⟩ := hi.frzs (leadL h args)
  have hcs := g1 w (F.under (hfrzs h (leadL h args)) ρ 0) noR vs (hi1.under 0) (fun _ h => h) (by rw [NN_under]; exact reifyL_rel hi hr has)
  refine hcs.mono fun e w' ha => ?_
  obtain ⟨ρ', val, he, hi', hg', hrv⟩ := ha
  have ho := hg'.outer
  have hN : Sub w' (F.under (hfrzs h (leadL h args)) ρ 0) h' ρ' (leads (leadsTo h' deep) v) (NN F (hfrzs h (leadL h args)) ρ) := by
    refine ⟨fun b _ hn hn' => hn (.inl hn'), fun id _ x l hx hl hn => ?_⟩
    cases hf : x.fz with
    | true => exact hi'.fz id x l hx hf hl (.inl hn)
    | false => exact hi'.disj l.blk ⟨id, x, l, hx, hf, hl, rfl⟩ hn
  have hrr : Rel w' (NN F (hfrzs h (leadL h args)) ρ) ρ r' val := reify_rel hi' hrv hre hN
  cases b with
  | false => exact ⟨ρ, val, he, hi1.outer ho, hg1.trans (ho.grow _ _), hrr⟩
  | true =>
    refine ⟨ρ, val, he, hi.outer ho, ho.grow _ _, ?_⟩
    simp only [Bool.or_eq_true] at hb
    rcases hb with hb | hb
    · exact hrr.noRefs hb
    · rw [leadL_imm hb] at hrr; exact hrr
/-- given contracts hold -/
structure ExtOk (P : Program) (τ : Tb) (ext : ExtF) : Prop where
  call : ∀ f x, ext f = some x → callable P f = true
  val : ∀ f g args r, ext f = some (false, g) → g args = some r → ∀ (w : World) (N : Nat → Prop) (vs : Array Value), (∀ b, N b → b < w.heap.size) → (∀ x ∈ τ, w.heap[x.1]? = some x.2) → RelL w N noR args vs →
    Calls P f vs w fun e w' => ∃ val, e = .returned val ∧ Outer w w' ∧ Rel w' N noR r val
  own : ∀ f g args full sz es, ext f = some (true, g) → g args = some (.isl full sz es) → ∀ (w : World) (N : Nat → Prop) (vs : Array Value), (∀ b, N b → b < w.heap.size) → (∀ x ∈ τ, w.heap[x.1]? = some x.2) → RelL w N noR args vs →
    Calls P f vs w fun e w' => Outer w w' ∧ ((es = [] ∧ ∃ a, e = .returned (.slice a 0 0)) ∨
      (es ≠ [] ∧ ∃ (b : Nat) (c : Array Value) (te : TypeId) (cap : Nat), e = .returned (.slice (some ⟨b, 0, none⟩) es.length cap) ∧ w.heap.size ≤ b ∧ w'.heap[b]? = some (.cells c te (0, 0)) ∧
        es.length ≤ cap ∧ cap * sz ≤ c.size ∧ 0 < sz ∧ ERel w' (fun b' => N b' ∨ b' = b) noR sz es c))
theorem NN_lt (hi : Inv w F ρ h nx) {b : Nat} (hb : NN F h ρ b) : b < w.heap.size := hb.elim (hi.fF b) fun ⟨id, _, l, _, _, hl, he⟩ => he ▸ hi.blk id l hl
theorem ext_sim {ext : ExtF} (he : ExtOk P τ ext) {f : FuncId} {args : List PV} {r : PV} {b : Bool} (hcall : extCall ext f args h = some (r, b)) {vs : Array Value}
    (hi : Inv w F ρ h nx) (hr : RelL w (NN F h ρ) ρ args vs) : callable P f = true ∧ Calls P f vs w (After F w h ρ (.val r (if b then h else hfrzs h (leadL h args)) nx)) := by
  unfold extCall at hcall
  split at hcall
  case h_2 => cases hcall
  rename_i g as hg has
  split at hcall
  case h_2 => cases hcall
  rename_i r' hgr
  split at hcall
  case isFalse => cases hcall
  rename_i him
  simp only [Option.some.injEq, Prod.mk.injEq] at hcall
  obtain ⟨rfl, hb⟩ := hcall
  refine ⟨he.call _ _ hg, ?_⟩
  obtain ⟨hi1, hg1⟩ := hi.frzs (leadL h args)
  refine (he.val f g as r' hg hgr w _ vs (fun b hb => NN_lt hi1 hb) (fun x hx => (hi1.tb x hx).1) (reifyL_rel hi hr has)).mono fun e w' ha => ?_
  obtain ⟨val, e1, ho, hrr⟩ := ha
  cases b with
  | false => exact ⟨ρ, val, e1, hi1.outer ho, hg1.trans (ho.grow _ _), hrr.imm him⟩
  | true =>
    refine ⟨ρ, val, e1, hi.outer ho, ho.grow _ _, ?_⟩
    simp only [Bool.or_eq_true] at hb
    rcases hb with h1 | h1
    · exact hrr.noRefs h1
    · rw [leadL_imm h1] at hrr; exact hrr.imm him
end Hp
end
section
namespace Hp
open Go
variable {P : Program} {τ : Tb} {w w' : World} {F : Fx τ} {ρ : Rho} {h : Heap} {nx : Nat}
theorem ERel.imm {N : Nat → Prop} {ρ ρ' : Rho} {sz : Nat} {es : List PV} {c : Array Value} (he : ERel w N ρ sz es c) (hi : immL es = true) : ERel w N ρ' sz es c :=
  ⟨he.1, fun i hi' => ⟨(he.2 i hi').1, fun j hj => ⟨((he.2 i hi').2 j hj).1.imm (imm_cell (immL_get hi hi') (by rw [(he.2 i hi').1]; exact hj)), ((he.2 i hi').2 j hj).2⟩⟩⟩
theorem noRefs_cell {p : PV} {j : Nat} (h : noRefs p = true) (hj : j < p.cells.length) : noRefs (p.cells.getD j .any) = true := by
  cases p with
  | agg cs => exact noRefsL_get (l := cs) (by simpa [noRefs] using h) hj
  | _ => have : j = 0 := by { simp [PV.cells] at hj; exact hj }
         subst this; simpa [PV.cells] using h
theorem ERel.noRefs {N N' : Nat → Prop} {ρ ρ' : Rho} {sz : Nat} {es : List PV} {c : Array Value} (he : ERel w N ρ sz es c) (hi : noRefsL es = true) : ERel w' N' ρ' sz es c :=
  ⟨he.1, fun i hi' => ⟨(he.2 i hi').1, fun j hj => ⟨((he.2 i hi').2 j hj).1.noRefs (noRefs_cell (noRefsL_get hi hi') (by rw [(he.2 i hi').1]; exact hj)), ((he.2 i hi').2 j hj).2⟩⟩⟩
/-- a new block taken over -/
theorem Inv.adopt (hi : Inv w F ρ h nx) (ho : Outer w w') (hV : ¬ F.ids nx) {b : Nat} {c : Array Value} {te : TypeId} (hb : w.heap.size ≤ b) (hc : w'.heap[b]? = some (.cells c te (0, 0))) {sz : Nat} {es : List PV} (hpos : 0 < sz)
    (he : ERel w' (fun b' => NN F h ρ b' ∨ b' = b) ρ sz es c) :
    Inv w' F (updR ρ nx ⟨b, 0, sz⟩) (hset h nx (some (.arr sz es))) (nx + 1) ∧ Grow w h ρ w' (hset h nx (some (.arr sz es))) (updR ρ nx ⟨b, 0, sz⟩) := by
  have hnr : ρ nx = none := by
    cases hc : ρ nx with
    | none => rfl
    | some l => exact absurd (hi.idr nx l hc) (Fx.fresh hV)
  have hown : ∀ b', own (hset h nx (some (.arr sz es))) (updR ρ nx ⟨b, 0, sz⟩) b' → own h ρ b' ∨ b' = b := by
    rintro b' ⟨id, x, l, hx, hf, hl, hb⟩
    by_cases hid : id = nx
    · subst hid; rw [updR_same] at hl; cases hl; exact .inr hb.symm
    · rw [hset_ne _ _ hid] at hx; rw [updR_ne _ _ hid] at hl; exact .inl ⟨id, x, l, hx, hf, hl, hb⟩
  have hb' := lt_of_heap hc
  have hg : Grow w h ρ w' (hset h nx (some (.arr sz es))) (updR ρ nx ⟨b, 0, sz⟩) := by
    refine ⟨ho.os, ho.tape, ho.output, ho.size, fun b hb _ => ho.keep b hb own_e, fun b' hb' => (hown b' hb').imp id fun h => by omega, fun id l hl => ?_, ho.row⟩
    have hne : id ≠ nx := fun he => by subst he; rw [hnr] at hl; cases hl
    rw [updR_ne _ _ hne]; exact hl
  have hgk : Keep w' (fun b' => NN F h ρ b' ∨ b' = b) ρ w' (NN F (hset h nx (some (.arr sz es))) (updR ρ nx ⟨b, 0, sz⟩)) (updR ρ nx ⟨b, 0, sz⟩) :=
    ⟨fun b' hb' _ => ⟨rfl, fun hn => hn.elim (fun hf => hb' (.inl (.inl hf))) fun ho => (hown b' ho).elim (fun ho => hb' (.inl (.inr ho))) fun he => hb' (.inr he)⟩, hg.rho, Nat.le_refl _, fun _ c _ f hc => ⟨c, f, hc, rfl⟩⟩
  refine ⟨hi.of_parts hg ?_ ?_ ?_ ?_ ?_ ?_, hg⟩
  · intro id x hx
    by_cases hid : id = nx
    · subst hid
      rw [hset_same] at hx; cases hx
      refine .inr (.inr ⟨_, c, te, updR_same .., rfl, hc, hpos, by simpa using he.1, fun i hi' => (he.2 i hi').1, fun i j hi' hj => ?_⟩)
      have := (he.2 i hi').2 j hj
      simp only [Nat.zero_add]
      exact ⟨this.1.keep hgk, this.2⟩
    · rw [hset_ne _ _ hid] at hx
      exact .inl ⟨x, hx, rfl, updR_ne _ _ hid, fun l hl => ho.keep l.blk (hi.blk id l hl) own_e⟩
  · intro id x l hx hf hl hn
    by_cases hid : id = nx
    · subst hid; rw [hset_same] at hx; cases hx; cases hf
    · rw [hset_ne _ _ hid] at hx; rw [updR_ne _ _ hid] at hl
      refine hn.elim (fun hF => hi.fz id x l hx hf hl (.inl hF)) fun ho => ?_
      rcases hown _ ho with ho | ho
      · exact hi.fz id x l hx hf hl (.inr ho)
      · have := hi.blk id l hl; omega
  · intro i j x y l l' hx hy hfz hl hl' hb
    by_cases hid : i = nx
    · by_cases hjd : j = nx
      · rw [hid, hjd]
      · subst hid; rw [updR_same] at hl; cases hl; rw [updR_ne _ _ hjd] at hl'
        have := hi.blk j l' hl'; simp at hb; omega
    · rw [updR_ne _ _ hid] at hl
      by_cases hjd : j = nx
      · subst hjd; rw [updR_same] at hl'; cases hl'
        have := hi.blk i l hl; simp at hb; omega
      · rw [updR_ne _ _ hjd] at hl'; rw [hset_ne _ _ hid] at hx; rw [hset_ne _ _ hjd] at hy
        exact hi.inj i j x y l l' hx hy hfz hl hl' hb
  · intro id x hx
    by_cases hid : id = nx
    · subst hid; exact Fx.used_self hi.lo
    · rw [hset_ne _ _ hid] at hx; exact Fx.used_succ (hi.idh id x hx)
  · intro id l hl
    by_cases hid : id = nx
    · subst hid; exact Fx.used_self hi.lo
    · rw [updR_ne _ _ hid] at hl; exact Fx.used_succ (hi.idr id l hl)
  · intro id l hl
    by_cases hid : id = nx
    · subst hid; rw [updR_same] at hl; cases hl; exact hb'
    · rw [updR_ne _ _ hid] at hl; exact Nat.lt_of_lt_of_le (hi.blk id l hl) ho.size
/-- an empty thing that is nowhere -/
theorem Inv.nothing (hi : Inv w F ρ h nx) (hV : ¬ F.ids nx) : Inv w F ρ (hset h nx (some (.arr 0 []))) (nx + 1) ∧ Grow w h ρ w (hset h nx (some (.arr 0 []))) ρ := by
  have hnr : ρ nx = none := by
    cases hc : ρ nx with
    | none => rfl
    | some l => exact absurd (hi.idr nx l hc) (Fx.fresh hV)
  have hget : ∀ id x, (hset h nx (some (.arr 0 []))).get id = some x → (id = nx ∧ x = ⟨false, .arr 0 []⟩) ∨ (id ≠ nx ∧ h.get id = some x) := by
    intro id x hx
    by_cases hid : id = nx
    · subst hid; rw [hset_same] at hx; cases hx; exact .inl ⟨rfl, rfl⟩
    · rw [hset_ne _ _ hid] at hx; exact .inr ⟨hid, hx⟩
  have hown : ∀ b, own (hset h nx (some (.arr 0 []))) ρ b → own h ρ b := by
    rintro b ⟨id, x, l, hx, hf, hl, hb⟩
    rcases hget id x hx with ⟨rfl, _⟩ | ⟨_, h2⟩
    · rw [hnr] at hl; cases hl
    · exact ⟨id, x, l, h2, hf, hl, hb⟩
  have hg : Grow w h ρ w (hset h nx (some (.arr 0 []))) ρ :=
    ⟨rfl, rfl, rfl, Nat.le_refl _, fun _ _ _ => rfl, fun b hb => .inl (hown b hb), fun _ _ h => h, fun _ c _ f h => ⟨c, f, h, rfl⟩⟩
  refine ⟨hi.of_parts hg ?_ ?_ ?_ ?_ ?_ hi.blk, hg⟩
  · intro id x hx
    rcases hget id x hx with ⟨rfl, rfl⟩ | ⟨_, h2⟩
    · exact .inr (.inl ⟨rfl, hnr⟩)
    · exact .inl ⟨x, h2, rfl, rfl, fun _ _ => rfl⟩
  · intro id x l hx hf hl hn
    rcases hget id x hx with ⟨rfl, rfl⟩ | ⟨_, h2⟩
    · cases hf
    · exact hi.fz id x l h2 hf hl (hn.imp (fun h => h) (hown _))
  · intro i j x y l l' hx hy hfz hl hl' hb
    rcases hget i x hx with ⟨rfl, rfl⟩ | ⟨_, h2⟩
    · rw [hnr] at hl; cases hl
    · rcases hget j y hy with ⟨rfl, rfl⟩ | ⟨_, g2⟩
      · rw [hnr] at hl'; cases hl'
      · exact hi.inj i j x y l l' h2 g2 hfz hl hl' hb
  · intro id x hx
    rcases hget id x hx with ⟨rfl, rfl⟩ | ⟨_, h2⟩
    · exact Fx.used_self hi.lo
    · exact Fx.used_succ (hi.idh id x h2)
  · intro id l hl; exact Fx.used_succ (hi.idr id l hl)
theorem own_sim {ext : ExtF} (he : ExtOk P τ ext) {f : FuncId} {args : List PV} {sz : Nat} {es : List PV} (hcall : ownCall ext f args h = some (sz, es)) {vs : Array Value} (hV : ¬ F.ids nx)
    (hi : Inv w F ρ h nx) (hr : RelL w (NN F h ρ) ρ args vs) : callable P f = true ∧ Calls P f vs w (After F w h ρ (.val (.msl nx 0 es.length es.length) (hset h nx (some (.arr sz es))) (nx + 1))) := by
  unfold ownCall at hcall
  split at hcall
  case h_2 => cases hcall
  rename_i g as hg has
  split at hcall
  case h_2 => cases hcall
  rename_i full sz' es' hgr
  split at hcall
  case isFalse => cases hcall
  rename_i hb
  simp only [Option.some.injEq, Prod.mk.injEq] at hcall
  obtain ⟨hsz, rfl⟩ := hcall
  refine ⟨he.call _ _ hg, ?_⟩
  obtain ⟨hi1, hg1⟩ := hi.frzs (leadL h args)
  refine (he.own f g as full sz' es' hg hgr w _ vs (fun b hb => NN_lt hi1 hb) (fun x hx => (hi1.tb x hx).1) (reifyL_rel hi hr has)).mono fun e w' ha => ?_
  obtain ⟨ho, ⟨rfl, a, rfl⟩ | ⟨hne, b, c, te, cap, rfl, k1, k2, k3, k4, k5, k6⟩⟩ := ha
  · simp at hsz; subst hsz
    obtain ⟨q1, q2⟩ := (hi.outer ho).nothing hV
    exact ⟨ρ, .slice a 0 0, rfl, q1, (ho.grow _ _).trans q2, .msl0 ..⟩
  · have hsz : sz' = sz := by simpa [hne] using hsz
    subst hsz
    simp only [Bool.and_eq_true, Bool.or_eq_true] at hb
    have hE : ERel w' (fun b' => NN F h ρ b' ∨ b' = b) ρ sz' es' c := by
      rcases hb.1.2 with h1 | h1
      · exact k6.noRefs h1
      · rw [leadL_imm h1] at k6; exact k6.imm hb.1.1
    obtain ⟨q1, q2⟩ := hi.adopt ho hV k1 k2 k5 hE
    refine ⟨_, .slice (some ⟨b, 0, none⟩) es'.length cap, rfl, q1, q2, ?_⟩
    have := Rel.msl (w := w') (N := NN F (hset h nx (some (.arr sz' es'))) (updR ρ nx ⟨b, 0, sz'⟩)) (ρ := updR ρ nx ⟨b, 0, sz'⟩) nx 0 es'.length es'.length cap ⟨b, 0, sz'⟩ c te (0, 0) (updR_same ..) k3 k3 k2 (by simpa using k4)
    simpa using this
theorem hcopy_get (h' : Heap) : ∀ (k : Nat) (h : Heap) (nx id : Nat), (hcopy h h' nx k).get id = if nx ≤ id ∧ id < nx + k then h'.get id else h.get id
  | 0, h, nx, id => by simp only [hcopy]; rw [if_neg (by omega)]
  | k + 1, h, nx, id => by
    simp only [hcopy]
    rw [hcopy_get h' k]
    by_cases h1 : nx + 1 ≤ id ∧ id < nx + 1 + k
    · rw [if_pos h1, if_pos (by omega)]
    · rw [if_neg h1]
      by_cases h2 : id = nx
      · subst h2; rw [Tr.get_put_same, if_pos (by omega)]
      · rw [Tr.get_put_ne _ _ _ _ h2, if_neg (by omega)]
/-- a call with a heap of its own, its things taken over -/
theorem Inv.join (hi : Inv w F ρ h nx) {nx' : Nat} (hle : nx ≤ nx') (hV : ∀ id, nx ≤ id → id < nx' → ¬ F.ids id) {ρ' : Rho} {h' : Heap} (hi' : Inv w' (F.under h ρ nx) ρ' h' nx') (hg : Grow w .e noR w' h' ρ') :
    Inv w' F (fun id => if nx ≤ id ∧ id < nx' then ρ' id else ρ id) (hcopy h h' nx (nx' - nx)) nx' ∧
    Grow w h ρ w' (hcopy h h' nx (nx' - nx)) (fun id => if nx ≤ id ∧ id < nx' then ρ' id else ρ id) ∧
    ∀ p v, Rel w' (NN (F.under h ρ nx) h' ρ') ρ' p v → Rel w' (NN F (hcopy h h' nx (nx' - nx)) (fun id => if nx ≤ id ∧ id < nx' then ρ' id else ρ id)) (fun id => if nx ≤ id ∧ id < nx' then ρ' id else ρ id) p v := by
  have ho := hg.outer
  have hnew : ∀ id, F.used nx id → ¬ (nx ≤ id ∧ id < nx') := by
    rintro id (h1 | h1) h2
    · exact hV id h2.1 h2.2 h1
    · omega
  have hnew' : ∀ id, (F.under h ρ nx).used nx' id → nx ≤ id ∧ id < nx' := fun id h1 => h1.elim (fun h => h.elim) fun h => h
  have hsum : nx + (nx' - nx) = nx' := by omega
  have hget : ∀ id, (hcopy h h' nx (nx' - nx)).get id = if nx ≤ id ∧ id < nx' then h'.get id else h.get id := by
    intro id; rw [hcopy_get, hsum]
  have hown : ∀ b, own (hcopy h h' nx (nx' - nx)) (fun id => if nx ≤ id ∧ id < nx' then ρ' id else ρ id) b ↔ own h ρ b ∨ own h' ρ' b := by
    intro b
    constructor
    · rintro ⟨id, x, l, hx, hf, hl, hb⟩
      rw [hget] at hx
      by_cases hin : nx ≤ id ∧ id < nx'
      · simp only [hin, if_true, and_self] at hx hl; exact .inr ⟨id, x, l, hx, hf, hl, hb⟩
      · rw [if_neg hin] at hx; simp only [if_neg hin] at hl; exact .inl ⟨id, x, l, hx, hf, hl, hb⟩
    · rintro (⟨id, x, l, hx, hf, hl, hb⟩ | ⟨id, x, l, hx, hf, hl, hb⟩)
      · have hin := hnew id (hi.idh id x hx)
        exact ⟨id, x, l, by rw [hget, if_neg hin]; exact hx, hf, by simp only [if_neg hin]; exact hl, hb⟩
      · have hin := hnew' id (hi'.idh id x hx)
        exact ⟨id, x, l, by rw [hget, if_pos hin]; exact hx, hf, by simp only [if_pos hin]; exact hl, hb⟩
  have hNN : NN F (hcopy h h' nx (nx' - nx)) (fun id => if nx ≤ id ∧ id < nx' then ρ' id else ρ id) = NN (F.under h ρ nx) h' ρ' := by
    funext b
    apply propext
    constructor
    · rintro (h1 | h1)
      · exact .inl (.inl h1)
      · exact ((hown b).1 h1).elim (fun h => .inl (.inr h)) .inr
    · rintro ((h1 | h1) | h1)
      · exact .inl h1
      · exact .inr ((hown b).2 (.inl h1))
      · exact .inr ((hown b).2 (.inr h1))
  have hG : Grow w h ρ w' (hcopy h h' nx (nx' - nx)) (fun id => if nx ≤ id ∧ id < nx' then ρ' id else ρ id) := by
    refine ⟨hg.os, hg.tape, hg.output, hg.size, fun b hb _ => hg.keep b hb own_e, fun b hb => ((hown b).1 hb).imp (fun h => h) fun h => (hg.own b h).elim (fun h => absurd h own_e) fun h => h, fun id l hl => ?_, hg.row⟩
    simp only [if_neg (hnew id (hi.idr id l hl))]; exact hl
  have hK : Keep w' (NN (F.under h ρ nx) h' ρ') ρ' w' (NN F (hcopy h h' nx (nx' - nx)) (fun id => if nx ≤ id ∧ id < nx' then ρ' id else ρ id)) (fun id => if nx ≤ id ∧ id < nx' then ρ' id else ρ id) := by
    refine ⟨fun b hb _ => ⟨rfl, by rw [hNN]; exact hb⟩, fun id l hl => ?_, Nat.le_refl _, fun _ c _ f hc => ⟨c, f, hc, rfl⟩⟩
    simp only [if_pos (hnew' id (hi'.idr id l hl))]; exact hl
  have cross : ∀ {i j : Nat} {x y : HO} {l l' : Loc}, h'.get i = some x → h.get j = some y → x.fz = false ∨ y.fz = false → ρ' i = some l → ρ j = some l' → l.blk = l'.blk → False := by
    intro i j x y l l' hx hy hfz hl hl' hb
    cases hxf : x.fz with
    | false =>
      have h1 := hi.blk j l' hl'
      exact (hg.own l.blk ⟨i, x, l, hx, hxf, hl, rfl⟩).elim own_e fun h => by omega
    | true =>
      have hyf : y.fz = false := hfz.resolve_left (by simp [hxf])
      exact hi'.fz i x l hx hxf hl (.inl (.inr ⟨j, y, l', hy, hyf, hl', hb.symm⟩))
  refine ⟨hi.of_parts hG ?_ ?_ ?_ ?_ ?_ ?_ hle, hG, fun p v hr => hr.keep hK⟩
  · intro id x hx
    rw [hget] at hx
    by_cases hin : nx ≤ id ∧ id < nx'
    · rw [if_pos hin] at hx
      exact .inr ((hi'.obj id x hx).keep hK (by simp only [if_pos hin]) fun _ _ => rfl)
    · rw [if_neg hin] at hx
      exact .inl ⟨x, hx, rfl, by simp only [if_neg hin], fun l hl => ho.keep l.blk (hi.blk id l hl) own_e⟩
  · intro id x l hx hf hl
    rw [hNN]
    rw [hget] at hx
    by_cases hin : nx ≤ id ∧ id < nx'
    · rw [if_pos hin] at hx; simp only [if_pos hin] at hl
      exact hi'.fz id x l hx hf hl
    · rw [if_neg hin] at hx; simp only [if_neg hin] at hl
      rintro (h1 | h1)
      · exact hi.fz id x l hx hf hl h1
      · have := hi.blk id l hl
        exact (hg.own _ h1).elim own_e fun h => by omega
  · intro i j x y l l' hx hy hfz hl hl' hb
    rw [hget] at hx hy
    by_cases hi1 : nx ≤ i ∧ i < nx' <;> by_cases hj1 : nx ≤ j ∧ j < nx'
    · rw [if_pos hi1] at hx; simp only [if_pos hi1] at hl; rw [if_pos hj1] at hy; simp only [if_pos hj1] at hl'
      exact hi'.inj i j x y l l' hx hy hfz hl hl' hb
    · rw [if_pos hi1] at hx; simp only [if_pos hi1] at hl; rw [if_neg hj1] at hy; simp only [if_neg hj1] at hl'
      exact (cross hx hy hfz hl hl' hb).elim
    · rw [if_neg hi1] at hx; simp only [if_neg hi1] at hl; rw [if_pos hj1] at hy; simp only [if_pos hj1] at hl'
      exact (cross hy hx hfz.symm hl' hl hb.symm).elim
    · rw [if_neg hi1] at hx; simp only [if_neg hi1] at hl; rw [if_neg hj1] at hy; simp only [if_neg hj1] at hl'
      exact hi.inj i j x y l l' hx hy hfz hl hl' hb
  · intro id x hx
    rw [hget] at hx
    by_cases hin : nx ≤ id ∧ id < nx'
    · exact .inr ⟨Nat.le_trans hi.lo hin.1, hin.2⟩
    · rw [if_neg hin] at hx; exact (hi.idh id x hx).imp (fun h => h) fun h => ⟨h.1, by omega⟩
  · intro id l hl
    by_cases hin : nx ≤ id ∧ id < nx'
    · exact .inr ⟨Nat.le_trans hi.lo hin.1, hin.2⟩
    · simp only [if_neg hin] at hl; exact (hi.idr id l hl).imp (fun h => h) fun h => ⟨h.1, by omega⟩
  · intro id l hl
    by_cases hin : nx ≤ id ∧ id < nx'
    · simp only [if_pos hin] at hl; exact hi'.blk id l hl
    · simp only [if_neg hin] at hl; exact Nat.lt_of_lt_of_le (hi.blk id l hl) ho.size
end Hp
end
section
namespace Hp
open Go
variable {P : Program} {τ : Tb} {w w' : World} {F : Fx τ} {ρ : Rho} {h : Heap} {nx : Nat} {A : Ann} {fr : Fr} {a : Act} {o : Oper} {op : POp}
def OpOut.top : OpOut → Nat
  | .val _ _ n => n
  | .pan _ _ n => n
  | .dfr .. => 0
/-- numbers that are free for a call -/
def Free (F : Fx τ) (m : Mode) (nx nx' : Nat) : Prop := (∀ id, ¬ F.ids id) ∨ (m ≠ .inl ∧ ∀ id, nx ≤ id → id < nx' → ¬ F.ids id)
theorem callRun_sim {call : CallF} {ext : ExtF} (hc : CallSim P τ call) (he : ExtOk P τ ext) {m : Mode} {f : FuncId} {args : List PV} {out : OpOut} (hcall : callRun call ext m f args h nx = some out) {vs : Array Value}
    (hV : Free F m nx out.top) (hi : Inv w F ρ h nx) (hr : RelL w (NN F h ρ) ρ args vs) : callable P f = true ∧ Calls P f vs w (After F w h ρ out) := by
  unfold callRun at hcall
  cases m with
  | iso =>
    simp only at hcall
    split at hcall
    · rename_i r hr'; cases hcall; exact iso_sim hc hr' hi hr
    · rename_i r hr'; cases hcall; exact iso_sim hc hr' hi hr
    · cases hcall
  | ext =>
    simp only at hcall
    split at hcall
    · rename_i r hr'; cases hcall; exact ext_sim he hr' hi hr
    · rename_i r hr'; cases hcall; exact ext_sim he hr' hi hr
    · cases hcall
  | own =>
    obtain ⟨⟨sz, es⟩, hr', rfl⟩ := optMap hcall
    refine own_sim he hr' ?_ hi hr
    rcases hV with h1 | ⟨_, h1⟩
    · exact h1 nx
    · exact h1 nx (Nat.le_refl _) (Nat.lt_succ_self _)
  | inl =>
    have hV2 : ∀ id, ¬ F.ids id := by
      rcases hV with h1 | ⟨h0, _⟩
      · exact h1
      · exact absurd rfl h0
    simp only at hcall
    split at hcall
    · rename_i v h' nx' hv
      split at hcall
      case isFalse => cases hcall
      cases hcall
      obtain ⟨g0, g1⟩ := hc _ _ _ _ _ _ _ hv
      exact ⟨g0, g1 w F ρ vs hi hV2 hr⟩
    · rename_i v h' nx' hv; cases hcall
      obtain ⟨g0, g1⟩ := hc _ _ _ _ _ _ _ hv
      exact ⟨g0, g1 w F ρ vs hi hV2 hr⟩
    · cases hcall
  | inn =>
    simp only at hcall
    split at hcall
    case isFalse => cases hcall
    rename_i himm
    split at hcall
    case h_2 => cases hcall
    rename_i v h' nx' hv
    split at hcall
    case isFalse => cases hcall
    rename_i hle
    cases hcall
    have hV : ∀ id, nx ≤ id → id < nx' → ¬ F.ids id := by
      rcases hV with h1 | ⟨_, h1⟩
      · exact fun id _ _ => h1 id
      · exact h1
    obtain ⟨g0, g1⟩ := hc _ _ _ _ _ _ _ hv
    refine ⟨g0, ?_⟩
    have hr' : RelL w (NN (F.under h ρ nx) .e noR) noR args vs := by
      rw [NN_under]
      exact hr.of rfl fun i hi' v hv => hv.imm (immL_get himm hi')
    refine (g1 w (F.under h ρ nx) noR vs (hi.under nx) (fun _ h => h) hr').mono fun e w' ha => ?_
    obtain ⟨ρ', val, he', hi', hg', hrv⟩ := ha
    obtain ⟨q1, q2, q3⟩ := hi.join hle hV hi' hg'
    exact ⟨_, val, he', q1, q2, q3 _ _ hrv⟩
def DefRel (P : Program) (w : World) (N : Nat → Prop) (ρ : Rho) (d : FuncId × List PV) (d' : Deferred) : Prop :=
  callable P d.1 = true ∧ ∃ cap, d'.target = .fn (.func d.1) cap ∧ RelL w N ρ d.2 (d'.args ++ cap)
/-- the mode of a call, of any other operation: none that needs all numbers -/
def POp.mode : POp → Mode
  | .call m .. | .callv m .. => m
  | _ => .iso
theorem run_callFunc {f : FuncId} (hc : callable P f = true) (args : Array Value) (w : World) : (callFunc f args).run P w = .ok (.enter f args) w := by
  unfold callable at hc
  cases hf : P.funcs[f]? with
  | none => simp [hf] at hc
  | some fn =>
    simp [hf] at hc
    obtain ⟨h1, h2⟩ := hc
    have h3 : fn.body.isNone = false := by cases hb : fn.body <;> simp_all
    simp [callFunc, hf, h1]
    intro hb; simp [hb] at h2
theorem RelL.append {N : Nat → Prop} {x y : List PV} {va vb : Array Value} (h1 : RelL w N ρ x va) (h2 : RelL w N ρ y vb) : RelL w N ρ (x ++ y) (va ++ vb) := by
  refine ⟨by simp [h1.1, h2.1], fun i hi => ?_⟩
  rw [agetD (va ++ vb), Array.toList_append]
  have hva : va.toList.length = x.length := by simpa using h1.1
  by_cases hl : i < x.length
  · rw [getD_append_l _ _ _ hl, getD_append_l _ _ _ (by omega), ← agetD va]; exact h1.2 i hl
  · rw [getD_append_r _ _ _ (by omega), getD_append_r va.toList _ _ (by omega), ← agetD vb, hva]
    exact h2.2 _ (by simp at hi; omega)
theorem special_ops (hr : rOp P A o = some op) (hs : special op = true) : (∃ x, o.op = .panic x) ∨ (∃ cl f, o.op = .call cl ∧ cl.callee = .value f) ∨ ∃ cl, o.op = .defer cl := by
  unfold rOp at hr
  cases ho : o.op with
  | panic x => exact .inl ⟨x, rfl⟩
  | defer cl => exact .inr (.inr ⟨cl, rfl⟩)
  | call cl =>
    rw [ho] at hr
    simp only at hr
    cases hc : cl.callee with
    | value f => exact .inr (.inl ⟨cl, f, rfl, hc⟩)
    | invoke r n => rw [hc] at hr; cases hr
    | builtin b =>
      rw [hc] at hr
      cases b <;> simp only at hr <;> (try cases hr) <;> (repeat' split at hr) <;> first | (cases hr; done) | (cases hr; simp [special] at hs; done) | (obtain ⟨_, _, rfl⟩ := optMap hr; simp [special] at hs)
  | makeFunc f x y =>
    rw [ho] at hr
    cases f <;> simp only at hr <;> (try cases hr) <;> (repeat' split at hr) <;> first | (cases hr; done) | (cases hr; simp [special] at hs; done)
  | makeMap t r =>
    rw [ho] at hr
    cases r <;> simp only at hr <;> cases hr
    simp [special] at hs
  | _ =>
    rw [ho] at hr
    simp only at hr
    first
      | (cases hr; done)
      | ((repeat' split at hr) <;> first | (cases hr; done) | (cases hr; simp [special] at hs; done) | (obtain ⟨_, _, rfl⟩ := optMap hr; simp [special] at hs))
/-- what an operation does -/
theorem op_sim {call : CallF} {ext : ExtF} (hc : CallSim P τ call) (he : ExtOk P τ ext) (hi : Inv w F ρ h nx) (hf : FrRel w (NN F h ρ) ρ fr a.tmps) (hr : rOp P A o = some op) {out : OpOut}
    (hm : opRun call ext fr h nx op = some out) (hV : Free F op.mode nx out.top) (next : Act → World → Prop) (Q : Exit → Act → World → Prop)
    (hval : ∀ v h' nx', out = .val v h' nx' → ∀ w' ρ' val, Inv w' F ρ' h' nx' → Grow w h ρ w' h' ρ' → Rel w' (NN F h' ρ') ρ' v val → next (a.put o.dst val) w')
    (hpan : ∀ v h' nx', out = .pan v h' nx' → ∀ w' ρ' val, Inv w' F ρ' h' nx' → Grow w h ρ w' h' ρ' → Rel w' (NN F h' ρ') ρ' v val → Q (.panic [{ v := val, recovered := false }]) a w')
    (hdfr : ∀ f args, out = .dfr f args → ∀ d, DefRel P w (NN F h ρ) ρ (f, args) d → next ({ a with defers := d :: a.defers }.put o.dst undef) w) :
    o.wp P a w next Q := by
  have after : ∀ {f : FuncId} {vs : Array Value}, (callable P f = true ∧ Calls P f vs w (After F w h ρ out)) → (execOp a.eval o).run P w = (callFunc f vs).run P w → o.wp P a w next Q := by
    intro f vs ⟨h1, h2⟩ hx
    unfold Oper.wp
    rw [hx, run_callFunc h1, Oper.upon_enter]
    refine h2.mono fun e w' ha => ?_
    cases out with
    | val v h' nx' =>
      obtain ⟨ρ', val, rfl, k1, k2, k3⟩ := ha
      exact hval v h' nx' rfl w' ρ' val k1 k2 k3
    | pan v h' nx' =>
      obtain ⟨ρ', val, rfl, k1, k2, k3⟩ := ha
      exact hpan v h' nx' rfl w' ρ' val k1 k2 k3
    | dfr f args => exact ha.elim
  have mem : special op = false → o.wp P a w next Q := by
    intro hs
    have hm' : ((mop fr h nx op).map fun (v, ups, c) => OpOut.val v (hsets h ups) (nx + c)) = some out := by
      cases op <;> first | exact hm | simp [special] at hs
    obtain ⟨⟨v, ups, c⟩, hmop, hout⟩ := optMap hm'
    simp only at hout; subst hout
    have hmode : op.mode ≠ .inl := by cases op <;> first | (simp [special] at hs; done) | (intro h; cases h)
    have hV' : 0 < c → ¬ F.ids nx := by
      intro h0
      rcases hV with h1 | ⟨_, h1⟩
      · exact h1 nx
      · exact h1 nx (Nat.le_refl _) (by simp only [OpOut.top]; omega)
    obtain ⟨w', ρ', nxt, val, k1, k2, k3, k4, k5⟩ := mop_sim hi hf hr hV' hmop
    unfold Oper.wp
    rw [k1]
    rcases k2 with rfl | ⟨rfl, rfl⟩
    · exact hval _ _ _ rfl w' ρ' val k3 k4 k5
    · exact hval _ _ _ rfl w' ρ' undef k3 k4 k5
  cases hs : special op with
  | false => exact mem hs
  | true =>
    have hr0 := hr
    unfold rOp at hr
    rcases special_ops hr0 hs with ⟨x, ho⟩ | ⟨cl, cf, ho, hcal⟩ | ⟨cl, ho⟩
    · rw [ho] at hr
      obtain ⟨x', hx, rfl⟩ := optMap hr
      simp only [opRun] at hm
      split at hm
      case isFalse => cases hm
      rename_i hif
      cases hm
      have rx := rOpd_rel hx hf
      unfold Oper.wp
      have : ∃ t v, a.eval x = .iface t v := by
        generalize x'.get fr = p at rx hif
        generalize a.eval x = va at rx
        cases rx <;> first | exact ⟨_, _, rfl⟩ | simp [isIfc] at hif
      obtain ⟨t, v, hv⟩ := this
      have hrun : (execOp a.eval o).run P w = .halt (.panic (a.eval x)) w := by
        rw [hv]
        simp [execOp, ho, hv, Instr.panic]
      rw [hrun, Oper.upon_panic]
      exact hpan _ _ _ rfl w ρ _ hi (.refl ..) rx
    · rw [ho] at hr
      simp only [hcal] at hr
      have hex : execOp a.eval o = (do let d ← resolve a.eval cl o.type; invoke d.target d.args) := by unfold execOp; rw [ho]
      split at hr
      · rename_i f hcf
        cases hcf
        split at hr
        case isFalse => cases hr
        obtain ⟨as, has, rfl⟩ := optMap hr
        simp only [opRun] at hm
        obtain ⟨k1, k2⟩ := rOpds_rel has hf
        have hmap : (cl.args.toList.map a.eval).toArray = cl.args.map a.eval := by apply Array.ext'; simp
        rw [hmap] at k1 k2
        refine after (callRun_sim hc he hm hV hi ⟨k1, k2⟩) ?_
        rw [hex]
        simp [resolve, hcal, Act.eval, Deferred.ofValue, invoke]
      · rename_i x hne hcf
        cases hcf
        split at hr
        case h_2 => cases hr
        rename_i x' as hx has
        cases hr
        simp only [opRun] at hm
        split at hm
        case h_2 => cases hm
        rename_i f first cap hfn
        have rx := rOpd_rel hx hf
        rw [hfn] at rx
        generalize hxv : a.eval cf = vx at rx
        cases rx with
        | fn _ _ _ va vb e1 e2 r1 r2 =>
          obtain ⟨k1, k2⟩ := rOpds_rel has hf
          have hmap : (cl.args.toList.map a.eval).toArray = cl.args.map a.eval := by apply Array.ext'; simp
          rw [hmap] at k1 k2
          have hall : RelL w (NN F h ρ) ρ (first ++ as.map (·.get fr) ++ cap) (va ++ cl.args.map a.eval ++ vb) := by
            have := RelL.append (RelL.append ⟨e1, r1⟩ ⟨k1, k2⟩) ⟨e2, r2⟩
            exact this
          refine after (callRun_sim hc he hm hV hi hall) ?_
          rw [hex]
          simp [resolve, hcal, hxv, Deferred.ofValue, invoke]
      all_goals first | (cases hr; done) | (rename_i hh; cases hh; done)
    · rw [ho] at hr
      simp only at hr
      split at hr
      case h_2 => cases hr
      rename_i f hcal
      split at hr
      case isFalse => cases hr
      rename_i hcb
      obtain ⟨as, has, rfl⟩ := optMap hr
      simp only [opRun] at hm
      cases hm
      obtain ⟨k1, k2⟩ := rOpds_rel has hf
      have hmap : (cl.args.toList.map a.eval).toArray = cl.args.map a.eval := by apply Array.ext'; simp
      rw [hmap] at k1 k2
      unfold Oper.wp
      have hrun : (execOp a.eval o).run P w = .ok (.defer { target := .fn (.func f) #[], args := #[] ++ cl.args.map a.eval }) w := by
        simp [execOp, ho, resolve, hcal, Act.eval, Deferred.ofValue]
      rw [hrun, Oper.upon_defer]
      exact hdfr _ _ rfl _ ⟨hcb, #[], rfl, by simpa using ⟨k1, k2⟩⟩
end Hp
end
section
namespace Hp
open Go
variable {P : Program} {τ : Tb} {w w' : World} {F : Fx τ} {ρ ρ' : Rho} {h : Heap} {nx : Nat} {A : Ann} {a : Act} {o : Oper}
theorem FrRel.keep {N N' : Nat → Prop} {fr : Fr} {tmps : Array Value} (hk : Keep w N ρ w' N' ρ') (h : FrRel w N ρ fr tmps) : FrRel w' N' ρ' fr tmps := fun t => (h t).keep hk
theorem DefRel.keep {N N' : Nat → Prop} {d : FuncId × List PV} {d' : Deferred} (hk : Keep w N ρ w' N' ρ') (h : DefRel P w N ρ d d') : DefRel P w' N' ρ' d d' :=
  ⟨h.1, h.2.elim fun cap hc => ⟨cap, hc.1, hc.2.1, fun i hi => (hc.2.2 i hi).keep hk⟩⟩
def DefsRel (P : Program) (w : World) (N : Nat → Prop) (ρ : Rho) : List (FuncId × List PV) → List Deferred → Prop
  | [], [] => True
  | d :: l, d' :: l' => DefRel P w N ρ d d' ∧ DefsRel P w N ρ l l'
  | _, _ => False
theorem DefsRel.keep {N N' : Nat → Prop} (hk : Keep w N ρ w' N' ρ') : ∀ {l : List (FuncId × List PV)} {l' : List Deferred}, DefsRel P w N ρ l l' → DefsRel P w' N' ρ' l l'
  | [], [], _ => trivial
  | _ :: _, _ :: _, h => ⟨h.1.keep hk, h.2.keep hk⟩
  | [], _ :: _, h => h.elim
  | _ :: _, [], h => h.elim
theorem FrRel.put {N : Nat → Prop} {fr : Fr} {tmps : Array Value} (h : FrRel w N ρ fr tmps) {d : Nat} (hd : d < tmps.size) {v : PV} {val : Value} (hv : Rel w N ρ v val) : FrRel w N ρ (Fr.set fr d v) (tmps.setIfInBounds d val) := by
  intro t
  rw [Fr.at_set]
  by_cases ht : t = d
  · subst ht; simp [hd]; exact hv
  · rw [if_neg ht]
    have : (tmps.setIfInBounds d val).getD t undef = tmps.getD t undef := by
      simp [Array.getD_eq_getD_getElem?, Array.getElem?_setIfInBounds_ne (Ne.symm ht)]
    rw [this]; exact h t
structure St (P : Program) (w : World) (F : Fx τ) (ρ : Rho) (s : S) (a : Act) (nt : Nat) : Prop where
  inv : Inv w F ρ s.h s.nx
  fr : FrRel w (NN F s.h ρ) ρ s.fr a.tmps
  df : DefsRel P w (NN F s.h ρ) ρ s.df a.defers
  nt : nt ≤ a.tmps.size
theorem put_tmps (a : Act) (d : Option Tmp) (v : Value) : (a.put d v).defers = a.defers ∧ (a.put d v).tmps.size = a.tmps.size := by
  cases d <;> simp [Act.put]
/-- one more value -/
theorem St.put {s : S} {nt : Nat} (hs : St P w F ρ s a nt) {d : Option Nat} (hd : ∀ t, d = some t → t < nt) {v : PV} {val : Value} {h' : Heap} {nx' : Nat}
    (hi : Inv w' F ρ' h' nx') (hg : Grow w s.h ρ w' h' ρ') (hv : Rel w' (NN F h' ρ') ρ' v val) : St P w' F ρ' { s with fr := Fr.dst s.fr d v, h := h', nx := nx' } (a.put d val) nt := by
  refine ⟨hi, ?_, ?_, ?_⟩
  · cases d with
    | none => exact hs.fr.keep (hg.toKeep F)
    | some t => exact (hs.fr.keep (hg.toKeep F)).put (Nat.lt_of_lt_of_le (hd t rfl) hs.nt) hv
  · rw [(put_tmps a d val).1]; exact hs.df.keep (hg.toKeep F)
  · rw [(put_tmps a d val).2]; exact hs.nt
theorem St.putNil {s : S} {nt : Nat} (hs : St P w F ρ s a nt) {d : Option Nat} (hd : ∀ t, d = some t → t < nt) : St P w F ρ { s with fr := Fr.dst s.fr d (.tup []) } (a.put d undef) nt :=
  hs.put hd hs.inv (.refl ..) (.tup [] #[] rfl (by simp))
theorem rPG_some {all : Array Oper} {g : PG} (h : rPG P A all o = some g) : ∃ op, rOp P A o = some op ∧ g.op = op ∧ g.dst = o.dst ∧ (∀ t, o.dst = some t → t < A.nt) ∧
    ((o.guard = none ∧ g.guard = none) ∨ ∃ j b t, o.guard = some (j, b) ∧ (all[j]?).bind (·.dst) = some t ∧ g.guard = some (t, b)) := by
  unfold rPG at h
  cases hop : rOp P A o with
  | none => simp [hop] at h
  | some op =>
    simp only [hop] at h
    by_cases hd : dstOk A.nt o.dst = false
    · rw [if_pos hd] at h; cases h
    · rw [if_neg hd] at h
      have hd' : ∀ t, o.dst = some t → t < A.nt := by
        intro t ht; rw [ht] at hd; simpa [dstOk] using hd
      cases hg : o.guard with
      | none => simp only [hg] at h; cases h; exact ⟨op, rfl, rfl, rfl, hd', .inl ⟨rfl, rfl⟩⟩
      | some jb =>
        obtain ⟨j, b⟩ := jb
        simp only [hg] at h
        cases ht : (all[j]?).bind (·.dst) with
        | none => simp only [ht] at h; cases h
        | some t => simp only [ht] at h; cases h; exact ⟨op, rfl, rfl, rfl, hd', .inr ⟨j, b, t, rfl, ht, rfl⟩⟩
theorem want_wanted {all : Array Oper} {g : PG} {N : Nat → Prop} {fr : Fr} {tmps : Array Value} (hf : FrRel w N ρ fr tmps)
    (hg : (o.guard = none ∧ g.guard = none) ∨ ∃ j b t, o.guard = some (j, b) ∧ (all[j]?).bind (·.dst) = some t ∧ g.guard = some (t, b)) {c : Bool} (hw : want fr g.guard = some c) :
    Region.wanted o (yielded all tmps) = c := by
  rcases hg with ⟨h1, h2⟩ | ⟨j, b, t, h1, h2, h3⟩
  · rw [h2] at hw; simp [want] at hw; subst hw; simp [Region.wanted, h1]
  · rw [h3] at hw
    simp only [want] at hw
    have ht := hf t
    have hy : yielded all tmps j = match tmps[t]? with | some (.bool b) => some b | _ => none := by
      unfold yielded; rw [h2]; rfl
    simp only [Region.wanted, h1, hy]
    split at hw
    · rename_i c' hc'
      rw [hc'] at ht
      generalize hv : tmps.getD t undef = v at ht
      cases ht
      cases hw
      have hq : tmps[t]? = some (.bool c') := by
        rw [Array.getD_eq_getD_getElem?] at hv
        cases hx : tmps[t]? with
        | none => rw [hx] at hv; simp [undef] at hv
        | some y => rw [hx] at hv; simp at hv; rw [hv]
      rw [hq]; cases c' <;> cases b <;> rfl
    · rename_i hc'
      rw [hc'] at ht
      generalize hv : tmps.getD t undef = v at ht
      cases ht with
      | tup _ vs hs =>
        cases hw
        have hq : ∀ c', tmps[t]? ≠ some (.bool c') := by
          intro c' hx
          rw [Array.getD_eq_getD_getElem?, hx] at hv; simp at hv
        split
        · rename_i c' hx; exact absurd hx (hq c')
        · rfl
    · cases hw
/-- how a text ends, and the code -/
def PExit.is (w : World) (N : Nat → Prop) (ρ : Rho) : PExit → Exit → Prop
  | .normal, .normal => True
  | .exit id, .exit id' => id = id'
  | .ret, .ret => True
  | .pan v, .panic ch => ∃ val, ch = [{ v := val, recovered := false }] ∧ Rel w N ρ v val
  | _, _ => False
theorem ops_sim {call : CallF} {ext : ExtF} (hc : CallSim P τ call) (he : ExtOk P τ ext) (hF : ∀ id, ¬ F.ids id) {all : Array Oper} {Q : Exit → Act → World → Prop} :
    ∀ (ol : List Oper) (l : List PG) (s : S) (x : PExit) (s' : S) (w : World) (ρ : Rho) (a : Act), rOps P A all ol = some l → ops call ext l s = some (x, s') → St P w F ρ s a A.nt →
    (∀ e a' w' ρ', x.is w' (NN F s'.h ρ') ρ' e → St P w' F ρ' s' a' A.nt → Grow w s.h ρ w' s'.h ρ' → Q e a' w') → wpList P all Q ol a w := by
  intro ol
  induction ol with
  | nil =>
    intro l s x s' w ρ a hr hx hs hQ
    simp [rOps] at hr; subst hr
    simp only [ops, Option.some.injEq, Prod.mk.injEq] at hx
    obtain ⟨rfl, rfl⟩ := hx
    exact hQ .normal a w ρ trivial hs (.refl ..)
  | cons o ol ih =>
    intro l s x s' w ρ a hr hx hs hQ
    simp only [rOps] at hr
    split at hr
    case h_2 => cases hr
    rename_i g l' hg hl'
    cases hr
    obtain ⟨op, h1, h2, h3, h4, h5⟩ := rPG_some hg
    simp only [ops] at hx
    unfold wpList
    split at hx
    · cases hx
    · rename_i hw
      rw [want_wanted hs.fr h5 hw]
      simp only [Bool.false_eq_true, if_false]
      refine ih l' _ x s' w ρ _ hl' hx ?_ hQ
      rw [h3]; exact hs.putNil h4
    · rename_i hw
      rw [want_wanted hs.fr h5 hw]
      simp only [if_true]
      rw [h2] at hx
      refine .inl ?_
      split at hx
      · cases hx
      · rename_i v h' nx' hop
        refine op_sim hc he hs.inv hs.fr h1 hop (.inl hF) _ Q (fun v1 h1 n1 e1 w1 ρ1 val k1 k2 k3 => ?_) (fun v1 h1 n1 e1 => by cases e1) (fun f as e1 => by cases e1)
        cases e1
        have := hs.put h4 k1 k2 k3
        refine ih l' _ x s' w1 ρ1 _ hl' hx (by rw [h3]; exact this) fun e a' w' ρ' q1 q2 q3 => hQ e a' w' ρ' q1 q2 (k2.trans q3)
      · rename_i v h' nx' hop
        cases hx
        refine op_sim hc he hs.inv hs.fr h1 hop (.inl hF) _ Q (fun v1 h1 n1 e1 => by cases e1) (fun v1 h1 n1 e1 w1 ρ1 val k1 k2 k3 => ?_) (fun f as e1 => by cases e1)
        cases e1
        exact hQ _ a w1 ρ1 ⟨val, rfl, k3⟩ ⟨k1, hs.fr.keep (k2.toKeep F), hs.df.keep (k2.toKeep F), hs.nt⟩ k2
      · rename_i f as hop
        refine op_sim hc he hs.inv hs.fr h1 hop (.inl hF) _ Q (fun v1 h1 n1 e1 => by cases e1) (fun v1 h1 n1 e1 => by cases e1) (fun f1 as1 e1 d hd => ?_)
        cases e1
        refine ih l' _ x s' w ρ _ hl' hx ?_ hQ
        rw [h3]
        exact St.putNil (a := { a with defers := d :: a.defers }) (s := { s with df := (f, as) :: s.df }) ⟨hs.inv, hs.fr, ⟨hd, hs.df⟩, hs.nt⟩ h4
end Hp
end
section
namespace Hp
open Go
variable {P : Program} {τ : Tb} {w w' : World} {F : Fx τ} {ρ ρ' : Rho} {h : Heap} {nx : Nat} {A : Ann} {a : Act} {o : Oper}
/-- regions that draw their order -/
def DrawSim (P : Program) (τ : Tb) (call : CallF) (ext : ExtF) : Prop :=
  ∀ (A : Ann) (id : Nat) (all : Array Oper) (l : List PG) (s : S) (fr' : Fr) (h' : Heap) (nx' : Nat) (ts : List Touch) (w : World) (F : Fx τ) (ρ : Rho) (a : Act) (Q : Exit → Act → World → Prop),
    rOps P A all all.toList = some l → (drawOk all && pairsOk (Region.before all) l) = true → drawn call ext l s.fr s.h s.nx = some (fr', h', nx', ts) → apart ts (unordered (Region.before all) (l.map (·.op))) = true →
    St P w F ρ s a A.nt → (∀ id, ¬ F.ids id) → (∀ a' w' ρ', St P w' F ρ' { s with fr := fr', h := h', nx := nx' } a' A.nt → Grow w s.h ρ w' h' ρ' → Q .normal a' w') → (Code.region id all true).wp P Q a w
theorem forget_at (live : List Nat) (fr : Fr) (t : Nat) : Fr.at (forget live fr) t = Fr.at fr t ∨ Fr.at (forget live fr) t = .any := by
  have : ∀ (l : List Nat) (fr0 : Fr), (∀ t, Fr.at fr0 t = Fr.at fr t ∨ Fr.at fr0 t = .any) →
      ∀ t, Fr.at ((l.map fun t => (t, Fr.at fr t)).foldl (fun fr (d, v) => Fr.set fr d v) fr0) t = Fr.at fr t ∨ Fr.at ((l.map fun t => (t, Fr.at fr t)).foldl (fun fr (d, v) => Fr.set fr d v) fr0) t = .any := by
    intro l
    induction l with
    | nil => intro fr0 h t; exact h t
    | cons d l ih =>
      intro fr0 h t
      simp only [List.map_cons, List.foldl_cons]
      refine ih _ (fun t => ?_) t
      rw [Fr.at_set]
      by_cases ht : t = d
      · rw [if_pos ht, ht]; exact .inl rfl
      · rw [if_neg ht]; exact h t
  exact this live .e (fun t => .inr (Fr.at_e t)) t
theorem FrRel.forget {N : Nat → Prop} {fr : Fr} {tmps : Array Value} (h : FrRel w N ρ fr tmps) (live : List Nat) : FrRel w N ρ (forget live fr) tmps := by
  intro t
  rcases forget_at live fr t with e | e
  · rw [e]; exact h t
  · rw [e]; exact .any _
theorem PExit.is_goto {N : Nat → Prop} {x : PExit} {l : Nat} (h : x.is w N ρ (.goto l)) : False := by cases x <;> exact h
theorem code_sim {call : CallF} {ext : ExtF} (hc : CallSim P τ call) (he : ExtOk P τ ext) (hd : DrawSim P τ call ext) (hF : ∀ id, ¬ F.ids id) (n : Nat) :
    ∀ (c : Code) (pc : PC) (out : List Nat) (env : List (Nat × List Nat)) (rt : List Nat) (s : S) (x : PExit) (s' : S) (w : World) (ρ : Rho) (a : Act) (Q : Exit → Act → World → Prop),
    rCode P A c out env rt = some pc → exec call ext n pc s = some (x, s') → St P w F ρ s a A.nt →
    (∀ e a' w' ρ', x.is w' (NN F s'.h ρ') ρ' e → St P w' F ρ' s' a' A.nt → Grow w s.h ρ w' s'.h ρ' → Q e a' w') → c.wp P Q a w := by
  intro c
  induction c with
  | skip =>
    intro pc out env rt s x s' w ρ a Q hr hx hs hQ
    simp only [rCode] at hr; cases hr
    simp only [exec, Option.some.injEq, Prod.mk.injEq] at hx; obtain ⟨rfl, rfl⟩ := hx
    exact wp_skip (hQ .normal a w ρ trivial hs (.refl ..))
  | label l =>
    intro pc out env rt s x s' w ρ a Q hr hx hs hQ
    simp only [rCode] at hr; cases hr
    simp only [exec, Option.some.injEq, Prod.mk.injEq] at hx; obtain ⟨rfl, rfl⟩ := hx
    exact wp_label (hQ .normal a w ρ trivial hs (.refl ..))
  | exit id =>
    intro pc out env rt s x s' w ρ a Q hr hx hs hQ
    simp only [rCode] at hr; cases hr
    simp only [exec, Option.some.injEq, Prod.mk.injEq] at hx; obtain ⟨rfl, rfl⟩ := hx
    exact wp_exit (hQ (.exit id) a w ρ rfl hs (.refl ..))
  | ret =>
    intro pc out env rt s x s' w ρ a Q hr hx hs hQ
    simp only [rCode] at hr; cases hr
    simp only [exec, Option.some.injEq, Prod.mk.injEq] at hx; obtain ⟨rfl, rfl⟩ := hx
    exact wp_ret (hQ .ret a w ρ trivial hs (.refl ..))
  | region id all d =>
    intro pc out env rt s x s' w ρ a Q hr hx hs hQ
    simp only [rCode] at hr
    split at hr
    · cases hr
    rename_i l hl
    cases d with
    | false =>
      simp only [Bool.false_eq_true, if_false] at hr
      cases hr
      simp only [exec] at hx
      exact wp_region_list (ops_sim hc he hF _ l s x s' w ρ a hl hx hs hQ)
    | true =>
      simp only [if_true] at hr
      split at hr
      case isFalse => cases hr
      rename_i hdo
      cases hr
      simp only [exec] at hx
      split at hx
      case h_2 => cases hx
      rename_i fr' h' nx' ts hdr
      split at hx
      case isFalse => cases hx
      rename_i hap
      simp only [Option.some.injEq, Prod.mk.injEq] at hx; obtain ⟨rfl, rfl⟩ := hx
      exact hd A id all l s fr' h' nx' ts w F ρ a Q hl hdo hdr hap hs hF fun a' w' ρ' q1 q2 => hQ .normal a' w' ρ' trivial q1 q2
  | seq c1 c2 ih1 ih2 =>
    intro pc out env rt s x s' w ρ a Q hr hx hs hQ
    simp only [rCode] at hr
    split at hr
    case h_2 => cases hr
    rename_i p1 p2 h1 h2
    cases hr
    simp only [exec] at hx
    apply wp_seq
    split at hx
    · rename_i s1 hx1
      refine ih1 p1 _ env rt s .normal s1 w ρ a _ h1 hx1 hs fun e a' w' ρ' q1 q2 q3 => ?_
      cases e <;> try exact q1.elim
      exact ih2 p2 out env rt s1 x s' w' ρ' a' Q h2 hx q2 fun e a'' w'' ρ'' r1 r2 r3 => hQ e a'' w'' ρ'' r1 r2 (q3.trans r3)
    · rename_i hne
      refine ih1 p1 _ env rt s x s' w ρ a _ h1 hx hs fun e a' w' ρ' q1 q2 q3 => ?_
      cases e with
      | normal => cases x <;> first | (exact (hne _ hx).elim) | exact q1.elim
      | _ => exact hQ _ a' w' ρ' q1 q2 q3
  | cond c c1 c2 ih1 ih2 =>
    intro pc out env rt s x s' w ρ a Q hr hx hs hQ
    simp only [rCode] at hr
    split at hr
    case h_2 => cases hr
    rename_i c' p1 p2 hc' h1 h2
    cases hr
    simp only [exec] at hx
    split at hx
    case h_2 => cases hx
    rename_i t ht
    have rc := rOpd_rel hc' hs.fr
    rw [ht] at rc
    generalize hv : a.eval c = vc at rc
    cases rc
    refine wp_cond hv ?_
    cases t with
    | true => exact ih1 p1 out env rt s x s' w ρ a Q h1 (by simpa using hx) hs hQ
    | false => exact ih2 p2 out env rt s x s' w ρ a Q h2 (by simpa using hx) hs hQ
  | block id c ih =>
    intro pc out env rt s x s' w ρ a Q hr hx hs hQ
    simp only [rCode] at hr
    obtain ⟨p, hp, rfl⟩ := optMap hr
    simp only [exec] at hx
    apply wp_block
    split at hx
    · rename_i id' s1 hx1
      refine ih p _ _ rt s (.exit id') s1 w ρ a _ hp hx1 hs fun e a' w' ρ' q1 q2 q3 => ?_
      cases e <;> try exact q1.elim
      have q1 : id' = _ := q1
      subst q1
      by_cases hid : id' = id
      · simp only [Exit.inBlock, hid, if_true]
        rw [if_pos hid] at hx
        simp only [Option.some.injEq, Prod.mk.injEq] at hx; obtain ⟨rfl, rfl⟩ := hx
        exact hQ .normal a' w' ρ' trivial q2 q3
      · simp only [Exit.inBlock, hid, if_false]
        rw [if_neg hid] at hx
        simp only [Option.some.injEq, Prod.mk.injEq] at hx; obtain ⟨rfl, rfl⟩ := hx
        exact hQ (.exit id') a' w' ρ' rfl q2 q3
    · rename_i hne
      refine ih p _ _ rt s x s' w ρ a _ hp hx hs fun e a' w' ρ' q1 q2 q3 => ?_
      cases e with
      | exit id' => cases x <;> first | (exact (hne _ _ hx).elim) | exact q1.elim
      | _ => exact hQ _ a' w' ρ' q1 q2 q3
  | loop c ih =>
    intro pc out env rt s x s' w ρ a Q hr hx hs hQ
    simp only [rCode] at hr
    obtain ⟨p, hp, rfl⟩ := optMap hr
    simp only [exec] at hx
    have key : ∀ (k : Nat) (s : S) (w : World) (ρ : Rho) (a : Act), iter (exec call ext n p) (lv c [] env rt) k s = some (x, s') → St P w F ρ s a A.nt →
        (∀ e a' w' ρ', x.is w' (NN F s'.h ρ') ρ' e → St P w' F ρ' s' a' A.nt → Grow w s.h ρ w' s'.h ρ' → Q e a' w') → Code.rounds P c Q k a w := by
      intro k
      induction k with
      | zero => intro s w ρ a hx; simp [iter] at hx
      | succ k ihk =>
        intro s w ρ a hx hs hQ
        simp only [iter] at hx
        have hs2 : St P w F ρ { s with fr := forget (lv c [] env rt) s.fr } a A.nt := ⟨hs.inv, hs.fr.forget _, hs.df, hs.nt⟩
        rw [rounds_succ]
        split at hx
        · rename_i s1 hx1
          refine ih p _ env rt _ .normal s1 w ρ a _ hp hx1 hs2 fun e a' w' ρ' q1 q2 q3 => ?_
          cases e <;> try exact q1.elim
          exact ihk s1 w' ρ' a' hx q2 fun e a'' w'' ρ'' r1 r2 r3 => hQ e a'' w'' ρ'' r1 r2 (q3.trans r3)
        · rename_i hne
          refine ih p _ env rt _ x s' w ρ a _ hp hx hs2 fun e a' w' ρ' q1 q2 q3 => ?_
          cases e with
          | normal => cases x <;> first | (exact (hne _ hx).elim) | exact q1.elim
          | _ => exact hQ _ a' w' ρ' q1 q2 q3
    exact wp_loop_rounds n (key n s w ρ a hx hs hQ)
  | scope c ih =>
    intro pc out env rt s x s' w ρ a Q hr hx hs hQ
    simp only [rCode] at hr
    apply wp_scope_straight
    refine ih pc out env rt s x s' w ρ a _ hr hx hs fun e a' w' ρ' q1 q2 q3 => ?_
    cases e with
    | goto l => exact (PExit.is_goto q1).elim
    | _ => exact hQ _ a' w' ρ' q1 q2 q3
  | _ => intro pc out env rt s x s' w ρ a Q hr; simp [rCode] at hr
end Hp
end
section
namespace Hp
open Go
variable {P : Program} {τ : Tb} {w w' : World} {F : Fx τ} {ρ ρ' : Rho} {h : Heap} {nx : Nat} {A : Ann} {a : Act} {o : Oper}
theorem argsFrom_at : ∀ (l : List PV) (i : Nat) (fr : Fr) (t : Nat), Fr.at (Fr.argsFrom i l fr) t = if i ≤ t ∧ t < i + l.length then l.getD (t - i) .any else Fr.at fr t
  | [], i, fr, t => by simp only [Fr.argsFrom]; rw [if_neg (by simp)]
  | v :: l, i, fr, t => by
    simp only [Fr.argsFrom]
    rw [argsFrom_at l (i + 1)]
    by_cases h1 : i + 1 ≤ t ∧ t < i + 1 + l.length
    · rw [if_pos h1, if_pos (by simp; omega)]
      have e : t - i = (t - (i + 1)) + 1 := by omega
      rw [e]; simp [List.getD]
    · rw [if_neg h1, Fr.at_set]
      by_cases h2 : t = i
      · subst h2; rw [if_pos rfl, if_pos (by simp)]; simp
      · rw [if_neg h2, if_neg (by simp; omega)]
theorem args_rel {N : Nat → Prop} {args : List PV} {vs : Array Value} (hr : RelL w N ρ args vs) (k : Nat) : FrRel w N ρ (Fr.args args) (vs ++ Array.replicate k undef) := by
  intro t
  unfold Fr.args
  rw [argsFrom_at]
  by_cases h1 : t < args.length
  · rw [if_pos (by omega), Nat.sub_zero]
    have e : (vs ++ Array.replicate k undef).getD t undef = vs.getD t undef := by
      rw [agetD, agetD, Array.toList_append, getD_append_l _ _ _ (by simp [hr.1]; exact h1)]
    rw [e]; exact hr.2 t h1
  · rw [if_neg (by omega), Fr.at_e]; exact .any _
theorem load_quiet (hi : Inv w F ρ h nx) {t : TypeId} {k : Nat} {ag : Bool} {p v : PV} {va : Value} (hk : sizeT P t = some k) (hg : isAggT P t = some ag)
    (hr : Rel w (NN F h ρ) ρ p va) (hv : ldv h k ag p = some v) : ∃ val, ((do loadVar t (← asAddr va) : Sem Value).run P w = .ok val w) ∧ Rel w (NN F h ρ) ρ v val := by
  have hd := load_does (P := P) hi hk hg hr hv
  unfold ldv at hv
  cases hb : behind h p with
  | none => simp [hb] at hv
  | some cs =>
    simp only [hb, Option.bind_some] at hv
    obtain ⟨b, o, g, rfl, hc⟩ := behind_rel hi hb hr
    unfold ldCells at hv
    cases ag with
    | true =>
      simp only [if_true] at hv
      split at hv
      · rename_i hle
        cases hv
        have hl := run_loadCells (P := P) w ⟨b, o, none⟩ k g (fun j hj => by rw [Addr_add]; exact (hc j (by omega)).1)
        refine ⟨.agg ((List.range k).map g).toArray, ?_, ?_⟩
        · simp [asAddr, loadVar, run_isAgg hg, run_sizeOf hk, hl]
        · have hget : ∀ i, i < k → ((List.range k).map g).toArray.getD i undef = g i := by
            intro i hi; rw [agetD]; simp [List.getD, List.getElem?_range, hi]
          refine .agg _ _ (by simp; omega) (fun i hi => ?_) fun i hi => ?_
          · have hik : i < k := by simp at hi; omega
            rw [hget i hik]; exact (hc i (by omega)).2.2
          · have hik : i < k := by simp at hi; omega
            rw [hget i hik]
            have : (cs.take k).getD i .any = cs.getD i .any := by simp [List.getD, List.getElem?_take, hik]
            rw [this]; exact (hc i (by omega)).2.1
      · cases hv
    | false =>
      simp at hv
      cases cs with
      | nil => simp at hv
      | cons x cs =>
        simp at hv; subst hv
        obtain ⟨h1, h2, _⟩ := hc 0 (by simp)
        refine ⟨g 0, ?_, by simpa using h2⟩
        simp at h1
        simp [asAddr, loadVar, run_isAgg hg, h1]
/-- one result -/
def resRun (tmps : Array Value) : ResultVar → Sem Value
  | .tmp t => pure (tmps.getD t undef)
  | .cell a t => do loadVar t (← asAddr (tmps.getD a undef))
theorem res_list (hi : Inv w F ρ h nx) {fr : Fr} {tmps : Array Value} (hf : FrRel w (NN F h ρ) ρ fr tmps) : ∀ (rvs : List ResultVar) (prs : List PRes) (l : List PV), rRes P rvs = some prs → resL fr h prs = some l →
    ∃ vals : List Value, (rvs.mapM (resRun tmps)).run P w = .ok vals w ∧ vals.length = l.length ∧ ∀ i, i < l.length → Rel w (NN F h ρ) ρ (l.getD i .any) (vals.getD i undef)
  | [], prs, l, hr, hl => by
    simp only [rRes, Option.some.injEq] at hr; subst hr
    simp only [resL, Option.some.injEq] at hl; subst hl
    exact ⟨[], rfl, rfl, fun i hi => by simp at hi⟩
  | rv :: rvs, prs, l, hr, hl => by
    have split1 : ∃ pr prs', prs = pr :: prs' ∧ rRes P rvs = some prs' ∧ ∀ v, resOf fr h pr = some v → ∃ val, (resRun tmps rv).run P w = .ok val w ∧ Rel w (NN F h ρ) ρ v val := by
      cases rv with
      | tmp t =>
        simp only [rRes] at hr
        obtain ⟨prs', e1, rfl⟩ := optMap hr
        refine ⟨_, prs', rfl, e1, fun v hv => ?_⟩
        simp only [resOf, Option.some.injEq] at hv
        subst hv
        exact ⟨_, rfl, hf t⟩
      | cell t ty =>
        simp only [rRes] at hr
        split at hr
        case h_2 => cases hr
        rename_i k g l' hk hg hl'
        cases hr
        refine ⟨_, l', rfl, hl', fun v hv => ?_⟩
        simp only [resOf] at hv
        exact load_quiet hi hk hg (hf t) hv
    obtain ⟨pr, prs', rfl, e1, e2⟩ := split1
    simp only [resL] at hl
    split at hl
    case h_2 => cases hl
    rename_i v l' hv hl'
    cases hl
    obtain ⟨val, f1, f2⟩ := e2 v hv
    obtain ⟨vals, g1, g2, g3⟩ := res_list hi hf rvs prs' l' e1 hl'
    refine ⟨val :: vals, ?_, by simp [g2], fun i hi' => ?_⟩
    · rw [List.mapM_cons, Sem.run_bind, f1]
      simp [g1]
    · cases i with
      | zero => simpa using f2
      | succ i => have := g3 i (by simpa using hi'); simpa [List.getD] using this
theorem results_sim (hi : Inv w F ρ h nx) {fr : Fr} {tmps : Array Value} (hf : FrRel w (NN F h ρ) ρ fr tmps) {fn : Func} {prs : List PRes} {l : List PV} (hr : rRes P fn.results.toList = some prs) (hl : resL fr h prs = some l) :
    ∃ val, (results fn tmps).run P w = .ok val w ∧ Rel w (NN F h ρ) ρ (resV l) val := by
  obtain ⟨vals, h1, h2, h3⟩ := res_list hi hf fn.results.toList prs l hr hl
  have hm : (fn.results.mapM (resRun tmps)).run P w = .ok vals.toArray w := by
    rw [← Array.toArray_toList (xs := fn.results), List.mapM_toArray]
    simp [h1]
  have hres : results fn tmps = (do let vs ← fn.results.mapM (resRun tmps); pure (if h : vs.size = 1 then vs[0] else .tuple vs)) := by
    unfold results
    congr 1
  rw [hres, Sem.run_bind, hm]
  refine ⟨_, rfl, ?_⟩
  cases l with
  | nil =>
    have : vals = [] := List.eq_nil_of_length_eq_zero h2
    subst this
    simp only [resV]
    exact .tup [] _ rfl (by simp)
  | cons v l =>
    cases l with
    | nil =>
      cases vals with
      | nil => simp at h2
      | cons x vals =>
        have : vals = [] := List.eq_nil_of_length_eq_zero (by simpa using h2)
        subst this
        simpa [resV] using h3 0 (by simp)
    | cons v2 l =>
      have hsz : vals.toArray.size ≠ 1 := by simp [h2]
      rw [dif_neg hsz]
      simp only [resV]
      exact .tup _ _ (by simpa using h2) fun i hi' => by rw [agetD]; exact h3 i hi'
/-! ### the whole of a call -/
theorem rFn_some {A : Ann} {fn : Func} {pf : PF} (h : rFn P A fn = some pf) : ∃ c res b, fn.body = some c ∧ rRes P fn.results.toList = some res ∧
    rCode P { A with nt := fn.ntmps } c (resTmps fn.results.toList) [] (resTmps fn.results.toList) = some b ∧ pf = ⟨fn.params.size, res, b⟩ := by
  unfold rFn at h
  split at h
  case h_2 => cases h
  rename_i c res hc hres
  split at h
  case h_2 => cases h
  rename_i b hb
  cases h
  exact ⟨c, res, b, hc, hres, hb, rfl⟩
/-- the resolved texts are the program's -/
structure EnvOk (P : Program) (τ : Tb) (E : Env) : Prop where
  fns : ∀ f pf, E.fns f = some pf → callable P f = true ∧ ∃ fn A, P.funcs[f]? = some fn ∧ rFn P A fn = some pf
  ext : ExtOk P τ E.ext
  draw : ∀ call, CallSim P τ call → DrawSim P τ call E.ext
/-- a deferred call that comes to its end -/
def DCallSim (P : Program) (τ : Tb) (call : CallF) : Prop :=
  ∀ f args h nx v h' nx', call f args h nx = some (.ret v, h', nx') → callable P f = true ∧
    ∀ (w : World) (F : Fx τ) (ρ : Rho) (vs : Array Value) (u : FrameMode), Inv w F ρ h nx → (∀ id, ¬ F.ids id) → RelL w (NN F h ρ) ρ args vs →
      CallsD P f vs u w fun e u' w' => u' = u ∧ After F w h ρ (.val v h' nx') e w'
theorem start_st {fn : Func} {args : List PV} {vs : Array Value} (hi : Inv w F ρ h nx) (hr : RelL w (NN F h ρ) ρ args vs) :
    St P w F ρ ⟨Fr.args args, h, nx, []⟩ { tmps := vs ++ Array.replicate (fn.ntmps - vs.size) undef, defers := [] } fn.ntmps :=
  ⟨hi, args_rel hr _, trivial, by simp; omega⟩
theorem dcall_sim {E : Env} (hE : EnvOk P τ E) {call : CallF} (hc : CallSim P τ call) (n : Nat) : DCallSim P τ (dcall E call n) := by
  intro f args h nx v h' nx' hcall
  unfold dcall at hcall
  split at hcall
  case h_2 => cases hcall
  rename_i pf hpf
  obtain ⟨hcb, fn, A, hfn, hrf⟩ := hE.fns f pf hpf
  obtain ⟨c, res, b, hb, hres, hcode, rfl⟩ := rFn_some hrf
  refine ⟨hcb, fun w F ρ vs u hi hF hr => ?_⟩
  have hfin : ∀ (s : S), fin noCall ⟨fn.params.size, res, b⟩ s = some (.ret v, h', nx') → ∀ w' ρ' a', St P w' F ρ' s a' fn.ntmps → Grow w h ρ w' s.h ρ' →
      a'.defers = [] ∧ ∃ val, (results fn a'.tmps).run P w' = .ok val w' ∧ After F w h ρ (.val v h' nx') (.returned val) w' := by
    intro s hs w' ρ' a' hst hg
    unfold fin at hs
    split at hs
    case h_2 => cases hs
    rename_i h2 nx2 hdf
    obtain ⟨l, hl, heq⟩ := optMap hs
    cases heq
    have hdn : s.df = [] ∧ s.h = h' ∧ s.nx = nx' := by
      cases hd : s.df with
      | nil => rw [hd] at hdf; simp only [runDf, Option.some.injEq, Prod.mk.injEq] at hdf; exact ⟨rfl, hdf.1, hdf.2⟩
      | cons d ds => rw [hd] at hdf; obtain ⟨f1, a1⟩ := d; simp [runDf, noCall] at hdf
    obtain ⟨d1, d2, d3⟩ := hdn
    have hdd := hst.df
    rw [d1] at hdd
    have hempty : a'.defers = [] := by
      cases hq : a'.defers with
      | nil => rfl
      | cons x xs => rw [hq] at hdd; exact hdd.elim
    have hinv := hst.inv
    have hfr := hst.fr
    rw [d2] at hfr hinv hg
    rw [d3] at hinv
    obtain ⟨val, r1, r2⟩ := results_sim (P := P) (fn := fn) hinv hfr hres hl
    exact ⟨hempty, val, r1, ρ', val, rfl, hinv, hg, r2⟩
  unfold runFn at hcall
  refine callsD_of_wp hfn hb ?_
  split at hcall
  · rename_i s hx
    refine code_sim hc hE.ext (hE.draw call hc) hF n c b _ _ _ _ _ _ w ρ _ _ hcode hx (start_st hi hr) fun e a' w' ρ' q1 q2 q3 => ?_
    cases e <;> try exact q1.elim
    exact hfin s hcall w' ρ' a' q2 q3
  · rename_i s hx
    refine code_sim hc hE.ext (hE.draw call hc) hF n c b _ _ _ _ _ _ w ρ _ _ hcode hx (start_st hi hr) fun e a' w' ρ' q1 q2 q3 => ?_
    cases e <;> try exact q1.elim
    exact hfin s hcall w' ρ' a' q2 q3
  · split at hcall
    · cases hcall
    · cases hcall
  · cases hcall
/-- deferred calls on the way out -/
theorem leaves_sim {calld : CallF} (hd : DCallSim P τ calld) (hF : ∀ id, ¬ F.ids id) {fn : Func} {tmps : Array Value} {R : Ending → World → Prop} :
    ∀ (dl : List (FuncId × List PV)) (ds : List Deferred) (h : Heap) (nx : Nat) (h' : Heap) (nx' : Nat) (w : World) (ρ : Rho), runDf calld dl h nx = some (h', nx') → Inv w F ρ h nx → DefsRel P w (NN F h ρ) ρ dl ds →
    (∀ w' ρ', Inv w' F ρ' h' nx' → Grow w h ρ w' h' ρ' → ∃ val, (results fn tmps).run P w' = .ok val w' ∧ R (.returned val) w') → Leaves P fn tmps R ds .returning w
  | [], [], h, nx, h', nx', w, ρ, hx, hi, _, hR => by
    simp only [runDf, Option.some.injEq, Prod.mk.injEq] at hx
    obtain ⟨rfl, rfl⟩ := hx
    exact hR w ρ hi (.refl ..)
  | [], _ :: _, _, _, _, _, _, _, _, _, h, _ => h.elim
  | _ :: _, [], _, _, _, _, _, _, _, _, h, _ => h.elim
  | (f, args) :: dl, d :: ds, h, nx, h', nx', w, ρ, hx, hi, hds, hR => by
    obtain ⟨⟨hcb, cap, htar, hargs⟩, hrest⟩ := hds
    simp only [runDf] at hx
    split at hx
    case h_2 => cases hx
    rename_i v h1 nx1 hv
    obtain ⟨_, g1⟩ := hd _ _ _ _ _ _ _ hv
    refine ⟨by simp, .func f, cap, f, d.args ++ cap, htar, ?_, ?_⟩
    · rw [htar]
      simp only [invoke]
      exact run_callFunc hcb (d.args ++ cap) w
    · refine (g1 w F ρ (d.args ++ cap) .returning hi hF hargs).mono fun e u' w' ha => ?_
      obtain ⟨rfl, ρ', val, rfl, i1, i2, i3⟩ := ha
      exact leaves_sim hd hF dl ds h1 nx1 h' nx' w' ρ' hx i1 (hrest.keep (i2.toKeep F)) fun w'' ρ'' k1 k2 => hR w'' ρ'' k1 (i2.trans k2)
theorem callN_sim {E : Env} (hE : EnvOk P τ E) : ∀ n, CallSim P τ (callN E n)
  | 0 => fun f args h nx out h' nx' hcall => by simp [callN, noCall] at hcall
  | n + 1 => by
    intro f args h nx out h' nx' hcall
    have hc := callN_sim hE n
    have hdc := dcall_sim hE hc n
    simp only [callN] at hcall
    split at hcall
    case h_2 => cases hcall
    rename_i pf hpf
    obtain ⟨hcb, fn, A, hfn, hrf⟩ := hE.fns f pf hpf
    obtain ⟨c, res, b, hb, hres, hcode, rfl⟩ := rFn_some hrf
    refine ⟨hcb, fun w F ρ vs hi hF hr => ?_⟩
    have hfin : ∀ (s : S), fin (dcall E (callN E n) n) ⟨fn.params.size, res, b⟩ s = some (out, h', nx') → ∀ w' ρ' a', St P w' F ρ' s a' fn.ntmps → Grow w h ρ w' s.h ρ' →
        Leaves P fn a'.tmps (After F w h ρ (out.op h' nx')) a'.defers .returning w' := by
      intro s hs w' ρ' a' hst hg
      unfold fin at hs
      split at hs
      case h_2 => cases hs
      rename_i h2 nx2 hdf
      obtain ⟨l, hl, heq⟩ := optMap hs
      cases heq
      refine leaves_sim hdc hF s.df a'.defers s.h s.nx h' nx' w' ρ' hdf hst.inv hst.df fun w'' ρ'' k1 k2 => ?_
      obtain ⟨val, r1, r2⟩ := results_sim (P := P) (fn := fn) k1 (hst.fr.keep (k2.toKeep F)) hres hl
      exact ⟨val, r1, ρ'', val, rfl, k1, hg.trans k2, r2⟩
    unfold runFn at hcall
    refine calls_of_wp_defers hfn hb ?_
    split at hcall
    · rename_i s hx
      refine code_sim hc hE.ext (hE.draw _ hc) hF n c b _ _ _ _ _ _ w ρ _ _ hcode hx (start_st hi hr) fun e a' w' ρ' q1 q2 q3 => ?_
      cases e <;> try exact q1.elim
      exact hfin s hcall w' ρ' a' q2 q3
    · rename_i s hx
      refine code_sim hc hE.ext (hE.draw _ hc) hF n c b _ _ _ _ _ _ w ρ _ _ hcode hx (start_st hi hr) fun e a' w' ρ' q1 q2 q3 => ?_
      cases e <;> try exact q1.elim
      exact hfin s hcall w' ρ' a' q2 q3
    · rename_i v s hx
      split at hcall
      case h_2 => cases hcall
      rename_i hdf
      cases hcall
      refine code_sim hc hE.ext (hE.draw _ hc) hF n c b _ _ _ _ _ _ w ρ _ _ hcode hx (start_st hi hr) fun e a' w' ρ' q1 q2 q3 => ?_
      cases e <;> try exact q1.elim
      obtain ⟨val, rfl, hrv⟩ := q1
      have hdd := q2.df
      rw [hdf] at hdd
      have hempty : a'.defers = [] := by
        cases hq : a'.defers with
        | nil => rfl
        | cons x xs => rw [hq] at hdd; exact hdd.elim
      show Leaves P fn a'.tmps _ a'.defers (.panicking _) w'
      rw [hempty]
      exact ⟨ρ', val, rfl, q2.inv, q3, hrv⟩
    · cases hcall
end Hp
end
section
namespace Hp
open Go
def Same (fr fr' : Fr) (l : List Nat) : Prop := ∀ t ∈ l, Fr.at fr t = Fr.at fr' t
theorem Same.app {fr fr' : Fr} {l l' : List Nat} (h : Same fr fr' (l ++ l')) : Same fr fr' l ∧ Same fr fr' l' :=
  ⟨fun t ht => h t (List.mem_append.2 (.inl ht)), fun t ht => h t (List.mem_append.2 (.inr ht))⟩
theorem Same.opd {fr fr' : Fr} {x : Opd} (h : Same fr fr' x.tmps) : x.get fr = x.get fr' := by
  cases x with
  | t n => exact h n (by simp [Opd.tmps])
  | c v => rfl
theorem Same.opt {fr fr' : Fr} {x : Option Opd} (h : Same fr fr' (optT x)) (d : Nat) : optNat fr d x = optNat fr' d x := by
  cases x with
  | none => rfl
  | some x => simp only [optNat, Same.opd (x := x) h]
theorem Same.hiN {fr fr' : Fr} {x : Option Opd} (h : Same fr fr' (optT x)) : hiNat fr x = hiNat fr' x := by
  cases x with
  | none => rfl
  | some x => simp only [hiNat, Same.opd (x := x) h]
theorem Same.opds {fr fr' : Fr} : ∀ {l : List Opd}, Same fr fr' (opdsT l) → l.map (·.get fr) = l.map (·.get fr')
  | [], _ => rfl
  | x :: l, h => by simp only [List.map_cons, (Same.app h).1.opd, Same.opds (Same.app h).2]
theorem Same.parts {fr fr' : Fr} : ∀ {l : List (Nat × Nat × Opd)}, Same fr fr' (partsT l) → (l.map fun (o, k, x) => (o, k, x.get fr)) = l.map fun (o, k, x) => (o, k, x.get fr')
  | [], _ => rfl
  | (o, k, x) :: l, h => by simp only [List.map_cons, (Same.app h).1.opd, Same.parts (Same.app h).2]
theorem Same.elems {fr fr' : Fr} : ∀ {l : List (Nat × Opd)}, Same fr fr' (elemsT l) → (l.map fun (i, x) => (i, x.get fr)) = l.map fun (i, x) => (i, x.get fr')
  | [], _ => rfl
  | (i, x) :: l, h => by simp only [List.map_cons, (Same.app h).1.opd, Same.elems (Same.app h).2]
theorem opRun_same {call : CallF} {ext : ExtF} {fr fr' : Fr} {h : Heap} {nx : Nat} : ∀ {op : POp}, Same fr fr' op.tmps → opRun call ext fr h nx op = opRun call ext fr' h nx op ∧ ∀ nx', touchOf fr h nx nx' op = touchOf fr' h nx nx' op := by
  intro op hs
  cases op
  case slice k x lo hi mx =>
    have h1 := hs.app; have h2 := h1.2.app; have h3 := h2.2.app
    simp only [opRun, mop, touchOf, tch, h1.1.opd, h2.1.opt, h3.1.hiN, h3.2.hiN, implies_true, and_self]
  case ssub x lo hi =>
    have h1 := hs.app; have h2 := h1.2.app
    simp only [opRun, mop, touchOf, tch, h1.1.opd, h2.1.opt, h2.2.opt, implies_true, and_self]
  case build z ps =>
    have h1 := Same.parts (show Same fr fr' (partsT ps) from hs)
    simp only [opRun, mop, touchOf, tch, h1, implies_true, and_self]
  case lits s n z ps =>
    have h1 := Same.elems (show Same fr fr' (elemsT ps) from hs)
    simp only [opRun, mop, touchOf, tch, h1, implies_true, and_self]
  case mkfn f l m =>
    have h1 := hs.app
    simp only [opRun, mop, touchOf, tch, h1.1.opds, h1.2.opds, implies_true, and_self]
  case call m f l =>
    have h1 := Same.opds (show Same fr fr' (opdsT l) from hs)
    simp only [opRun, touchOf, h1, implies_true, and_self]
  case callv m g l =>
    have h1 := hs.app
    simp only [opRun, touchOf, h1.1.opd, h1.2.opds, implies_true, and_self]
  case dfr f l =>
    have h1 := Same.opds (show Same fr fr' (opdsT l) from hs)
    simp only [opRun, touchOf, h1, implies_true, and_self]
  case alloc => exact ⟨rfl, fun _ => rfl⟩
  case mkmap => exact ⟨rfl, fun _ => rfl⟩
  case clen => exact ⟨rfl, fun _ => rfl⟩
  case pick c a b =>
    have h1 := hs.app; have h2 := h1.2.app
    simp only [opRun, mop, touchOf, tch, h1.1.opd, h2.1.opd, h2.2.opd, implies_true, and_self]
  case mupd kk m k v =>
    have h1 := hs.app; have h2 := h1.2.app
    simp only [opRun, mop, touchOf, tch, h1.1.opd, h2.1.opd, h2.2.opd, implies_true, and_self]
  case mest m s v =>
    have h1 := hs.app; have h2 := h1.2.app
    simp only [opRun, mop, touchOf, tch, h1.1.opd, h2.1.opd, h2.2.opd, implies_true, and_self]
  all_goals first
    | (have h1 := hs.opd
       simp only [opRun, mop, touchOf, tch, h1, implies_true, and_self]; done)
    | (have h1 := hs.app
       simp only [opRun, mop, touchOf, tch, h1.1.opd, h1.2.opd, implies_true, and_self])
theorem want_same {fr fr' : Fr} {g : Option (Nat × Bool)} (h : ∀ t b, g = some (t, b) → Fr.at fr t = Fr.at fr' t) : want fr g = want fr' g := by
  cases g with
  | none => rfl
  | some tb => obtain ⟨t, b⟩ := tb; simp only [want, h t b rfl]
/-- one operation's value, heap, number, touches -/
def oneV (call : CallF) (ext : ExtF) (g : PG) (nx : Nat) (fr : Fr) (h : Heap) : Option (PV × Heap × Nat × Touch) :=
  match want fr g.guard with
  | none => none
  | some false => some (.tup [], h, nx, ⟨some [], some [], []⟩)
  | some true => match opRun call ext fr h nx g.op with
    | some (.val v h' nx') => some (v, h', nx', touchOf fr h nx nx' g.op)
    | _ => none
theorem one_eq (call : CallF) (ext : ExtF) (g : PG) (nx : Nat) (fr : Fr) (h : Heap) : one call ext g nx fr h = (oneV call ext g nx fr h).map fun (v, h', nx', t) => (Fr.dst fr g.dst v, h', nx', t) := by
  unfold one oneV
  cases want fr g.guard with
  | none => rfl
  | some b =>
    cases b with
    | false => rfl
    | true =>
      simp only
      cases opRun call ext fr h nx g.op with
      | none => rfl
      | some out => cases out <;> rfl
theorem oneV_same {call : CallF} {ext : ExtF} {g : PG} {nx : Nat} {fr fr' : Fr} {h : Heap} (hs : Same fr fr' g.looks) : oneV call ext g nx fr h = oneV call ext g nx fr' h := by
  have hop : Same fr fr' g.op.tmps := fun t ht => hs t (by unfold PG.looks; split <;> simp [ht])
  have hw : want fr g.guard = want fr' g.guard := want_same fun t b hg => hs t (by simp [PG.looks, hg])
  obtain ⟨h1, h2⟩ := opRun_same (call := call) (ext := ext) (h := h) (nx := nx) hop
  unfold oneV
  rw [hw, h1]
  split
  · rfl
  · rfl
  · split
    · rw [h2]
    · rfl
theorem same_dst {fr : Fr} {d : Option Nat} {v : PV} {l : List Nat} (hd : ∀ t, d = some t → t ∉ l) : Same (Fr.dst fr d v) fr l := by
  intro t ht
  cases d with
  | none => rfl
  | some d =>
    simp only [Fr.dst]
    rw [Fr.at_set, if_neg]
    intro he
    exact hd d rfl (he ▸ ht)
end Hp
end
section
namespace Hp
open Go
def puts (h : Heap) : List (Nat × Option HO) → Heap
  | [] => h
  | (i, x) :: l => puts (h.put i x) l
def er (x : Option HO) : Option PObj := x.map (·.o)
theorem puts_get_ne : ∀ (U : List (Nat × Option HO)) (h : Heap) (id : Nat), (∀ u ∈ U, u.1 ≠ id) → (puts h U).get id = h.get id
  | [], _, _, _ => rfl
  | (i, x) :: U, h, id, hn => by
    simp only [puts]
    rw [puts_get_ne U _ id fun u hu => hn u (by simp [hu]), Tr.get_put_ne _ _ _ _ (Ne.symm (hn (i, x) (by simp)))]
theorem puts_er : ∀ (U : List (Nat × Option HO)) (h : Heap) (id : Nat), (∀ u ∈ U, u.1 = id → er u.2 = er (h.get id)) → er ((puts h U).get id) = er (h.get id)
  | [], _, _, _ => rfl
  | (i, x) :: U, h, id, hn => by
    simp only [puts]
    have h1 : er ((h.put i x).get id) = er (h.get id) := by
      rw [Tr.get_put]
      by_cases hi : id = i
      · rw [if_pos hi]; exact hn (i, x) (by simp) hi.symm
      · rw [if_neg hi]
    rw [puts_er U _ id fun u hu he => (hn u (by simp [hu]) he).trans h1.symm, h1]
theorem put_puts : ∀ (V : List (Nat × Option HO)) (h : Heap) (i : Nat) (x : Option HO), (∀ v ∈ V, v.1 = i → v.2 = x) → puts (h.put i x) V = (puts h V).put i x
  | [], _, _, _, _ => rfl
  | (j, y) :: V, h, i, x, hn => by
    simp only [puts]
    have e : (h.put i x).put j y = (h.put j y).put i x := by
      by_cases hij : i = j
      · have := hn (j, y) (by simp) hij.symm
        simp only at this
        rw [hij, this]
      · exact Tr.put_comm x y i j h hij
    rw [e, put_puts V _ i x fun v hv => hn v (by simp [hv])]
theorem puts_comm : ∀ (U V : List (Nat × Option HO)) (h : Heap), (∀ u ∈ U, ∀ v ∈ V, u.1 = v.1 → u.2 = v.2) → puts (puts h U) V = puts (puts h V) U
  | [], _, _, _ => rfl
  | (i, x) :: U, V, h, hn => by
    simp only [puts]
    rw [puts_comm U V _ fun u hu v hv => hn u (by simp [hu]) v hv, put_puts V h i x fun v hv he => (hn (i, x) (by simp) v hv he.symm).symm]
def upsH (ups : List (Nat × Option PObj)) : List (Nat × Option HO) := ups.map fun (i, x) => (i, x.map fun o => ⟨false, o⟩)
theorem hsets_puts : ∀ (ups : List (Nat × Option PObj)) (h : Heap), hsets h ups = puts h (upsH ups)
  | [], _ => rfl
  | (i, x) :: l, h => by simp only [hsets, upsH, List.map_cons, puts, hset]; exact hsets_puts l _
def frzH (h : Heap) (L : List Nat) : List (Nat × Option HO) := L.map fun i => (i, (h.get i).map fun x => ⟨true, x.o⟩)
theorem hfrzs_puts : ∀ (L : List Nat) (h : Heap), hfrzs h L = puts h (frzH h L)
  | [], _ => rfl
  | i :: L, h => by
    simp only [hfrzs, frzH, List.map_cons, puts]
    rw [hfrzs_puts L]
    have : frzH (hfrz h i) L = frzH h L := by
      apply List.map_congr_left
      intro j _
      simp only [Prod.mk.injEq, true_and]
      rw [hfrz_get]
      by_cases hj : j = i
      · rw [if_pos hj, hj]; cases h.get i <;> rfl
      · rw [if_neg hj]
    rw [this]; rfl
def copH (h' : Heap) (nx : Nat) : Nat → List (Nat × Option HO)
  | 0 => []
  | k + 1 => (nx, h'.get nx) :: copH h' (nx + 1) k
theorem hcopy_puts (h' : Heap) : ∀ (k : Nat) (h : Heap) (nx : Nat), hcopy h h' nx k = puts h (copH h' nx k)
  | 0, _, _ => rfl
  | k + 1, h, nx => by simp only [hcopy, copH, puts]; exact hcopy_puts h' k _ _
theorem copH_keys (h' : Heap) : ∀ (k nx : Nat), ∀ u ∈ copH h' nx k, nx ≤ u.1 ∧ u.1 < nx + k
  | 0, _, u, hu => by simp [copH] at hu
  | k + 1, nx, u, hu => by
    simp only [copH, List.mem_cons] at hu
    rcases hu with rfl | hu
    · exact ⟨Nat.le_refl _, by simp⟩
    · have := copH_keys h' k (nx + 1) u hu; omega
/-! ### what is read -/
theorem harr_er {h h' : Heap} {id : Nat} (he : er (h'.get id) = er (h.get id)) : (harr h' id).map (·.2) = (harr h id).map (·.2) := by
  unfold harr
  cases h1 : h.get id with
  | none =>
    cases h2 : h'.get id with
    | none => rfl
    | some y => rw [h1, h2] at he; simp [er] at he
  | some x =>
    cases h2 : h'.get id with
    | none => rw [h1, h2] at he; simp [er] at he
    | some y =>
      rw [h1, h2] at he
      obtain ⟨fx, ox⟩ := x
      obtain ⟨fy, oy⟩ := y
      simp [er] at he
      subst he
      cases oy <;> rfl
theorem behind_er {h h' : Heap} {p : PV} (he : ∀ id ∈ idOf p, er (h'.get id) = er (h.get id)) : behind h' p = behind h p := by
  cases p with
  | mptr id ix off =>
    have := harr_er (he id (by simp [idOf]))
    simp only [behind]
    cases h1 : harr h id with
    | none => rw [h1] at this; cases h2 : harr h' id with
      | none => rfl
      | some y => rw [h2] at this; simp at this
    | some x => rw [h1] at this; cases h2 : harr h' id with
      | none => rw [h2] at this; simp at this
      | some y => rw [h2] at this; obtain ⟨a, b, c⟩ := x; obtain ⟨d, e, f⟩ := y; simp at this; obtain ⟨rfl, rfl⟩ := this; rfl
  | _ => rfl
theorem elems_er {h h' : Heap} {k : Nat} {p : PV} (he : ∀ id ∈ idOf p, er (h'.get id) = er (h.get id)) : elems h' k p = elems h k p := by
  cases p with
  | msl id off len cp =>
    have := harr_er (he id (by simp [idOf]))
    simp only [elems]
    cases h1 : harr h id with
    | none => rw [h1] at this; cases h2 : harr h' id with
      | none => rfl
      | some y => rw [h2] at this; simp at this
    | some x => rw [h1] at this; cases h2 : harr h' id with
      | none => rw [h2] at this; simp at this
      | some y => rw [h2] at this; obtain ⟨a, b, c⟩ := x; obtain ⟨d, e, f⟩ := y; simp at this; obtain ⟨rfl, rfl⟩ := this; rfl
  | _ => rfl
theorem harr_er' {h h' : Heap} {id : Nat} (he : er (h'.get id) = er (h.get id)) : (harr h id = none ∧ harr h' id = none) ∨ ∃ a b sz es, harr h id = some (a, sz, es) ∧ harr h' id = some (b, sz, es) := by
  have := harr_er he
  cases h1 : harr h id with
  | none => rw [h1] at this; cases h2 : harr h' id with
    | none => exact .inl ⟨rfl, rfl⟩
    | some y => rw [h2] at this; simp at this
  | some x => rw [h1] at this; cases h2 : harr h' id with
    | none => rw [h2] at this; simp at this
    | some y => rw [h2] at this; obtain ⟨a, b, c⟩ := x; obtain ⟨d, e, f⟩ := y; simp at this; obtain ⟨rfl, rfl⟩ := this; exact .inr ⟨a, d, e, f, rfl, rfl⟩
theorem get_er' {h h' : Heap} {id : Nat} (he : er (h'.get id) = er (h.get id)) : (h.get id = none ∧ h'.get id = none) ∨ ∃ a b o, h.get id = some ⟨a, o⟩ ∧ h'.get id = some ⟨b, o⟩ := by
  cases h1 : h.get id with
  | none => rw [h1] at he; cases h2 : h'.get id with
    | none => exact .inl ⟨rfl, rfl⟩
    | some y => rw [h2] at he; simp [er] at he
  | some x => rw [h1] at he; cases h2 : h'.get id with
    | none => rw [h2] at he; simp [er] at he
    | some y => rw [h2] at he; obtain ⟨a, b⟩ := x; obtain ⟨d, e⟩ := y; simp [er] at he; subst he; exact .inr ⟨a, d, e, rfl, rfl⟩
theorem harr_ex {h h' : Heap} {id : Nat} (he : h'.get id = h.get id) : harr h' id = harr h id := by simp only [harr, he]
theorem appendTo_agree {h h' : Heap} {bytes : Nat} {z x : PV} {nx : Nat} {new : List PV} {v : PV} {ups : List (Nat × Option PObj)} {c : Nat} (hm : appendTo bytes z h nx x new = some (v, ups, c)) (hD : ∀ u ∈ ups, h'.get u.1 = h.get u.1) :
    appendTo bytes z h' nx x new = some (v, ups, c) := by
  cases x with
  | msl id off len cp =>
    simp only [appendTo] at hm ⊢
    split at hm
    · rename_i h0; rw [if_pos h0]; exact hm
    · rename_i h0
      rw [if_neg h0]
      split at hm
      case h_2 => cases hm
      rename_i sz es hh
      have hid : h'.get id = h.get id := by
        split at hm
        · cases hm; exact hD _ (List.Mem.head _)
        · split at hm
          · cases hm; exact hD _ (List.Mem.head _)
          · cases hm
      rw [harr_ex hid, hh]
      exact hm
  | _ => exact hm
theorem copyTo_agree {h h' : Heap} {k : Nat} {x : PV} {src : List PV} {v : PV} {ups : List (Nat × Option PObj)} {c : Nat} (hm : copyTo h k x src = some (v, ups, c)) (hD : ∀ u ∈ ups, h'.get u.1 = h.get u.1) :
    copyTo h' k x src = some (v, ups, c) := by
  cases x with
  | msl id off len cp =>
    simp only [copyTo] at hm ⊢
    split at hm
    · rename_i h0; rw [if_pos h0]; exact hm
    · rename_i h0
      rw [if_neg h0]
      split at hm
      case h_2 => cases hm
      rename_i sz es hh
      have hid : h'.get id = h.get id := by
        split at hm
        · cases hm; exact hD _ (List.Mem.head _)
        · cases hm
      rw [harr_ex hid, hh]
      exact hm
  | _ => exact hm
/-- an operation does the same wherever what it touches is the same -/
theorem mop_agree {fr : Fr} {h h' : Heap} {nx : Nat} {op : POp} {v : PV} {ups : List (Nat × Option PObj)} {c : Nat} (hm : mop fr h nx op = some (v, ups, c))
    (hT : ∀ id ∈ tch fr op, er (h'.get id) = er (h.get id)) (hD : ∀ u ∈ ups, h'.get u.1 = h.get u.1) : mop fr h' nx op = some (v, ups, c) := by
  cases op with
  | load k ag a => simp only [mop, ldv, behind_er hT] at hm ⊢; exact hm
  | iaddr sz x i =>
    simp only [mop, tch] at hm hT ⊢
    cases hi : natOf (i.get fr) with
    | none => rw [hi] at hm; cases hx : x.get fr <;> rw [hx] at hm <;> cases hm
    | some i' =>
      cases hx : x.get fr with
      | msl id off len cp =>
        rw [hi, hx] at hm
        simp only at hm ⊢
        rcases harr_er' (hT id (by rw [hx]; simp [idOf])) with ⟨e1, e2⟩ | ⟨b1, b2, s, es, e1, e2⟩
        · rw [e1] at hm; cases hm
        · rw [e1] at hm; rw [e2]; exact hm
      | _ => rw [hi, hx] at hm; exact hm
  | slice k x lo hi mx =>
    simp only [mop, tch] at hm hT ⊢
    have : sliceOf h' k (x.get fr) (optNat fr 0 lo) (hiNat fr hi) (hiNat fr mx) = sliceOf h k (x.get fr) (optNat fr 0 lo) (hiNat fr hi) (hiNat fr mx) := by
      cases hx : x.get fr with
      | msl id off len cp =>
        unfold sliceOf
        rcases harr_er' (hT id (by rw [hx]; simp [idOf])) with ⟨e1, e2⟩ | ⟨b1, b2, s, es, e1, e2⟩
        · cases optNat fr 0 lo <;> simp [e1, e2]
        · cases optNat fr 0 lo <;> simp [e1, e2]
      | _ => cases optNat fr 0 lo <;> rfl
    rw [this]; exact hm
  | look kk ok z m k =>
    simp only [mop, tch] at hm hT ⊢
    split at hm
    · cases hm
    rename_i h0
    rw [if_neg h0]
    split at hm
    · rename_i h1; (try rw [h1]); exact hm
    · rename_i id h1
      try rw [h1]
      rcases get_er' (hT id (by simp [h1, idOf])) with ⟨e1, e2⟩ | ⟨b1, b2, o, e1, e2⟩
      · rw [e1] at hm; cases hm
      · rw [e1] at hm; simp only [e2]; cases o <;> exact hm
    · cases hm
  | len k x =>
    simp only [mop, tch] at hm hT ⊢
    split at hm
    · rename_i h1; (try rw [h1]); exact hm
    · rename_i h1; (try rw [h1]); exact hm
    · rename_i h1; (try rw [h1]); exact hm
    · rename_i h1; (try rw [h1]); exact hm
    · rename_i id h1
      try rw [h1]
      rcases get_er' (hT id (by simp [h1, idOf])) with ⟨e1, e2⟩ | ⟨b1, b2, o, e1, e2⟩
      · rw [e1] at hm; cases hm
      · rw [e1] at hm; simp only [e2]; cases o <;> exact hm
    · cases hm
  | app bytes z x y =>
    simp only [mop, tch] at hm hT ⊢
    rw [elems_er (h := h) (h' := h') fun id hid => hT id (List.mem_append.2 (.inr hid))]
    split at hm
    · rename_i new hn; exact appendTo_agree hm hD
    · cases hm
  | copy k x y =>
    simp only [mop, tch] at hm hT ⊢
    rw [elems_er (h := h) (h' := h') fun id hid => hT id (List.mem_append.2 (.inr hid))]
    split at hm
    · rename_i new hn; exact copyTo_agree hm hD
    · cases hm
  | store k a x =>
    simp only [mop] at hm ⊢
    split at hm
    case h_2 => cases hm
    rename_i id ix off h1
    split at hm
    case h_2 => cases hm
    rename_i sz es h2
    have hid : h'.get id = h.get id := by
      split at hm
      · split at hm
        · split at hm
          · cases hm; exact hD _ (List.Mem.head _)
          · cases hm
        · cases hm
      · cases hm
    rw [harr_ex hid, h2]; exact hm
  | mupd kk m k x =>
    simp only [mop] at hm ⊢
    split at hm
    · cases hm
    rename_i h0
    rw [if_neg h0]
    split at hm
    case h_2 => cases hm
    rename_i id h1
    split at hm
    case h_2 => cases hm
    rename_i es clk h2
    have hid : h'.get id = h.get id := by
      split at hm
      · cases hm; exact hD _ (List.Mem.head _)
      · cases hm; exact hD _ (List.Mem.head _)
      · cases hm
    rw [hid, h2]; exact hm
  | ment kk z m k =>
    simp only [mop] at hm ⊢
    split at hm
    · cases hm
    rename_i h0
    rw [if_neg h0]
    split at hm
    case h_2 => cases hm
    rename_i id h1
    split at hm
    case h_2 => cases hm
    rename_i es clk h2
    have hid : h'.get id = h.get id := by
      split at hm
      · cases hm; exact hD _ (List.Mem.head _)
      · cases hm; exact hD _ (List.Mem.head _)
      · cases hm
    rw [hid, h2]; exact hm
  | mest m s x =>
    simp only [mop] at hm ⊢
    split at hm
    case h_2 => cases hm
    rename_i id kb b h1 h1'
    split at hm
    case h_2 => cases hm
    rename_i es clk h2
    have hid : h'.get id = h.get id := by
      split at hm
      · split at hm
        · cases hm; exact hD _ (List.Mem.head _)
        · cases hm
      · cases hm
    rw [hid, h2]; exact hm
  | clear z x =>
    simp only [mop] at hm ⊢
    split at hm
    · rename_i h1; exact hm
    · rename_i h1; exact hm
    · rename_i id off len cp h1 h2
      split at hm
      case h_2 => cases hm
      rename_i sz es h3
      have hid : h'.get id = h.get id := by
        split at hm
        · cases hm; exact hD _ (List.Mem.head _)
        · cases hm
      rw [harr_ex hid, h3]; exact hm
    · cases hm
  | clearm x =>
    simp only [mop] at hm ⊢
    split at hm
    · exact hm
    · rename_i id h1
      split at hm
      case h_2 => cases hm
      rename_i es clk h2
      have hid : h'.get id = h.get id := by cases hm; exact hD _ (List.Mem.head _)
      rw [hid, h2]; exact hm
    · cases hm
  | _ => exact hm
end Hp
end
section
namespace Hp
open Go
mutual
theorem reify_congr {f f' : PV → Option PV} {g g' : PV → List Nat} {G : Nat → Prop} (H : ∀ p, isRef p = true → (∀ id ∈ g p, G id) → f' p = f p ∧ g' p = g p) : ∀ p, (∀ id ∈ leads g p, G id) → reifyV f' p = reifyV f p ∧ leads g' p = leads g p
  | .any, _ | .bool _, _ | .int .., _ | .str _, _ | .nilp, _ | .nilf, _ | .nili, _ | .nilm, _ | .map _, _ => ⟨rfl, rfl⟩
  | .agg cs, h => by
    have := reifyL_congr H cs (by simpa only [leads] using h)
    simp only [reifyV, leads, this.1, this.2, and_self]
  | .tup cs, h => by
    have := reifyL_congr H cs (by simpa only [leads] using h)
    simp only [reifyV, leads, this.1, this.2, and_self]
  | .iptr cs, h => by
    have := reifyL_congr H cs (by simpa only [leads] using h)
    simp only [reifyV, leads, this.1, this.2, and_self]
  | .isl a b cs, h => by
    have := reifyL_congr H cs (by simpa only [leads] using h)
    simp only [reifyV, leads, this.1, this.2, and_self]
  | .mptr a b c, h => by
    have := H (.mptr a b c) rfl (by simpa only [leads] using h)
    simp only [reifyV, leads, this.1, this.2, and_self]
  | .msl a b c d, h => by
    have := H (.msl a b c d) rfl (by simpa only [leads] using h)
    simp only [reifyV, leads, this.1, this.2, and_self]
  | .fn i a b, h => by
    have h1 := reifyL_congr H a fun id hid => h id (by simp only [leads]; exact List.mem_append.2 (.inl hid))
    have h2 := reifyL_congr H b fun id hid => h id (by simp only [leads]; exact List.mem_append.2 (.inr hid))
    simp only [reifyV, leads, h1.1, h1.2, h2.1, h2.2, and_self]
  | .ifc t v, h => by
    have := reify_congr H v (by simpa only [leads] using h)
    simp only [reifyV, leads, this.1, this.2, and_self]
theorem reifyL_congr {f f' : PV → Option PV} {g g' : PV → List Nat} {G : Nat → Prop} (H : ∀ p, isRef p = true → (∀ id ∈ g p, G id) → f' p = f p ∧ g' p = g p) : ∀ l, (∀ id ∈ leadsL g l, G id) → reifyL f' l = reifyL f l ∧ leadsL g' l = leadsL g l
  | [], _ => ⟨rfl, rfl⟩
  | v :: l, h => by
    have h1 := reify_congr H v fun id hid => h id (by simp only [leadsL]; exact List.mem_append.2 (.inl hid))
    have h2 := reifyL_congr H l fun id hid => h id (by simp only [leadsL]; exact List.mem_append.2 (.inr hid))
    simp only [reifyL, leadsL, h1.1, h1.2, h2.1, h2.2, and_self]
end
theorem deref_er {h h' : Heap} : ∀ (n : Nat) (p : PV), isRef p = true → (∀ id ∈ leadsTo h n p, er (h'.get id) = er (h.get id)) → deref h' n p = deref h n p ∧ leadsTo h' n p = leadsTo h n p
  | 0, p, hp, _ => by cases p <;> first | exact ⟨rfl, rfl⟩ | simp [isRef] at hp
  | n + 1, p, hp, hh => by
    have ih := reifyL_congr (G := fun id => er (h'.get id) = er (h.get id)) (fun p => deref_er (h := h) (h' := h') n p)
    cases p with
    | mptr id ix off =>
      rcases harr_er' (hh id (by simp [leadsTo])) with ⟨e1, e2⟩ | ⟨b1, b2, s, es, e1, e2⟩
      · simp only [deref, leadsTo, e1, e2, and_self]
      · simp only [leadsTo, e1] at hh
        simp only [deref, leadsTo, e1, e2]
        cases he : es[ix]? with
        | none => exact ⟨rfl, rfl⟩
        | some e =>
          simp only [he] at hh ⊢
          have := ih (e.cells.drop off) fun id hid => hh id (List.mem_cons_of_mem _ hid)
          rw [this.1, this.2]; exact ⟨rfl, rfl⟩
    | msl id off len cp =>
      rcases harr_er' (hh id (by simp [leadsTo])) with ⟨e1, e2⟩ | ⟨b1, b2, s, es, e1, e2⟩
      · simp only [deref, leadsTo, e1, e2, and_self]
      · simp only [leadsTo, e1] at hh
        simp only [deref, leadsTo, e1, e2]
        have := ih ((es.drop off).take len) fun id hid => hh id (List.mem_cons_of_mem _ hid)
        rw [this.1, this.2]; exact ⟨rfl, rfl⟩
    | _ => simp [isRef] at hp
theorem leadL_er {h h' : Heap} {args : List PV} (hh : ∀ id ∈ leadL h args, er (h'.get id) = er (h.get id)) : reifyL (deref h' deep) args = reifyL (deref h deep) args ∧ leadL h' args = leadL h args :=
  reifyL_congr (G := fun id => er (h'.get id) = er (h.get id)) (fun p => deref_er deep p) args hh
/-- the changes of a call -/
theorem callRun_eff {call : CallF} {ext : ExtF} {m : Mode} {f : FuncId} {args : List PV} {h : Heap} {nx : Nat} {v : PV} {h1 : Heap} {n : Nat} (hx : callRun call ext m f args h nx = some (.val v h1 n)) (hm : m ≠ .inl) :
    ∃ T D, (callTouch m args h nx n).t = some T ∧ (callTouch m args h nx n).d = some D ∧ ∃ U : List (Nat × Option HO), h1 = puts h U ∧ (∀ u ∈ U, u.1 ∈ D ∨ (u.1 ∈ (callTouch m args h nx n).f ∧ u.2 = (h.get u.1).map fun x => ⟨true, x.o⟩)) ∧ (∀ id ∈ (callTouch m args h nx n).f, id ∈ T) ∧
      (nx ≤ n ∧ ∀ id, nx ≤ id → id < n → id ∈ D) ∧
      ∀ h', (∀ id ∈ T, er (h'.get id) = er (h.get id)) → (∀ id ∈ D, h'.get id = h.get id) → callRun call ext m f args h' nx = some (.val v (puts h' U) n) ∧ callTouch m args h' nx n = callTouch m args h nx n := by
  cases m with
  | inl => exact absurd rfl hm
  | ext =>
    simp only [callRun] at hx
    have same : ∀ h', (∀ id ∈ leadL h args, er (h'.get id) = er (h.get id)) → extCall ext f args h' = extCall ext f args h ∧ leadL h' args = leadL h args := by
      intro h' hT
      obtain ⟨e1, e2⟩ := leadL_er hT
      exact ⟨by simp only [extCall, e1], e2⟩
    split at hx
    · rename_i r hr
      cases hx
      refine ⟨_, _, rfl, rfl, [], rfl, by simp, fun _ h => h, ⟨Nat.le_refl _, fun id h1 h2 => by omega⟩, fun h' hT hD => ?_⟩
      obtain ⟨e1, e2⟩ := same h' hT
      exact ⟨by simp only [callRun, e1, hr, puts], by simp only [callTouch, e2]⟩
    · rename_i r hr
      cases hx
      refine ⟨_, _, rfl, rfl, frzH h (leadL h args), hfrzs_puts .., fun u hu => ?_, fun _ h => h, ⟨Nat.le_refl _, fun id h1 h2 => by omega⟩, fun h' hT hD => ?_⟩
      · simp only [frzH, List.mem_map] at hu
        obtain ⟨i, hi, rfl⟩ := hu
        exact .inr ⟨hi, rfl⟩
      · obtain ⟨e1, e2⟩ := same h' hT
        refine ⟨?_, by simp only [callTouch, e2]⟩
        have e3 : frzH h' (leadL h args) = frzH h (leadL h args) := by
          apply List.map_congr_left
          intro j hj
          simp only [Prod.mk.injEq, true_and]
          rcases get_er' (hT j hj) with ⟨g1, g2⟩ | ⟨b1, b2, o, g1, g2⟩
          · rw [g1, g2]
          · rw [g1, g2]; rfl
        simp only [callRun, e1, hr, e2, hfrzs_puts, e3]
    · cases hx
  | own =>
    simp only [callRun] at hx
    obtain ⟨⟨sz, es⟩, hr, he⟩ := optMap hx
    cases he
    refine ⟨_, _, rfl, rfl, [(nx, some ⟨false, .arr sz es⟩)], rfl, by simp, by simp [callTouch], ⟨by omega, fun id h1 h2 => by simp; omega⟩, fun h' hT hD => ?_⟩
    obtain ⟨e1, e2⟩ := leadL_er hT
    refine ⟨?_, by simp only [callTouch, e2]⟩
    have : ownCall ext f args h' = ownCall ext f args h := by simp only [ownCall, e1]
    simp only [callRun, this, hr, Option.map_some]; rfl
  | inn =>
    simp only [callRun] at hx
    split at hx
    case isFalse => cases hx
    rename_i hi
    split at hx
    case h_2 => cases hx
    rename_i v' h' nx' hc
    split at hx
    case isFalse => cases hx
    rename_i hle
    cases hx
    refine ⟨_, _, rfl, rfl, copH h' nx (n - nx), hcopy_puts .., fun u hu => ?_, by simp [callTouch], ⟨hle, fun id h1 h2 => ?_⟩, fun h'' hT hD => ⟨?_, rfl⟩⟩
    · have := copH_keys h' (n - nx) nx u hu
      refine .inl ?_
      simp only [List.mem_map, List.mem_range]
      exact ⟨u.1 - nx, by omega, by omega⟩
    · simp only [List.mem_map, List.mem_range]
      exact ⟨id - nx, by omega, by omega⟩
    · simp only [callRun, hi, if_true, hc, hle, hcopy_puts]
  | iso =>
    simp only [callRun] at hx
    have same : ∀ h', (∀ id ∈ leadL h args, er (h'.get id) = er (h.get id)) → isoCall call f args h' = isoCall call f args h ∧ leadL h' args = leadL h args := by
      intro h' hT
      obtain ⟨e1, e2⟩ := leadL_er hT
      exact ⟨by simp only [isoCall, e1], e2⟩
    split at hx
    · rename_i r hr
      cases hx
      refine ⟨_, _, rfl, rfl, [], rfl, by simp, fun _ h => h, ⟨Nat.le_refl _, fun id h1 h2 => by omega⟩, fun h' hT hD => ?_⟩
      obtain ⟨e1, e2⟩ := same h' hT
      exact ⟨by simp only [callRun, e1, hr, puts], by simp only [callTouch, e2]⟩
    · rename_i r hr
      cases hx
      refine ⟨_, _, rfl, rfl, frzH h (leadL h args), hfrzs_puts .., fun u hu => ?_, fun _ h => h, ⟨Nat.le_refl _, fun id h1 h2 => by omega⟩, fun h' hT hD => ?_⟩
      · simp only [frzH, List.mem_map] at hu
        obtain ⟨i, hi, rfl⟩ := hu
        exact .inr ⟨hi, rfl⟩
      · obtain ⟨e1, e2⟩ := same h' hT
        refine ⟨?_, by simp only [callTouch, e2]⟩
        have e3 : frzH h' (leadL h args) = frzH h (leadL h args) := by
          apply List.map_congr_left
          intro j hj
          simp only [Prod.mk.injEq, true_and]
          rcases get_er' (hT j hj) with ⟨g1, g2⟩ | ⟨b1, b2, o, g1, g2⟩
          · rw [g1, g2]
          · rw [g1, g2]; rfl
        simp only [callRun, e1, hr, e2, hfrzs_puts, e3]
    · cases hx
theorem ups_keys (ups : List (Nat × Option PObj)) : ∀ u ∈ upsH ups, u.1 ∈ ups.map (·.1) := by
  intro u hu
  simp only [upsH, List.mem_map] at hu
  obtain ⟨⟨i, x⟩, hi, rfl⟩ := hu
  exact List.mem_map.2 ⟨(i, x), hi, rfl⟩
/-- new numbers are among what an operation changes -/
theorem mop_new {fr : Fr} {h : Heap} {nx : Nat} {op : POp} {v : PV} {ups : List (Nat × Option PObj)} {c : Nat} (hm : mop fr h nx op = some (v, ups, c)) : c = 0 ∨ (c = 1 ∧ nx ∈ ups.map (·.1)) := by
  have mr : ∀ {x : Option PV}, MR.v x = some (v, ups, c) → c = 0 ∨ (c = 1 ∧ nx ∈ ups.map (·.1)) := fun h => .inl (MR_v h).2.2
  cases op with
  | app bytes z x y =>
    simp only [mop] at hm
    split at hm
    case h_2 => cases hm
    unfold appendTo at hm
    split at hm
    · split at hm
      · cases hm; exact .inl rfl
      · repeat' split at hm
        all_goals first | (cases hm; done) | (cases hm; exact .inr ⟨rfl, List.Mem.head _⟩)
    · split at hm
      · cases hm; exact .inl rfl
      · split at hm
        case h_2 => cases hm
        split at hm
        · cases hm; exact .inl rfl
        · split at hm
          · cases hm; exact .inr ⟨rfl, List.Mem.tail _ (List.Mem.head _)⟩
          · cases hm
    · cases hm
  | copy k x y =>
    simp only [mop] at hm
    split at hm
    case h_2 => cases hm
    unfold copyTo at hm
    split at hm
    case h_2 => cases hm
    split at hm
    · cases hm; exact .inl rfl
    · split at hm
      case h_2 => cases hm
      split at hm
      · cases hm; exact .inl rfl
      · cases hm
  | _ =>
    simp only [mop] at hm
    first
      | (cases hm; exact .inl rfl)
      | (cases hm; exact .inr ⟨rfl, List.Mem.head _⟩)
      | exact mr hm
      | (repeat' split at hm
         all_goals first | (cases hm; done) | (cases hm; exact .inl rfl) | (cases hm; exact .inr ⟨rfl, List.Mem.head _⟩) | exact mr hm)
/-- the changes of an operation that is no call within -/
theorem oneV_eff {call : CallF} {ext : ExtF} {g : PG} {nx : Nat} {fr : Fr} {h : Heap} {v : PV} {h1 : Heap} {n : Nat} {t : Touch} (hx : oneV call ext g nx fr h = some (v, h1, n, t)) :
    (t.t = none ∧ t.d = none ∧ t.f = [] ∧ g.op.mode = .inl ∧ nx ≤ n) ∨ ∃ T D, t.t = some T ∧ t.d = some D ∧ ∃ U : List (Nat × Option HO), h1 = puts h U ∧ (∀ u ∈ U, u.1 ∈ D ∨ (u.1 ∈ t.f ∧ u.2 = (h.get u.1).map fun x => ⟨true, x.o⟩)) ∧ (∀ id ∈ t.f, id ∈ T) ∧
      (nx ≤ n ∧ ∀ id, nx ≤ id → id < n → id ∈ D) ∧
      ∀ h', (∀ id ∈ T, er (h'.get id) = er (h.get id)) → (∀ id ∈ D, h'.get id = h.get id) → oneV call ext g nx fr h' = some (v, puts h' U, n, t) := by
  unfold oneV at hx
  cases hw : want fr g.guard with
  | none => rw [hw] at hx; cases hx
  | some b =>
    rw [hw] at hx
    cases b with
    | false =>
      cases hx
      refine .inr ⟨[], [], rfl, rfl, [], rfl, by simp, by simp, ⟨Nat.le_refl _, fun id h1 h2 => by omega⟩, fun h' _ _ => ?_⟩
      unfold oneV; rw [hw]; rfl
    | true =>
      simp only at hx
      have fin : ∀ {v' : PV} {h' : Heap}, opRun call ext fr h' nx g.op = some (.val v' h1 n) → True := fun _ => trivial
      cases ho : opRun call ext fr h nx g.op with
      | none => rw [ho] at hx; cases hx
      | some out =>
        rw [ho] at hx
        cases out with
        | pan a b c => cases hx
        | dfr a b => cases hx
        | val v' h1' n' =>
          simp only [Option.some.injEq, Prod.mk.injEq] at hx
          obtain ⟨rfl, rfl, rfl, rfl⟩ := hx
          have calls : ∀ (m : Mode) (f : FuncId) (args : List PV), g.op.mode = m → (∀ h', opRun call ext fr h' nx g.op = callRun call ext m f args h' nx) → (∀ h' nx', touchOf fr h' nx nx' g.op = callTouch m args h' nx nx') →
              (((touchOf fr h nx n' g.op).t = none ∧ (touchOf fr h nx n' g.op).d = none ∧ (touchOf fr h nx n' g.op).f = [] ∧ g.op.mode = .inl ∧ nx ≤ n') ∨ ∃ T D, (touchOf fr h nx n' g.op).t = some T ∧ (touchOf fr h nx n' g.op).d = some D ∧ ∃ U : List (Nat × Option HO), h1' = puts h U ∧ (∀ u ∈ U, u.1 ∈ D ∨ (u.1 ∈ (touchOf fr h nx n' g.op).f ∧ u.2 = (h.get u.1).map fun x => ⟨true, x.o⟩)) ∧ (∀ id ∈ (touchOf fr h nx n' g.op).f, id ∈ T) ∧
                (nx ≤ n' ∧ ∀ id, nx ≤ id → id < n' → id ∈ D) ∧
                ∀ h', (∀ id ∈ T, er (h'.get id) = er (h.get id)) → (∀ id ∈ D, h'.get id = h.get id) → oneV call ext g nx fr h' = some (v', puts h' U, n', touchOf fr h nx n' g.op)) := by
            intro m f args e0 e1 e2
            rw [e1] at ho
            rw [e2]
            by_cases hm : m = .inl
            · subst hm
              refine .inl ⟨rfl, rfl, rfl, e0, ?_⟩
              simp only [callRun] at ho
              split at ho
              · split at ho
                · rename_i hle; cases ho; exact hle
                · cases ho
              · cases ho
              · cases ho
            · obtain ⟨T, D, k1, k2, U, k3, k4, k5, k6, k7⟩ := callRun_eff ho hm
              refine .inr ⟨T, D, k1, k2, U, k3, k4, k5, k6, fun h' hT hD => ?_⟩
              obtain ⟨q1, q2⟩ := k7 h' hT hD
              unfold oneV
              rw [hw]
              simp only [e1, q1, e2, q2]
          have mem : special g.op = false → (((touchOf fr h nx n' g.op).t = none ∧ (touchOf fr h nx n' g.op).d = none ∧ (touchOf fr h nx n' g.op).f = [] ∧ g.op.mode = .inl ∧ nx ≤ n') ∨ ∃ T D, (touchOf fr h nx n' g.op).t = some T ∧ (touchOf fr h nx n' g.op).d = some D ∧ ∃ U : List (Nat × Option HO), h1' = puts h U ∧ (∀ u ∈ U, u.1 ∈ D ∨ (u.1 ∈ (touchOf fr h nx n' g.op).f ∧ u.2 = (h.get u.1).map fun x => ⟨true, x.o⟩)) ∧ (∀ id ∈ (touchOf fr h nx n' g.op).f, id ∈ T) ∧
                (nx ≤ n' ∧ ∀ id, nx ≤ id → id < n' → id ∈ D) ∧
                ∀ h', (∀ id ∈ T, er (h'.get id) = er (h.get id)) → (∀ id ∈ D, h'.get id = h.get id) → oneV call ext g nx fr h' = some (v', puts h' U, n', touchOf fr h nx n' g.op)) := by
            intro hs
            have eo : ∀ h', opRun call ext fr h' nx g.op = (mop fr h' nx g.op).map fun (v, ups, c) => OpOut.val v (hsets h' ups) (nx + c) := by
              intro h'; cases hg : g.op <;> first | rfl | (rw [hg] at hs; simp [special] at hs)
            have et : ∀ h' nx', touchOf fr h' nx nx' g.op = ⟨some (tch fr g.op), (mop fr h' nx g.op).map fun (_, ups, _) => ups.map (·.1), []⟩ := by
              intro h' nx'; cases hg : g.op <;> first | rfl | (rw [hg] at hs; simp [special] at hs)
            rw [eo] at ho
            obtain ⟨⟨v2, ups, c⟩, hm, he⟩ := optMap ho
            simp only [OpOut.val.injEq] at he
            obtain ⟨rfl, rfl, rfl⟩ := he
            rw [et]
            refine .inr ⟨tch fr g.op, ups.map (·.1), rfl, by simp [hm], upsH ups, hsets_puts .., fun u hu => .inl (ups_keys ups u hu), by simp, ⟨by omega, fun id h1 h2 => ?_⟩, fun h' hT hD => ?_⟩
            · rcases mop_new hm with h0 | ⟨h0, h3⟩
              · omega
              · have : id = nx := by omega
                rw [this]; exact h3
            · have hm' := mop_agree hm hT fun u hu => hD u.1 (List.mem_map.2 ⟨u, hu, rfl⟩)
              unfold oneV
              rw [hw]
              simp only [eo, et, hm', hm, Option.map_some, hsets_puts]
          cases hg : g.op with
          | call m f as => rw [← hg]; exact calls m f (as.map (·.get fr)) (by rw [hg]; rfl) (fun h' => by rw [hg]; rfl) (fun h' nx' => by rw [hg]; rfl)
          | callv m x as =>
            cases hv : x.get fr with
            | fn f a b => rw [← hg]; exact calls m f (a ++ as.map (·.get fr) ++ b) (by rw [hg]; rfl) (fun h' => by rw [hg]; simp only [opRun, hv]) (fun h' nx' => by rw [hg]; simp only [touchOf, hv])
            | _ => rw [hg] at ho; simp only [opRun, hv] at ho; cases ho
          | panic x =>
            rw [hg] at ho; simp only [opRun] at ho
            split at ho <;> cases ho
          | dfr f as => rw [hg] at ho; simp only [opRun] at ho; cases ho
          | _ => rw [← hg]; exact mem (by rw [hg]; rfl)
end Hp
end
section
namespace Hp
open Go
variable {call : CallF} {ext : ExtF}
def LexOk (x y : PG) : Prop := (∀ d, x.dst = some d → d ∉ y.looks ∧ y.dst ≠ some d) ∧ (∀ d, y.dst = some d → d ∉ x.looks)
theorem lexB_ok {x y : PG} (h : lexB x y = true) : LexOk x y := by
  unfold lexB at h
  simp only [Bool.and_eq_true] at h
  obtain ⟨h1, h2⟩ := h
  refine ⟨fun d hd => ?_, fun d hd => ?_⟩
  · rw [hd] at h1; simp at h1; exact ⟨h1.1, h1.2⟩
  · rw [hd] at h2; simpa using h2
def PairOk (x y : PG) (tx ty : Touch) : Prop := tx.clash ty = false ∨ (tx.d = some [] ∧ ty.d = some []) ∨ meets x.op y.op = true
theorem clashes_some {a b : List Nat} (h : clashes (some a) (some b) = false) : ∀ id, id ∈ a → id ∈ b → False := by
  intro id ha hb
  cases a with
  | nil => simp at ha
  | cons p a =>
    cases b with
    | nil => simp at hb
    | cons q b =>
      simp only [clashes] at h
      have := (List.any_eq_false.1 h) id ha
      simp only [List.contains_eq_mem, decide_eq_true_eq] at this
      exact this hb
theorem clashes_none {b : Option (List Nat)} (h : clashes none b = false) : b = some [] := by
  cases b with
  | none => simp [clashes] at h
  | some b => cases b with
    | nil => rfl
    | cons x l => simp [clashes] at h
theorem clashes_none' {b : Option (List Nat)} (h : clashes b none = false) : b = some [] := by
  cases b with
  | none => simp [clashes] at h
  | some b => cases b with
    | nil => rfl
    | cons x l => simp [clashes] at h
theorem clash_parts {a b : Touch} (h : a.clash b = false) : clashes a.d b.t = false ∧ clashes b.d a.t = false ∧ clashes a.d b.d = false ∧ clashes a.d (some b.f) = false ∧ clashes b.d (some a.f) = false := by
  simp only [Touch.clash, Bool.or_eq_false_iff] at h
  exact ⟨h.1.1.1.1, h.1.1.1.2, h.1.1.2, h.1.2, h.2⟩
/-- in the other order: the heap alone -/
theorem swap_heap {x y : PG} {nx ny n1 n2 : Nat} {fr : Fr} {h h1 h2 : Heap} {vx vy : PV} {tx ty : Touch} (hx : oneV call ext x nx fr h = some (vx, h1, n1, tx)) (hy : oneV call ext y ny fr h1 = some (vy, h2, n2, ty))
    (hp : tx.clash ty = false ∨ (tx.d = some [] ∧ ty.d = some [])) : ∃ h1', oneV call ext y ny fr h = some (vy, h1', n2, ty) ∧ oneV call ext x nx fr h1' = some (vx, h2, n1, tx) := by
  rcases oneV_eff hx with ⟨a1, a2, a3, _, _⟩ | ⟨T, D, a1, a2, U, rfl, a4, a5, _, a6⟩
  · -- x: a call within
    rcases hp with hp | hp
    · obtain ⟨c1, c2, c3, c4, c5⟩ := clash_parts hp
      rw [a2] at c1 c3
      have e1 := clashes_none c1
      have e2 := clashes_none c3
      rcases oneV_eff hy with ⟨b1, _⟩ | ⟨T', D', b1, b2, V, b3, b4, b5, _, b6⟩
      · rw [e1] at b1; cases b1
      · rw [e1] at b1; cases b1
        rw [e2] at b2; cases b2
        have hV : V = [] := by
          cases V with
          | nil => rfl
          | cons v V =>
            rcases b4 v (List.Mem.head _) with h | ⟨h, _⟩
            · cases h
            · exact absurd (b5 _ h) (by simp)
        subst hV
        simp only [puts] at b3 b6
        subst b3
        exact ⟨h, b6 h (by simp) (by simp), hx⟩
    · rw [a2] at hp; cases hp.1
  · rcases oneV_eff hy with ⟨b1, b2, b3, _, _⟩ | ⟨T', D', b1, b2, V, rfl, b4, b5, _, b6⟩
    · rcases hp with hp | hp
      · obtain ⟨c1, c2, c3, c4, c5⟩ := clash_parts hp
        rw [b1] at c1; rw [b2] at c2 c3
        have e2 := clashes_none' c3
        rw [a2] at e2; cases e2
        have e1 := clashes_none c2
        rw [a1] at e1; cases e1
        have hU : U = [] := by
          cases U with
          | nil => rfl
          | cons v V =>
            rcases a4 v (List.Mem.head _) with h | ⟨h, _⟩
            · cases h
            · exact absurd (a5 _ h) (by simp)
        subst hU
        simp only [puts] at a6 hy
        exact ⟨h2, hy, a6 h2 (by simp) (by simp)⟩
      · rw [b2] at hp; cases hp.2
    · -- neither
      have facts : (∀ id, id ∈ D → id ∈ T' → False) ∧ (∀ id, id ∈ D' → id ∈ T → False) ∧ (∀ id, id ∈ D → id ∈ D' → False) ∧ (∀ id, id ∈ D → id ∈ ty.f → False) ∧ (∀ id, id ∈ D' → id ∈ tx.f → False) := by
        rcases hp with hp | hp
        · obtain ⟨c1, c2, c3, c4, c5⟩ := clash_parts hp
          rw [a2, b1] at c1; rw [b2, a1] at c2; rw [a2, b2] at c3; rw [a2] at c4; rw [b2] at c5
          exact ⟨clashes_some c1, clashes_some c2, clashes_some c3, clashes_some c4, clashes_some c5⟩
        · rw [a2, b2] at hp
          obtain ⟨h1, h2⟩ := hp
          cases h1; cases h2
          exact ⟨fun _ h => (by cases h), fun _ h => (by cases h), fun _ h => (by cases h), fun _ h => (by cases h), fun _ h => (by cases h)⟩
      obtain ⟨f1, f2, f3, f4, f5⟩ := facts
      have erU : ∀ id, id ∉ D → er ((puts h U).get id) = er (h.get id) := by
        intro id hid
        refine puts_er U h id fun u hu he => ?_
        rcases a4 u hu with h0 | ⟨_, h0⟩
        · exact absurd (he ▸ h0) hid
        · rw [h0, he]; cases h.get id <;> rfl
      have hk : ∀ v ∈ V, v.1 ∈ D' ∨ (v.1 ∈ ty.f ∧ v.2 = (h.get v.1).map fun x => ⟨true, x.o⟩) := by
        intro v hv
        rcases b4 v hv with h0 | ⟨h0, h1⟩
        · exact .inl h0
        · refine .inr ⟨h0, h1.trans ?_⟩
          have := erU v.1 fun hd => f4 _ hd h0
          rcases get_er' this with ⟨g1, g2⟩ | ⟨q1, q2, o, g1, g2⟩
          · rw [g1, g2]
          · rw [g1, g2]; rfl
      have hy' : oneV call ext y ny fr h = some (vy, puts h V, n2, ty) := by
        refine b6 h (fun id hid => (erU id fun hd => f1 id hd hid).symm) fun id hid => (puts_get_ne U h id fun u hu he => ?_).symm
        rcases a4 u hu with h0 | ⟨h0, _⟩
        · exact f3 id (he ▸ h0) hid
        · exact f5 id hid (he ▸ h0)
      have erV : ∀ id, id ∉ D' → er ((puts h V).get id) = er (h.get id) := by
        intro id hid
        refine puts_er V h id fun u hu he => ?_
        rcases hk u hu with h0 | ⟨_, h0⟩
        · exact absurd (he ▸ h0) hid
        · rw [h0, he]; cases h.get id <;> rfl
      refine ⟨puts h V, hy', ?_⟩
      have hx' := a6 (puts h V) (fun id hid => erV id fun hd => f2 id hd hid) fun id hid => puts_get_ne V h id fun u hu he => by
        rcases hk u hu with h0 | ⟨h0, _⟩
        · exact f3 id hid (he ▸ h0)
        · exact f4 id hid (he ▸ h0)
      rw [hx', puts_comm V U h]
      intro v hv u hu he
      rcases hk v hv with h0 | ⟨h0, h1⟩
      · rcases a4 u hu with g0 | ⟨g0, g1⟩
        · exact (f3 u.1 g0 (he ▸ h0)).elim
        · exact (f5 v.1 h0 (he ▸ g0)).elim
      · rcases a4 u hu with g0 | ⟨g0, g1⟩
        · exact (f4 u.1 g0 (he ▸ h0)).elim
        · rw [h1, g1, he]
/-! ### a look-up, an entry made for a later store -/
theorem scEq_eq {k : SK} {a b : PV} (h : scEq k a b = some true) : a = b := by
  unfold scEq at h
  split at h
  · split at h
    · rename_i he; simp at h; rw [he, h]
    · cases h
  · simp only [Option.some.injEq] at h; rw [bytes_eq h]
  · simp at h; rw [h]
  · cases h
theorem scEqL_eq : ∀ {ks : List SK} {x y : List PV}, scEqL ks x y = some true → x = y
  | [], [], [], _ => rfl
  | k :: ks, a :: x, b :: y, h => by
    simp only [scEqL] at h
    split at h
    · rename_i p q hp hq
      simp only [Option.some.injEq, Bool.and_eq_true] at h
      obtain ⟨rfl, rfl⟩ := h
      rw [scEq_eq hp, scEqL_eq hq]
    · cases h
  | [], [], _ :: _, h => by simp [scEqL] at h
  | [], _ :: _, _, h => by simp [scEqL] at h
  | _ :: _, [], _, h => by simp [scEqL] at h
  | _ :: _, _ :: _, [], h => by simp [scEqL] at h
theorem keyEq_eq {kk : EqK} {a b : PV} (h : keyEq kk a b = some true) : a = b := by
  unfold keyEq at h
  split at h
  · exact scEq_eq h
  · rw [scEqL_eq h]
  · cases h
theorem findE_at {kk : EqK} {k : PV} : ∀ {es : List (PV × PV × Nat)} {i0 i : Nat} {v : PV} {b : Nat}, findE kk k es i0 = some (some (i, v, b)) → i0 ≤ i ∧ es[i - i0]? = some (k, v, b)
  | [], i0, i, v, b, h => by simp [findE] at h
  | (k', v', b') :: es, i0, i, v, b, h => by
    simp only [findE] at h
    split at h
    · rename_i hk
      simp only [Option.some.injEq, Prod.mk.injEq] at h
      obtain ⟨rfl, rfl, rfl⟩ := h
      rw [keyEq_eq hk]
      exact ⟨Nat.le_refl _, by simp⟩
    · obtain ⟨h1, h2⟩ := findE_at h
      refine ⟨by omega, ?_⟩
      have e : i - i0 = (i - (i0 + 1)) + 1 := by omega
      rw [e]; simpa using h2
    · cases h
theorem findE_append {kk : EqK} {k : PV} (x : List (PV × PV × Nat)) : ∀ (es : List (PV × PV × Nat)) (i0 : Nat), findE kk k es i0 = some none → findE kk k (es ++ x) i0 = findE kk k x (i0 + es.length)
  | [], i0, _ => by simp
  | (k', v', b') :: es, i0, h => by
    simp only [findE] at h
    split at h
    · cases h
    · rename_i hk
      simp only [List.cons_append, findE, hk]
      rw [findE_append x es (i0 + 1) h]
      congr 1; simp; omega
    · cases h
theorem findE_append_some {kk : EqK} {k : PV} (x : List (PV × PV × Nat)) : ∀ (es : List (PV × PV × Nat)) (i0 : Nat) (r : Nat × PV × Nat), findE kk k es i0 = some (some r) → findE kk k (es ++ x) i0 = some (some r)
  | [], i0, r, h => by simp [findE] at h
  | (k', v', b') :: es, i0, r, h => by
    simp only [findE] at h
    simp only [List.cons_append, findE]
    split at h
    · rename_i hk; exact h
    · rename_i hk; exact findE_append_some x es (i0 + 1) r h
    · cases h
theorem set_same {α : Type} : ∀ {l : List α} {i : Nat} {x : α}, l[i]? = some x → l.set i x = l
  | [], i, x, h => by simp at h
  | a :: l, 0, x, h => by simp at h; simp [h]
  | a :: l, i + 1, x, h => by simp at h; simp [set_same h]
theorem meets_some {a b : POp} (h : meets a b = true) : ∃ kk m m' k, a = .look kk false (.int .i64 0) m (.t k) ∧ b = .ment kk (.int .i64 0) m' (.t k) := by
  unfold meets at h
  split at h
  · simp only [Bool.and_eq_true, decide_eq_true_eq] at h
    obtain ⟨rfl, rfl⟩ := h
    exact ⟨_, _, _, _, rfl, rfl⟩
  · cases h
/-- the look-up sees no change -/
theorem look_ment {fr : Fr} {h : Heap} {nx ny : Nat} {kk : EqK} {m m' : Opd} {k : Nat} {vx vy : PV} {ux uy : List (Nat × Option PObj)} {cx cy : Nat}
    (hx : mop fr h nx (.look kk false (.int .i64 0) m (.t k)) = some (vx, ux, cx)) (hy : mop fr h ny (.ment kk (.int .i64 0) m' (.t k)) = some (vy, uy, cy)) :
    ux = [] ∧ cx = 0 ∧ mop fr (hsets h uy) nx (.look kk false (.int .i64 0) m (.t k)) = some (vx, [], 0) := by
  simp only [mop] at hx hy ⊢
  split at hx
  · cases hx
  rename_i hn
  rw [if_neg hn] at hy ⊢
  split at hy
  case h_2 => cases hy
  rename_i id' hm'
  split at hy
  case h_2 => cases hy
  rename_i es' clk' hg'
  have key : ∃ es2 clk2, uy = [(id', some (.map es2 clk2))] ∧ (es2 = es' ∨ (findE kk (Opd.get fr (.t k)) es' 0 = some none ∧ es2 = es' ++ [(Opd.get fr (.t k), .int .i64 0, clk')])) := by
    split at hy
    · rename_i i v b hf
      cases hy
      obtain ⟨_, h2⟩ := findE_at hf
      exact ⟨_, _, rfl, .inl (set_same (by simpa using h2))⟩
    · rename_i hf
      cases hy
      exact ⟨_, _, rfl, .inr ⟨hf, rfl⟩⟩
    · cases hy
  obtain ⟨es2, clk2, rfl, hes⟩ := key
  simp only [hsets]
  split at hx
  · cases hx; exact ⟨rfl, rfl, rfl⟩
  · rename_i id hm
    by_cases hid : id = id'
    · subst hid
      rw [hg'] at hx
      rw [hset_same]
      simp only [Option.map_some] at hx ⊢
      rcases hes with rfl | ⟨hf, rfl⟩
      · split at hx
        · cases hx; rename_i hf; exact ⟨rfl, rfl, rfl⟩
        · cases hx; exact ⟨rfl, rfl, rfl⟩
        · cases hx
      · rw [hf] at hx
        cases hx
        refine ⟨rfl, rfl, ?_⟩
        rw [findE_append _ _ _ hf]
        simp only [findE]
        cases hkk : keyEq kk (Opd.get fr (.t k)) (Opd.get fr (.t k)) with
        | none => exact absurd (by rw [hkk]; rfl) hn
        | some c => cases c <;> rfl
    · rw [hset_ne _ _ hid]
      split at hx
      · split at hx
        · cases hx; exact ⟨rfl, rfl, rfl⟩
        · cases hx; exact ⟨rfl, rfl, rfl⟩
        · cases hx
      · cases hx
  · cases hx
end Hp
end
section
namespace Hp
open Go
variable {call : CallF} {ext : ExtF}
theorem clash_none_l {t : Touch} : Touch.clash ⟨some [], some [], []⟩ t = false := by
  obtain ⟨a, b, c⟩ := t
  cases a <;> cases b <;> (try rename_i l <;> cases l) <;> simp [Touch.clash, clashes] <;> (try cases c) <;> simp [clashes]
theorem clash_none_r {t : Touch} : Touch.clash t ⟨some [], some [], []⟩ = false := by
  obtain ⟨a, b, c⟩ := t
  cases a <;> cases b <;> (try rename_i l <;> cases l) <;> simp [Touch.clash, clashes] <;> (try cases c) <;> simp [clashes]
theorem swap_meets {x y : PG} {nx ny n1 n2 : Nat} {fr : Fr} {h h1 h2 : Heap} {vx vy : PV} {tx ty : Touch} (hx : oneV call ext x nx fr h = some (vx, h1, n1, tx)) (hy : oneV call ext y ny fr h1 = some (vy, h2, n2, ty))
    (hp : meets x.op y.op = true) : ∃ h1', oneV call ext y ny fr h = some (vy, h1', n2, ty) ∧ oneV call ext x nx fr h1' = some (vx, h2, n1, tx) := by
  obtain ⟨kk, m, m', k, ex, ey⟩ := meets_some hp
  have hx0 := hx
  have hy0 := hy
  unfold oneV at hx hy
  cases hwx : want fr x.guard with
  | none => rw [hwx] at hx; cases hx
  | some bx =>
    cases hwy : want fr y.guard with
    | none => rw [hwy] at hy; cases hy
    | some b' =>
      cases bx with
      | false => rw [hwx] at hx; cases hx; exact swap_heap hx0 hy0 (.inl clash_none_l)
      | true =>
        cases b' with
        | false => rw [hwy] at hy; cases hy; exact swap_heap hx0 hy0 (.inl clash_none_r)
        | true =>
          rw [hwx] at hx; rw [hwy] at hy
          simp only [ex, ey, opRun, touchOf] at hx hy
          cases hmx : mop fr h nx (.look kk false (.int .i64 0) m (.t k)) with
          | none => rw [hmx] at hx; cases hx
          | some rx =>
            obtain ⟨v1, u1, c1⟩ := rx
            rw [hmx] at hx
            simp only [Option.map_some, Option.some.injEq, Prod.mk.injEq] at hx
            obtain ⟨rfl, rfl, rfl, rfl⟩ := hx
            have hu1 : u1 = [] ∧ c1 = 0 := by
              simp only [mop] at hmx
              repeat' split at hmx
              all_goals first | (cases hmx; done) | (cases hmx; exact ⟨rfl, rfl⟩)
            obtain ⟨rfl, rfl⟩ := hu1
            simp only [hsets] at hy hy0
            cases hmy : mop fr h ny (.ment kk (.int .i64 0) m' (.t k)) with
            | none => rw [hmy] at hy; cases hy
            | some ry =>
              obtain ⟨v2, u2, c2⟩ := ry
              rw [hmy] at hy
              simp only [Option.map_some, Option.some.injEq, Prod.mk.injEq] at hy
              obtain ⟨rfl, rfl, rfl, rfl⟩ := hy
              obtain ⟨_, _, h3⟩ := look_ment hmx hmy
              refine ⟨_, hy0, ?_⟩
              unfold oneV
              rw [hwx]
              simp only [ex, opRun, touchOf, h3, Option.map_some, hsets]
theorem dst_comm (fr : Fr) {d e : Option Nat} (v u : PV) (h : ∀ t, d = some t → e ≠ some t) : Fr.dst (Fr.dst fr d v) e u = Fr.dst (Fr.dst fr e u) d v := by
  cases d with
  | none => rfl
  | some d =>
    cases e with
    | none => rfl
    | some e => exact Fr.set_comm fr d e v u fun he => h d rfl (by rw [he])
/-- in the other order -/
theorem swap {x y : PG} {nx ny n1 n2 : Nat} {fr : Fr} {h h1 h2 : Heap} {vx vy : PV} {tx ty : Touch} (hx : oneV call ext x nx fr h = some (vx, h1, n1, tx)) (hy : oneV call ext y ny (Fr.dst fr x.dst vx) h1 = some (vy, h2, n2, ty))
    (hl : LexOk x y) (hp : PairOk x y tx ty) : ∃ h1', oneV call ext y ny fr h = some (vy, h1', n2, ty) ∧ oneV call ext x nx (Fr.dst fr y.dst vy) h1' = some (vx, h2, n1, tx) ∧
      Fr.dst (Fr.dst fr x.dst vx) y.dst vy = Fr.dst (Fr.dst fr y.dst vy) x.dst vx := by
  rw [oneV_same (same_dst fun t ht => (hl.1 t ht).1)] at hy
  have main : ∃ h1', oneV call ext y ny fr h = some (vy, h1', n2, ty) ∧ oneV call ext x nx fr h1' = some (vx, h2, n1, tx) := by
    rcases hp with hp | hp | hp
    · exact swap_heap hx hy (.inl hp)
    · exact swap_heap hx hy (.inr hp)
    · exact swap_meets hx hy hp
  obtain ⟨h1', k1, k2⟩ := main
  refine ⟨h1', k1, ?_, dst_comm fr vx vy fun t ht => (hl.1 t ht).2⟩
  rw [oneV_same (same_dst fun t ht => hl.2 t ht)]
  exact k2
/-! ### a list of operations, each with its numbers -/
structure It where
  i : Nat
  g : PG
  n : Nat
  n' : Nat
  t : Touch
def runR (call : CallF) (ext : ExtF) : List It → Fr → Heap → Fr → Heap → Prop
  | [], fr, h, fr', h' => fr = fr' ∧ h = h'
  | x :: l, fr, h, fr', h' => ∃ v h1, oneV call ext x.g x.n fr h = some (v, h1, x.n', x.t) ∧ runR call ext l (Fr.dst fr x.g.dst v) h1 fr' h'
/-- in either order -/
def Free2 (x y : It) : Prop := LexOk x.g y.g ∧ PairOk x.g y.g x.t y.t
/-- the first that may go first -/
theorem runR_front : ∀ (A : List It) (x : It) (B : List It) (fr : Fr) (h : Heap) (fr' : Fr) (h' : Heap), runR call ext (A ++ x :: B) fr h fr' h' → (∀ a ∈ A, Free2 a x) →
    ∃ v h1, oneV call ext x.g x.n fr h = some (v, h1, x.n', x.t) ∧ runR call ext (A ++ B) (Fr.dst fr x.g.dst v) h1 fr' h'
  | [], x, B, fr, h, fr', h', hr, _ => hr
  | a :: A, x, B, fr, h, fr', h', hr, hf => by
    obtain ⟨va, h1, ha, hr⟩ := hr
    obtain ⟨v, h2, hx, hr⟩ := runR_front A x B _ _ _ _ hr fun b hb => hf b (List.Mem.tail _ hb)
    obtain ⟨hl, hp⟩ := hf a (List.Mem.head _)
    obtain ⟨h1', k1, k2, k3⟩ := swap ha hx hl hp
    refine ⟨v, h1', k1, va, h2, k2, ?_⟩
    rw [← k3]; exact hr
/-- an operation's numbers are among what it changes -/
def It.ok (x : It) : Prop := x.n ≤ x.n' ∧ ((x.t.d = none ∧ x.t.t = none ∧ x.g.op.mode = .inl) ∨ ∃ D, x.t.d = some D ∧ ∀ id, x.n ≤ id → id < x.n' → id ∈ D)
theorem oneV_ok {x : It} {fr : Fr} {h h1 : Heap} {v : PV} (hx : oneV call ext x.g x.n fr h = some (v, h1, x.n', x.t)) : x.ok := by
  rcases oneV_eff hx with ⟨a1, a2, a3, a4, a5⟩ | ⟨T, D, a1, a2, U, _, _, _, a5, _⟩
  · exact ⟨a5, .inl ⟨a2, a1, a4⟩⟩
  · exact ⟨a5.1, .inr ⟨D, a2, a5.2⟩⟩
/-- it ran so, somewhere -/
def It.ran (call : CallF) (ext : ExtF) (x : It) : Prop := ∃ fr h v h1, oneV call ext x.g x.n fr h = some (v, h1, x.n', x.t)
/-- the list of a region's operations, with what each came to -/
theorem drawn_runR : ∀ (l : List PG) (i : Nat) (fr : Fr) (h : Heap) (nx : Nat) (fr' : Fr) (h' : Heap) (nx' : Nat) (ts : List Touch), drawn call ext l fr h nx = some (fr', h', nx', ts) →
    ∃ L : List It, runR call ext L fr h fr' h' ∧ L.map (·.g) = l ∧ L.map (·.t) = ts ∧ L.map (·.i) = List.range' i l.length ∧
      nx ≤ nx' ∧ (∀ x ∈ L, nx ≤ x.n ∧ x.n' ≤ nx' ∧ x.ran call ext) ∧ (L.Pairwise fun x y => x.n' ≤ y.n)
  | [], i, fr, h, nx, fr', h', nx', ts, hd => by
    simp only [drawn, Option.some.injEq, Prod.mk.injEq] at hd
    obtain ⟨rfl, rfl, rfl, rfl⟩ := hd
    exact ⟨[], ⟨rfl, rfl⟩, rfl, rfl, rfl, Nat.le_refl _, by simp, .nil⟩
  | g :: l, i, fr, h, nx, fr', h', nx', ts, hd => by
    simp only [drawn] at hd
    split at hd
    case h_2 => cases hd
    rename_i fr1 h1 n1 t h1'
    split at hd
    case h_2 => cases hd
    rename_i fr2 h2 n2 ts' h2'
    simp only [Option.some.injEq, Prod.mk.injEq] at hd
    obtain ⟨rfl, rfl, rfl, rfl⟩ := hd
    rw [one_eq] at h1'
    obtain ⟨⟨v, h3, n3, t3⟩, e1, e2⟩ := optMap h1'
    simp only [Prod.mk.injEq] at e2
    obtain ⟨rfl, rfl, rfl, rfl⟩ := e2
    obtain ⟨L, q1, q2, q3, q4, q5, q6, q7⟩ := drawn_runR l (i + 1) _ _ _ _ _ _ _ h2'
    have hok : It.ok ⟨i, g, nx, n3, t3⟩ := oneV_ok (x := ⟨i, g, nx, n3, t3⟩) e1
    have hle := hok.1
    simp only at hle
    refine ⟨⟨i, g, nx, n3, t3⟩ :: L, ⟨v, h3, e1, q1⟩, by simp [q2], by simp [q3], ?_, by omega, fun x hx => ?_, ?_⟩
    · simp only [List.map_cons, q4, List.length_cons, List.range'_succ]
    · rcases List.mem_cons.1 hx with rfl | hx
      · exact ⟨Nat.le_refl _, q5, _, _, _, _, e1⟩
      · obtain ⟨r1, r2, r3⟩ := q6 x hx
        exact ⟨by omega, r2, r3⟩
    · exact List.pairwise_cons.2 ⟨fun y hy => (q6 y hy).1, q7⟩
end Hp
end
section
namespace Hp
open Go
variable {call : CallF} {ext : ExtF}
def bmask (acc : Array Nat) (s : Nat) (e : Edge) : Nat := if Region.binds .any e then s ||| 2 ^ e.on ||| acc.getD e.on 0 else s
theorem bmask_fold (acc : Array Nat) (j : Nat) : ∀ (l : List Edge) (s : Nat), (l.foldl (bmask acc) s).testBit j = true → s.testBit j = true ∨ ∃ e ∈ l, Region.binds .any e = true ∧ (e.on = j ∨ (acc.getD e.on 0).testBit j = true)
  | [], s, h => .inl h
  | e :: l, s, h => by
    rw [List.foldl_cons] at h
    rcases bmask_fold acc j l _ h with h1 | ⟨e', h1, h2⟩
    · unfold bmask at h1
      split at h1
      · rename_i hb
        rw [Nat.testBit_or, Nat.testBit_or, Bool.or_eq_true, Bool.or_eq_true] at h1
        rcases h1 with (h1 | h1) | h1
        · exact .inl h1
        · rw [Nat.testBit_two_pow] at h1
          exact .inr ⟨e, List.Mem.head _, hb, .inl (by simpa using h1)⟩
        · exact .inr ⟨e, List.Mem.head _, hb, .inr h1⟩
      · exact .inl h1
    · exact .inr ⟨e', List.Mem.tail _ h1, h2⟩
def bpush (acc : Array Nat) (o : Oper) : Array Nat := acc.push (o.after.toList.foldl (bmask acc) 0)
theorem before_eq (ops : Array Oper) : Region.before ops = ops.toList.foldl bpush #[] := by
  unfold Region.before
  rw [← Array.foldl_toList]
  congr 1
  funext acc o
  unfold bpush
  rw [← Array.foldl_toList]
  rfl
theorem bfold_keep : ∀ (l : List Oper) (acc : Array Nat) (i : Nat), i < acc.size → (l.foldl bpush acc).getD i 0 = acc.getD i 0
  | [], _, _, _ => rfl
  | o :: l, acc, i, hi => by
    rw [List.foldl_cons, bfold_keep l (bpush acc o) i (by simp [bpush]; omega)]
    simp [bpush, Array.getD_eq_getD_getElem?, Array.getElem?_push, Nat.ne_of_lt hi]
theorem bfold_spec : ∀ (l : List Oper) (acc : Array Nat) (i j : Nat), acc.size ≤ i → ((l.foldl bpush acc).getD i 0).testBit j = true →
    ∃ o, l[i - acc.size]? = some o ∧ ∃ e ∈ o.after.toList, Region.binds .any e = true ∧ (e.on = j ∨ ((l.foldl bpush acc).getD e.on 0).testBit j = true)
  | [], acc, i, j, hi, h => by
    simp [Array.getD_eq_getD_getElem?, Array.getElem?_eq_none hi] at h
  | o :: l, acc, i, j, hi, h => by
    rw [List.foldl_cons] at h ⊢
    by_cases he : i = acc.size
    · subst he
      rw [bfold_keep l _ _ (by simp [bpush])] at h
      have h0 : (bpush acc o).getD acc.size 0 = o.after.toList.foldl (bmask acc) 0 := by simp [bpush, Array.getD_eq_getD_getElem?]
      rw [h0] at h
      rcases bmask_fold acc j _ 0 h with h1 | ⟨e, h1, h2, h3⟩
      · simp at h1
      · refine ⟨o, by simp, e, h1, h2, h3.imp id fun h4 => ?_⟩
        have hlt : e.on < acc.size := by
          rcases Nat.lt_or_ge e.on acc.size with h5 | h5
          · exact h5
          · simp [Array.getD_eq_getD_getElem?, Array.getElem?_eq_none h5] at h4
        rw [bfold_keep l _ _ (by simp [bpush]; omega)]
        have : (bpush acc o).getD e.on 0 = acc.getD e.on 0 := by simp [bpush, Array.getD_eq_getD_getElem?, Array.getElem?_push, Nat.ne_of_lt hlt]
        rw [this]; exact h4
    · obtain ⟨o', h1, h2⟩ := bfold_spec l (bpush acc o) i j (by simp [bpush]; omega) h
      refine ⟨o', ?_, h2⟩
      have e : i - acc.size = (i - (bpush acc o).size) + 1 := by simp [bpush]; omega
      rw [e]; simpa using h1
theorem before_spec {ops : Array Oper} {i j : Nat} (h : ((Region.before ops).getD i 0).testBit j = true) : ∃ o, ops[i]? = some o ∧ ∃ e ∈ o.after.toList, Region.binds .any e = true ∧ (e.on = j ∨ ((Region.before ops).getD e.on 0).testBit j = true) := by
  rw [before_eq] at h ⊢
  obtain ⟨o, h1, h2⟩ := bfold_spec ops.toList #[] i j (Nat.zero_le _) h
  exact ⟨o, by simpa using h1, h2⟩
end Hp
end
section
namespace Hp
open Go
variable {call : CallF} {ext : ExtF}
theorem It.ran.isOk {x : It} (h : x.ran call ext) : x.ok := by
  obtain ⟨fr, hh, v, h1, hx⟩ := h
  exact oneV_ok hx
theorem mop_kind {fr : Fr} {h : Heap} {nx : Nat} {op : POp} {v : PV} {ups : List (Nat × Option PObj)} {c : Nat} (hm : mop fr h nx op = some (v, ups, c)) : (kindOf op = 0 → tch fr op = [] ∧ ups = []) ∧ (kindOf op = 1 → ups = []) := by
  have mr : ∀ {x : Option PV}, MR.v x = some (v, ups, c) → ups = [] := fun h => (MR_v h).2.1
  cases op with
  | call m f as => cases hm
  | callv m f as => cases hm
  | panic x => cases hm
  | dfr f as => cases hm
  | _ =>
    refine ⟨fun hk => ?_, fun hk => ?_⟩
    all_goals first
      | (simp [kindOf] at hk; done)
      | skip
    all_goals
      simp only [mop] at hm
      first
        | exact ⟨rfl, mr hm⟩
        | exact mr hm
        | (cases hm; exact ⟨rfl, rfl⟩)
        | (cases hm; rfl)
        | (repeat' split at hm
           all_goals first | (cases hm; done) | (cases hm; exact ⟨rfl, rfl⟩) | (cases hm; rfl) | exact ⟨rfl, mr hm⟩ | exact mr hm)
theorem ran_kind {x : It} (h : x.ran call ext) : (kindOf x.g.op = 0 → x.t = ⟨some [], some [], []⟩) ∧ (kindOf x.g.op = 1 → x.t.d = some []) := by
  obtain ⟨fr, hh, v, h1, hx⟩ := h
  unfold oneV at hx
  cases hw : want fr x.g.guard with
  | none => rw [hw] at hx; cases hx
  | some b =>
    rw [hw] at hx
    cases b with
    | false =>
      simp only [Option.some.injEq, Prod.mk.injEq] at hx
      obtain ⟨_, _, _, ht⟩ := hx
      rw [← ht]; exact ⟨fun _ => rfl, fun _ => rfl⟩
    | true =>
      simp only at hx
      cases ho : opRun call ext fr hh x.n x.g.op with
      | none => rw [ho] at hx; cases hx
      | some out =>
        rw [ho] at hx
        cases out with
        | pan a b c => cases hx
        | dfr a b => cases hx
        | val v' h1' n' =>
          simp only [Option.some.injEq, Prod.mk.injEq] at hx
          obtain ⟨rfl, rfl, hn, ht⟩ := hx
          rw [← ht]
          by_cases hs : special x.g.op = true
          · refine ⟨fun hk => ?_, fun hk => ?_⟩
            · cases hg : x.g.op with
              | panic y => rw [hg] at hk; simp [kindOf] at hk
              | dfr f as => rw [hg] at hk; simp [kindOf] at hk
              | call m f as => rw [hg] at hk; cases m <;> simp [kindOf] at hk
              | callv m f as => rw [hg] at hk; cases m <;> simp [kindOf] at hk
              | _ => rw [hg] at hs; simp [special] at hs
            · cases hg : x.g.op with
              | panic y => rw [hg] at hk; simp [kindOf] at hk
              | dfr f as => rw [hg] at hk; simp [kindOf] at hk
              | call m f as => rw [hg] at hk; cases m <;> first | (simp [kindOf] at hk; done) | rfl
              | callv m f as =>
                rw [hg] at ho hk
                cases hv : f.get fr with
                | fn a b c => simp only [touchOf, hv]; cases m <;> first | (simp [kindOf] at hk; done) | rfl
                | _ => simp only [opRun, hv] at ho; cases ho
              | _ => rw [hg] at hs; simp [special] at hs
          · have hs' : special x.g.op = false := by simpa using hs
            have eo : opRun call ext fr hh x.n x.g.op = (mop fr hh x.n x.g.op).map fun (v, ups, c) => OpOut.val v (hsets hh ups) (x.n + c) := by
              cases hg : x.g.op <;> first | rfl | (rw [hg] at hs'; simp [special] at hs')
            have et : touchOf fr hh x.n n' x.g.op = ⟨some (tch fr x.g.op), (mop fr hh x.n x.g.op).map fun (_, ups, _) => ups.map (·.1), []⟩ := by
              cases hg : x.g.op <;> first | rfl | (rw [hg] at hs'; simp [special] at hs')
            rw [eo] at ho
            obtain ⟨⟨v2, ups, c⟩, hm, _⟩ := optMap ho
            rw [et, hm]
            obtain ⟨k0, k1⟩ := mop_kind hm
            refine ⟨fun hk => ?_, fun hk => ?_⟩
            · obtain ⟨e1, e2⟩ := k0 hk; rw [e1, e2]; rfl
            · rw [k1 hk]; rfl
end Hp
end
section
namespace Hp
open Go
variable {P : Program} {τ : Tb} {w w' : World} {F : Fx τ} {ρ ρ' : Rho} {call : CallF} {ext : ExtF}
theorem apart_mem {ts : List Touch} : ∀ {un : List (Nat × Nat)} {i j : Nat}, apart ts un = true → (i, j) ∈ un → ∃ a b, ts[i]? = some a ∧ ts[j]? = some b ∧ a.clash b = false
  | [], _, _, _, h => by cases h
  | (p, q) :: un, i, j, h, hm => by
    simp only [apart, Bool.and_eq_true] at h
    rcases List.mem_cons.1 hm with he | hm
    · cases he
      have h1 := h.1
      split at h1
      · rename_i a b ha hb; exact ⟨a, b, ha, hb, by simpa using h1⟩
      · cases h1
    · exact apart_mem h.2 hm
theorem pairs_free {bf : Array Nat} {l : List PG} {L : List It} (hg : L.map (·.g) = l) (hran : ∀ x ∈ L, x.ran call ext) (hp : pairsOk bf l = true) (ha : apart (L.map (·.t)) (unordered bf (l.map (·.op))) = true)
    {i j : Nat} (hj : j < L.length) (hij : i < j) (hb : (bf.getD j 0).testBit i = false) : Free2 (L[i]'(by omega)) L[j] := by
  have hlen : l.length = L.length := by rw [← hg]; simp
  have hgi : ∀ k (hk : k < L.length), l.getD k default = L[k].g := by
    intro k hk
    subst hg
    simp [List.getD, hk]
  have hoi : ∀ k (hk : k < L.length), (l.map (·.op)).getD k .mkmap = L[k].g.op := by
    intro k hk
    subst hg
    simp [List.getD, hk]
  refine ⟨?_, ?_⟩
  · have := hp
    simp only [pairsOk, List.all_eq_true, List.mem_range] at this
    have := this j (by omega) i hij
    rw [hb, hgi i (by omega), hgi j hj] at this
    exact lexB_ok (by simpa using this)
  · have hri := hran (L[i]'(by omega)) (List.getElem_mem _)
    have hrj := hran L[j] (List.getElem_mem _)
    by_cases hm : meets (L[i]'(by omega)).g.op L[j].g.op = true
    · exact .inr (.inr hm)
    by_cases hn : needs (kindOf (L[i]'(by omega)).g.op) (kindOf L[j].g.op) = true
    · have hun : (i, j) ∈ unordered bf (l.map (·.op)) := by
        simp only [unordered, List.mem_flatMap, List.mem_range, List.mem_filterMap, List.length_map]
        refine ⟨j, by omega, i, hij, ?_⟩
        rw [hoi i (by omega), hoi j hj, hb, hn]
        simp [hm]
      obtain ⟨a, b, h1, h2, h3⟩ := apart_mem ha hun
      simp only [List.getElem?_map] at h1 h2
      rw [List.getElem?_eq_getElem (by omega)] at h1 h2
      simp only [Option.map_some, Option.some.injEq] at h1 h2
      rw [h1, h2]; exact .inl h3
    · have hn : needs (kindOf (L[i]'(by omega)).g.op) (kindOf L[j].g.op) = false := by simpa using hn
      simp only [needs, Bool.or_eq_false_iff, Bool.and_eq_false_iff, decide_eq_false_iff_not] at hn
      obtain ⟨ki0, ki1⟩ := ran_kind hri
      obtain ⟨kj0, kj1⟩ := ran_kind hrj
      by_cases h0 : kindOf (L[i]'(by omega)).g.op = 0
      · rw [ki0 h0]; exact .inl clash_none_l
      · by_cases h0' : kindOf L[j].g.op = 0
        · rw [kj0 h0']; exact .inl clash_none_r
        · exact .inr (.inl ⟨ki1 (by omega), kj1 (by omega)⟩)
theorem Inv.reU {F F' : Fx τ} {h : Heap} {nx nx' : Nat} (hi : Inv w F ρ h nx) (hb : F'.blk = F.blk) (hu : ∀ id, F.used nx id → F'.used nx' id) (hl : F'.lo ≤ nx') : Inv w F' ρ h nx' := by
  have hN : NN F' h ρ = NN F h ρ := by funext b; simp only [NN, hb]
  exact ⟨fun id x hx => by rw [hN]; exact hi.obj id x hx, fun id x l hx hf hl => by rw [hN]; exact hi.fz id x l hx hf hl, hi.inj, fun id x hx => hu id (hi.idh id x hx), fun id l hl => hu id (hi.idr id l hl), hl, hi.blk,
    fun b h => hi.fF b (hb ▸ h), fun b ho h => hi.disj b ho (hb ▸ h), hi.tb⟩
theorem ready_mem {all : Array Oper} {listed : Array Bool} {i : Nat} (h : i ∈ Region.ready .any all listed) : i < all.size ∧ listed.getD i true = false ∧ ∃ o, all[i]? = some o ∧ ∀ e ∈ o.after.toList, Region.binds .any e = true → listed.getD e.on false = true := by
  simp only [Region.ready, List.mem_filter, List.mem_range, Bool.and_eq_true] at h
  obtain ⟨h1, h2, h3⟩ := h
  refine ⟨h1, by simpa using h2, all[i], by simp [h1], fun e he hb => ?_⟩
  rw [Array.getElem?_eq_getElem h1] at h3
  simp only [Option.map_some, Option.getD_some] at h3
  rw [← Array.all_toList, List.all_eq_true] at h3
  have := h3 e he
  rw [hb] at this
  simpa using this
theorem mem_ready {all : Array Oper} {listed : Array Bool} {i : Nat} (h1 : i < all.size) (h2 : listed.getD i true = false) (h3 : ∀ o, all[i]? = some o → ∀ e ∈ o.after.toList, Region.binds .any e = true → listed.getD e.on false = true) : i ∈ Region.ready .any all listed := by
  simp only [Region.ready, List.mem_filter, List.mem_range, Bool.and_eq_true]
  refine ⟨h1, by simpa using h2, ?_⟩
  rw [Array.getElem?_eq_getElem h1]
  simp only [Option.map_some, Option.getD_some]
  rw [← Array.all_toList, List.all_eq_true]
  intro e he
  cases hb : Region.binds .any e with
  | false => rfl
  | true => simpa using h3 _ (Array.getElem?_eq_getElem h1) e he hb
theorem drawOk_back {all : Array Oper} (h : drawOk all = true) {i : Nat} {o : Oper} (ho : all[i]? = some o) {e : Edge} (he : e ∈ o.after.toList) (hb : Region.binds .any e = true) : e.on < i := by
  unfold drawOk at h
  simp only [Bool.and_eq_true] at h
  have h2 := h.2
  rw [Array.all_eq_true] at h2
  have hi : i < all.size := by
    rcases Nat.lt_or_ge i all.size with h | h
    · exact h
    · simp [Array.getElem?_eq_none h] at ho
  have := h2 i (by simpa using hi)
  simp only [Array.getElem_zipIdx, Nat.zero_add, Bool.and_eq_true] at this
  have h3 := this.1
  rw [← Array.all_toList, List.all_eq_true] at h3
  rw [Array.getElem?_eq_getElem hi] at ho
  cases ho
  have := h3 e he
  rw [hb] at this
  simpa using this
end Hp
end
section
namespace Hp
open Go
variable {P : Program} {τ : Tb} {w w' : World} {F : Fx τ} {ρ ρ' : Rho} {call : CallF} {ext : ExtF}
/-- in the midst of a region: numbers taken in any order -/
structure StU (P : Program) (w : World) (F : Fx τ) (U : Nat → Prop) (ρ : Rho) (fr : Fr) (h : Heap) (df : List (FuncId × List PV)) (a : Act) (nt : Nat) : Prop where
  inv : Inv w (⟨F.blk, U, 0⟩ : Fx τ) ρ h 0
  fr : FrRel w (NN F h ρ) ρ fr a.tmps
  df : DefsRel P w (NN F h ρ) ρ df a.defers
  nt : nt ≤ a.tmps.size
theorem used0 {b : Nat → Prop} {U : Nat → Prop} {id : Nat} : (Fx.mk (τ := τ) b U 0).used 0 id ↔ U id := ⟨fun h => h.elim (fun h => h) fun h => absurd h.2 (Nat.not_lt_zero _), .inl⟩
/-- what an item is, in a region's list -/
structure Rest (bf : Array Nat) (all : Array Oper) (P : Program) (A : Ann) (call : CallF) (ext : ExtF) (F : Fx τ) (T : Nat) (U : Nat → Prop) (R : List It) : Prop where
  lt : ∀ x ∈ R, x.i < all.size
  ran : ∀ x ∈ R, x.ran call ext
  op : ∀ x ∈ R, ∃ o, all[x.i]? = some o ∧ rPG P A all o = some x.g
  pair : R.Pairwise fun x y => x.i < y.i ∧ x.n' ≤ y.n ∧ ((bf.getD y.i 0).testBit x.i = false → Free2 x y)
  fresh : ∀ x ∈ R, ∀ id, x.n ≤ id → id < x.n' → ¬ U id
  below : ∀ x ∈ R, x.t.d = none → ∀ id, U id → id < x.n
  lo : ∀ x ∈ R, F.lo ≤ x.n
  ulo : ∀ id, U id → F.lo ≤ id
  top : ∀ x ∈ R, x.n' ≤ T
  utop : ∀ id, U id → id < T
theorem meets_mode {a b : POp} (h : meets a b = true) : a.mode ≠ .inl ∧ b.mode ≠ .inl := by
  obtain ⟨kk, m, m', k, rfl, rfl⟩ := meets_some h
  exact ⟨by simp [POp.mode], by simp [POp.mode]⟩
/-- beside a call within, an operation takes no number -/
theorem free_inl_r {x y : It} (hf : Free2 x y) (hx : x.ok) (hy : y.ok) (hd : y.t.d = none) : x.t.d = some [] := by
  have hyi : y.t.t = none ∧ y.g.op.mode = .inl := by
    rcases hy.2 with ⟨_, h2, h3⟩ | ⟨D, h1, _⟩
    · exact ⟨h2, h3⟩
    · rw [hd] at h1; cases h1
  rcases hf.2 with hc | ⟨_, h2⟩ | hm
  · obtain ⟨c1, c2, c3, c4, c5⟩ := clash_parts hc
    rw [hd] at c3
    exact clashes_none' c3
  · rw [hd] at h2; cases h2
  · exact absurd hyi.2 (meets_mode hm).2
theorem free_inl_l {x y : It} (hf : Free2 x y) (hx : x.ok) (hy : y.ok) (hd : x.t.d = none) : y.t.d = some [] := by
  have hxi : x.t.t = none ∧ x.g.op.mode = .inl := by
    rcases hx.2 with ⟨_, h2, h3⟩ | ⟨D, h1, _⟩
    · exact ⟨h2, h3⟩
    · rw [hd] at h1; cases h1
  rcases hf.2 with hc | ⟨h2, _⟩ | hm
  · obtain ⟨c1, c2, c3, c4, c5⟩ := clash_parts hc
    rw [hd] at c3
    exact clashes_none c3
  · rw [hd] at h2; cases h2
  · exact absurd hxi.2 (meets_mode hm).1
theorem ok_empty {x : It} (hx : x.ok) (hd : x.t.d = some []) : x.n = x.n' := by
  rcases hx.2 with ⟨h, _⟩ | ⟨D, h1, h2⟩
  · rw [hd] at h; cases h
  · rw [hd] at h1; cases h1
    rcases Nat.lt_or_ge x.n x.n' with h | h
    · exact absurd (h2 x.n (Nat.le_refl _) h) (by simp)
    · have := hx.1; omega
/-- an item taken out of the midst -/
theorem Rest.out {T : Nat} {bf : Array Nat} {all : Array Oper} {A : Ann} {U : Nat → Prop} {X Y : List It} {x : It} (hR : Rest bf all P A call ext F T U (X ++ x :: Y)) (hfree : ∀ a ∈ X, Free2 a x) :
    Rest bf all P A call ext F T (fun id => U id ∨ (x.n ≤ id ∧ id < x.n')) (X ++ Y) := by
  have sub : ∀ y ∈ X ++ Y, y ∈ X ++ x :: Y := by
    intro y hy
    rcases List.mem_append.1 hy with h | h
    · exact List.mem_append.2 (.inl h)
    · exact List.mem_append.2 (.inr (List.Mem.tail _ h))
  have hxm : x ∈ X ++ x :: Y := List.mem_append.2 (.inr (List.Mem.head _))
  have hx := (hR.ran x hxm).isOk
  have hpw := List.pairwise_append.1 hR.pair
  have hpw2 := List.pairwise_cons.1 hpw.2.1
  have hX : ∀ y ∈ X, y.n' ≤ x.n := fun y hy => (hpw.2.2 y hy x (List.Mem.head _)).2.1
  have hY : ∀ y ∈ Y, x.n' ≤ y.n := fun y hy => (hpw2.1 y hy).2.1
  refine ⟨fun y hy => hR.lt y (sub y hy), fun y hy => hR.ran y (sub y hy), fun y hy => hR.op y (sub y hy), ?_, fun y hy id h1 h2 hU => ?_, fun y hy hd id hU => ?_, fun y hy => hR.lo y (sub y hy), fun id hU => ?_, fun y hy => hR.top y (sub y hy), fun id hU => hU.elim (hR.utop id) fun h => Nat.lt_of_lt_of_le h.2 (hR.top x hxm)⟩
  · exact List.pairwise_append.2 ⟨hpw.1, hpw2.2, fun a ha b hb => hpw.2.2 a ha b (List.Mem.tail _ hb)⟩
  · rcases hU with hU | hU
    · exact hR.fresh y (sub y hy) id h1 h2 hU
    · rcases List.mem_append.1 hy with h | h
      · have := hX y h; omega
      · have := hY y h; omega
  · rcases hU with hU | hU
    · exact hR.below y (sub y hy) hd id hU
    · have hyo := (hR.ran y (sub y hy)).isOk
      rcases List.mem_append.1 hy with h | h
      · have := ok_empty hx (free_inl_l (hfree y h) hyo hx hd); omega
      · have := hY y h; omega
  · rcases hU with hU | hU
    · exact hR.ulo id hU
    · have := hR.lo x hxm; omega
theorem Rest.outInl {T : Nat} {bf : Array Nat} {all : Array Oper} {A : Ann} {U : Nat → Prop} {X Y : List It} {x : It} (hR : Rest bf all P A call ext F T U (X ++ x :: Y)) (hfree : ∀ a ∈ X, Free2 a x) (hd : x.t.d = none) :
    Rest bf all P A call ext F T (fun id => F.lo ≤ id ∧ id < x.n') (X ++ Y) := by
  have sub : ∀ y ∈ X ++ Y, y ∈ X ++ x :: Y := by
    intro y hy
    rcases List.mem_append.1 hy with h | h
    · exact List.mem_append.2 (.inl h)
    · exact List.mem_append.2 (.inr (List.Mem.tail _ h))
  have hxm : x ∈ X ++ x :: Y := List.mem_append.2 (.inr (List.Mem.head _))
  have hx := (hR.ran x hxm).isOk
  have hpw := List.pairwise_append.1 hR.pair
  have hpw2 := List.pairwise_cons.1 hpw.2.1
  have hY : ∀ y ∈ Y, x.n' ≤ y.n := fun y hy => (hpw2.1 y hy).2.1
  have hX : ∀ y ∈ X, y.t.d = some [] := fun y hy => free_inl_r (hfree y hy) (hR.ran y (List.mem_append.2 (.inl hy))).isOk hx hd
  refine ⟨fun y hy => hR.lt y (sub y hy), fun y hy => hR.ran y (sub y hy), fun y hy => hR.op y (sub y hy), ?_, fun y hy id h1 h2 hU => ?_, fun y hy hd' id hU => ?_, fun y hy => hR.lo y (sub y hy), fun id hU => hU.1, fun y hy => hR.top y (sub y hy), fun id hU => Nat.lt_of_lt_of_le hU.2 (hR.top x hxm)⟩
  · exact List.pairwise_append.2 ⟨hpw.1, hpw2.2, fun a ha b hb => hpw.2.2 a ha b (List.Mem.tail _ hb)⟩
  · rcases List.mem_append.1 hy with h | h
    · have := ok_empty (hR.ran y (sub y hy)).isOk (hX y h); omega
    · have := hY y h; omega
  · rcases List.mem_append.1 hy with h | h
    · rw [hX y h] at hd'; cases hd'
    · have := hY y h; omega
theorem getset (listed : Array Bool) (i j : Nat) : (listed.setIfInBounds i true).getD j true = if j = i then true else listed.getD j true := by
  simp only [Array.getD_eq_getD_getElem?]
  by_cases he : j = i
  · subst he
    rw [if_pos rfl]
    by_cases hl : j < listed.size
    · simp [hl]
    · simp [Array.getElem?_eq_none (Nat.not_lt.1 hl)]
  · rw [if_neg he, Array.getElem?_setIfInBounds_ne (Ne.symm he)]
/-- every order that the edges leave -/
theorem any_sim (hc : CallSim P τ call) (he : ExtOk P τ ext) (hF : ∀ id, ¬ F.ids id) {A : Ann} {T : Nat} {all : Array Oper} (hback : drawOk all = true) {Q : Exit → Act → World → Prop} {fr' : Fr} {h' : Heap} {df : List (FuncId × List PV)} :
    ∀ (fuel : Nat) (R : List It) (listed : Array Bool) (U : Nat → Prop) (fr : Fr) (h : Heap) (w : World) (ρ : Rho) (a : Act), R.length = fuel → listed.size = all.size →
      (∀ i, i < all.size → (listed.getD i true = false ↔ i ∈ R.map (·.i))) →
      (∀ k, k < all.size → listed.getD k true = true → ∀ j, j < all.size → ((Region.before all).getD k 0).testBit j = true → listed.getD j true = true) →
      Rest (Region.before all) all P A call ext F T U R → StU P w F U ρ fr h df a A.nt → runR call ext R fr h fr' h' →
      (∀ a' w' ρ' U', StU P w' F U' ρ' fr' h' df a' A.nt → Rest (Region.before all) all P A call ext F T U' [] → Grow w h ρ w' h' ρ' → Q .normal a' w') → wpAny P .any all Q fuel listed a w := by
  intro fuel
  induction fuel with
  | zero =>
    intro R listed U fr h w ρ a hlen hsz hlis hcl hR hs hrun hQ
    have : R = [] := List.eq_nil_of_length_eq_zero hlen
    subst this
    refine ⟨?_, ?_⟩
    · apply List.eq_nil_iff_forall_not_mem.2
      intro i hi
      obtain ⟨h1, h2, _⟩ := ready_mem hi
      have := (hlis i h1).1 h2
      simp at this
    · obtain ⟨rfl, rfl⟩ := hrun
      exact hQ a w ρ U hs hR (.refl ..)
  | succ fuel ih =>
    intro R listed U fr h w ρ a hlen hsz hlis hcl hR hs hrun hQ
    refine ⟨fun hnil => ?_, fun i hi => ?_⟩
    · -- something is always ready
      cases R with
      | nil => simp at hlen
      | cons x R =>
        exfalso
        have hxl := hR.lt x (List.Mem.head _)
        have hmem : x.i ∈ Region.ready .any all listed := by
          refine mem_ready hxl ((hlis x.i hxl).2 (by simp)) fun o ho e hee hb => ?_
          have hlt := drawOk_back hback ho hee hb
          have h1 : listed.getD e.on true ≠ false := by
            intro h1
            have := (hlis e.on (by omega)).1 h1
            simp only [List.map_cons, List.mem_cons, List.mem_map] at this
            rcases this with h2 | ⟨y, hy, h2⟩
            · omega
            · have := (List.pairwise_cons.1 hR.pair).1 y hy
              omega
          have hin : e.on < listed.size := by omega
          simp only [Array.getD, hin, dif_pos] at h1 ⊢
          simpa using h1
        rw [hnil] at hmem
        cases hmem
    · obtain ⟨h1, h2, o, ho, hedges⟩ := ready_mem hi
      have hin := (hlis i h1).1 h2
      obtain ⟨x, hx, rfl⟩ := List.mem_map.1 hin
      obtain ⟨X, Y, rfl⟩ := List.append_of_mem hx
      have hpw := List.pairwise_append.1 hR.pair
      have hfree : ∀ b ∈ X, Free2 b x := by
        intro b hb
        refine (hpw.2.2 b hb x (List.Mem.head _)).2.2 ?_
        cases htb : ((Region.before all).getD x.i 0).testBit b.i with
        | false => rfl
        | true =>
          exfalso
          have hbm : b ∈ X ++ x :: Y := List.mem_append.2 (.inl hb)
          have hbl := hR.lt b hbm
          have hbf : listed.getD b.i true = false := (hlis b.i hbl).2 (List.mem_map.2 ⟨b, hbm, rfl⟩)
          obtain ⟨o', ho', e, hee, hbind, hor⟩ := before_spec htb
          rw [ho] at ho'; cases ho'
          have hon := hedges e hee hbind
          have hlt : e.on < listed.size := by
            rcases Nat.lt_or_ge e.on listed.size with h | h
            · exact h
            · simp [Array.getD, Nat.not_lt.2 h] at hon
          have hon' : listed.getD e.on true = true := by
            simp only [Array.getD, hlt, dif_pos] at hon ⊢; exact hon
          rcases hor with h3 | h3
          · rw [h3] at hon'; rw [hon'] at hbf; cases hbf
          · have := hcl e.on (by omega) hon' b.i hbl h3
            rw [this] at hbf; cases hbf
      obtain ⟨v, hh1, hone, hrest⟩ := runR_front X x Y fr h fr' h' hrun hfree
      have hxm : x ∈ X ++ x :: Y := hx
      obtain ⟨o', ho', hpg⟩ := hR.op x hxm
      rw [ho] at ho'; cases ho'
      obtain ⟨op, q1, q2, q3, q4, q5⟩ := rPG_some hpg
      have hok := (hR.ran x hxm).isOk
      have hlen' : (X ++ Y).length = fuel := by simp at hlen ⊢; omega
      have hnd : x.i ∉ (X ++ Y).map (·.i) := by
        intro hm
        obtain ⟨y, hy, he⟩ := List.mem_map.1 hm
        rcases List.mem_append.1 hy with h | h
        · have := (hpw.2.2 y h x (List.Mem.head _)).1; omega
        · have := ((List.pairwise_cons.1 hpw.2.1).1 y h).1; omega
      have hlis' : ∀ i, i < all.size → ((listed.setIfInBounds x.i true).getD i true = false ↔ i ∈ (X ++ Y).map (·.i)) := by
        intro i hi'
        rw [getset]
        by_cases he : i = x.i
        · rw [if_pos he, he]; exact ⟨fun h => (by cases h), fun h => absurd h hnd⟩
        · rw [if_neg he, hlis i hi']
          simp only [List.map_append, List.map_cons, List.mem_append, List.mem_cons, he, false_or]
      have hcl' : ∀ k, k < all.size → (listed.setIfInBounds x.i true).getD k true = true → ∀ j, j < all.size → ((Region.before all).getD k 0).testBit j = true → (listed.setIfInBounds x.i true).getD j true = true := by
        intro k hk hkl j hj htb
        rw [getset] at hkl ⊢
        by_cases hjx : j = x.i
        · rw [if_pos hjx]
        · rw [if_neg hjx]
          by_cases hkx : k = x.i
          · subst hkx
            obtain ⟨o', ho', e, hee, hbind, hor⟩ := before_spec htb
            rw [ho] at ho'; cases ho'
            have hon := hedges e hee hbind
            have hlt : e.on < listed.size := by
              rcases Nat.lt_or_ge e.on listed.size with h | h
              · exact h
              · simp [Array.getD, Nat.not_lt.2 h] at hon
            have hon' : listed.getD e.on true = true := by
              simp only [Array.getD, hlt, dif_pos] at hon ⊢; exact hon
            rcases hor with h3 | h3
            · rw [← h3]; exact hon'
            · exact hcl e.on (by omega) hon' j hj h3
          · rw [if_neg hkx] at hkl
            exact hcl k hk hkl j hj htb
      unfold wpOp
      rw [ho]
      simp only
      have hwant : ∃ b, want fr x.g.guard = some b := by
        unfold oneV at hone
        cases hw : want fr x.g.guard with
        | none => rw [hw] at hone; cases hone
        | some b => exact ⟨b, rfl⟩
      obtain ⟨b, hw⟩ := hwant
      rw [want_wanted hs.fr q5 hw]
      cases b with
      | false =>
        simp only [Bool.false_eq_true, if_false]
        unfold oneV at hone
        rw [hw] at hone
        simp only [Option.some.injEq, Prod.mk.injEq] at hone
        obtain ⟨rfl, rfl, hn, ht⟩ := hone
        have hR' := hR.out hfree
        have hst : StU P w F (fun id => U id ∨ (x.n ≤ id ∧ id < x.n')) ρ (Fr.dst fr x.g.dst (.tup [])) h df (a.put o.dst undef) A.nt := by
          refine ⟨hs.inv.reU rfl (fun id hu => used0.2 (.inl (used0.1 hu))) (Nat.le_refl _), ?_, ?_, ?_⟩
          · rw [q3]
            cases hd : o.dst with
            | none => exact hs.fr
            | some t => exact hs.fr.put (Nat.lt_of_lt_of_le (q4 t hd) hs.nt) (.tup [] #[] rfl (by simp))
          · rw [(put_tmps a _ _).1]; exact hs.df
          · rw [(put_tmps a _ _).2]; exact hs.nt
        exact ih _ _ _ _ _ _ _ _ hlen' (by simpa using hsz) hlis' hcl' hR' hst hrest hQ
      | true =>
        simp only [if_true]
        refine .inl ?_
        unfold oneV at hone
        rw [hw] at hone
        simp only at hone
        cases hop : opRun call ext fr h x.n x.g.op with
        | none => rw [hop] at hone; cases hone
        | some out =>
          rw [hop] at hone
          cases out with
          | pan a1 b1 c1 => cases hone
          | dfr a1 b1 => cases hone
          | val v1 hv n1 =>
            simp only [Option.some.injEq, Prod.mk.injEq] at hone
            obtain ⟨rfl, rfl, hn, ht⟩ := hone
            have hput : ∀ (U' : Nat → Prop) (w' : World) (ρ' : Rho) (val : Value), Inv w' (⟨F.blk, U', 0⟩ : Fx τ) ρ' hv 0 → Grow w h ρ w' hv ρ' → Rel w' (NN F hv ρ') ρ' v1 val → StU P w' F U' ρ' (Fr.dst fr x.g.dst v1) hv df (a.put o.dst val) A.nt := by
              intro U' w' ρ' val k1 k2 k3
              refine ⟨k1, ?_, ?_, ?_⟩
              · rw [q3]
                cases hd : o.dst with
                | none => exact hs.fr.keep (k2.toKeep F)
                | some t => exact (hs.fr.keep (k2.toKeep F)).put (Nat.lt_of_lt_of_le (q4 t hd) hs.nt) k3
              · rw [(put_tmps a _ _).1]; exact hs.df.keep (k2.toKeep F)
              · rw [(put_tmps a _ _).2]; exact hs.nt
            rw [q2] at hop
            rcases hok.2 with ⟨d1, d2, d3⟩ | ⟨D, d1, d2⟩
            · -- a call within
              have hbelow := hR.below x hxm d1
              have hinv : Inv w F ρ h x.n := hs.inv.reU rfl (fun id hu => .inr ⟨hR.ulo id (used0.1 hu), hbelow id (used0.1 hu)⟩) (hR.lo x hxm)
              refine op_sim hc he hinv hs.fr q1 hop (.inl hF) _ Q (fun v2 h2 n2 e2 w2 ρ2 val k1 k2 k3 => ?_) (fun v2 h2 n2 e2 => by cases e2) (fun f2 a2 e2 => by cases e2)
              cases e2
              have k1' : Inv w2 (⟨F.blk, fun id => F.lo ≤ id ∧ id < x.n', 0⟩ : Fx τ) ρ2 hv 0 := k1.reU rfl (fun id hu => used0.2 (hu.elim (fun h => absurd h (hF id)) fun h => by rw [← hn]; exact h)) (Nat.le_refl _)
              exact ih _ _ _ _ _ _ _ _ hlen' (by simpa using hsz) hlis' hcl' (hR.outInl hfree d1) (hput _ w2 ρ2 val k1' k2 k3) hrest fun a' w' ρ' U' r1 r2 r3 => hQ a' w' ρ' U' r1 r2 (k2.trans r3)
            · have hinv : Inv w (⟨F.blk, U, x.n⟩ : Fx τ) ρ h x.n := hs.inv.reU rfl (fun id hu => .inl (used0.1 hu)) (Nat.le_refl _)
              have hmode : op.mode ≠ .inl := by
                intro hm
                rw [q2] at ht
                have hnone : (touchOf fr h x.n n1 op).d = none := by
                  cases op with
                  | call m f as => simp only [POp.mode] at hm; subst hm; rfl
                  | callv m f as =>
                    simp only [POp.mode] at hm; subst hm
                    simp only [touchOf]
                    split <;> rfl
                  | _ => simp [POp.mode] at hm
                rw [ht, d1] at hnone; cases hnone
              refine op_sim (F := (⟨F.blk, U, x.n⟩ : Fx τ)) hc he hinv hs.fr q1 hop (.inr ⟨hmode, fun id h1 h2 => hR.fresh x hxm id h1 (by rw [← hn]; exact h2)⟩) _ Q (fun v2 h2 n2 e2 w2 ρ2 val k1 k2 k3 => ?_) (fun v2 h2 n2 e2 => by cases e2) (fun f2 a2 e2 => by cases e2)
              cases e2
              have k1' : Inv w2 (⟨F.blk, fun id => U id ∨ (x.n ≤ id ∧ id < x.n'), 0⟩ : Fx τ) ρ2 hv 0 := k1.reU rfl (fun id hu => used0.2 (hu.imp (fun h => h) fun h => by rw [← hn]; exact h)) (Nat.le_refl _)
              exact ih _ _ _ _ _ _ _ _ hlen' (by simpa using hsz) hlis' hcl' (hR.out hfree) (hput _ w2 ρ2 val k1' k2 k3) hrest fun a' w' ρ' U' r1 r2 r3 => hQ a' w' ρ' U' r1 r2 (k2.trans r3)
theorem rOps_get {A : Ann} {all : Array Oper} : ∀ {ol : List Oper} {l : List PG}, rOps P A all ol = some l → l.length = ol.length ∧ ∀ (k : Nat) (o : Oper), ol[k]? = some o → ∃ g : PG, l[k]? = some g ∧ rPG P A all o = some g
  | [], l, h => by simp [rOps] at h; subst h; exact ⟨rfl, fun k o h => by simp at h⟩
  | o :: ol, l, h => by
    simp only [rOps] at h
    split at h
    case h_2 => cases h
    rename_i g l' hg hl
    cases h
    obtain ⟨h1, h2⟩ := rOps_get hl
    refine ⟨by simp [h1], fun k o' hk => ?_⟩
    cases k with
    | zero => simp at hk; subst hk; exact ⟨g, by simp, hg⟩
    | succ k => simp at hk; obtain ⟨g', q1, q2⟩ := h2 k o' hk; exact ⟨g', by simpa using q1, q2⟩
/-- a region that draws comes to what its text's own order comes to -/
theorem draw_sim (hm : P.follows .mixedOrders = true) (he : ExtOk P τ ext) (hc : CallSim P τ call) : DrawSim P τ call ext := by
  intro A id all l s fr' h' nx' ts w F ρ a Q hl hdo hdr hap hs hF hQ
  simp only [Bool.and_eq_true] at hdo
  obtain ⟨hdo, hpo⟩ := hdo
  obtain ⟨L, r1, r2, r3, r4, r5, r6, r7⟩ := drawn_runR l 0 s.fr s.h s.nx fr' h' nx' ts hdr
  rw [← r3] at hap
  obtain ⟨hlen0, hget⟩ := rOps_get hl
  have hlen : l.length = all.size := by simpa using hlen0
  have hLlen : L.length = all.size := by rw [← hlen, ← r2]; simp
  have hidx : ∀ k (hk : k < L.length), L[k].i = k := by
    intro k hk
    have := congrArg (fun l => l[k]?) r4
    simp only [List.getElem?_map, List.getElem?_eq_getElem hk, Option.map_some] at this
    rw [List.getElem?_range' (by rw [hlen]; omega)] at this
    simpa using this
  refine wp_region_any hm ?_
  have hrest : Rest (Region.before all) all P A call ext F nx' (fun id => F.lo ≤ id ∧ id < s.nx) L := by
    refine ⟨fun x hx => ?_, fun x hx => (r6 x hx).2.2, fun x hx => ?_, ?_, fun x hx id h1 h2 hU => ?_, fun x hx _ id hU => ?_, fun x hx => ?_, fun id hU => hU.1, fun x hx => (r6 x hx).2.1, fun id hU => by omega⟩
    · obtain ⟨k, hk, rfl⟩ := List.getElem_of_mem hx
      rw [hidx k hk]; omega
    · obtain ⟨k, hk, rfl⟩ := List.getElem_of_mem hx
      have hk' : k < all.size := by omega
      obtain ⟨g, g1, g2⟩ := hget k all[k] (by simp [hk'])
      refine ⟨all[k], by rw [hidx k hk]; simp [hk'], ?_⟩
      rw [← r2, List.getElem?_map, List.getElem?_eq_getElem hk] at g1
      simp only [Option.map_some, Option.some.injEq] at g1
      rw [g1]; exact g2
    · rw [List.pairwise_iff_getElem]
      intro i j hi hj hij
      refine ⟨by rw [hidx i hi, hidx j hj]; exact hij, (List.pairwise_iff_getElem.1 r7) i j hi hj hij, fun hb => ?_⟩
      rw [hidx i hi, hidx j hj] at hb
      exact pairs_free r2 (fun x hx => (r6 x hx).2.2) hpo hap hj hij hb
    · have := (r6 x hx).1; omega
    · have := (r6 x hx).1; omega
    · exact Nat.le_trans hs.inv.lo (r6 x hx).1
  have hst : StU P w.drew F (fun id => F.lo ≤ id ∧ id < s.nx) ρ s.fr s.h s.df a A.nt :=
    ⟨hs.inv.drew.reU rfl (fun id hu => used0.2 (hu.elim (fun h => absurd h (hF id)) fun h => h)) (Nat.le_refl _), hs.fr.keep ((Grow.ofDrew w s.h ρ).toKeep F), hs.df.keep ((Grow.ofDrew w s.h ρ).toKeep F), hs.nt⟩
  refine any_sim hc he hF hdo all.size L _ _ _ _ w.drew ρ a hLlen (by simp) (fun i hi => ?_) (fun k hk hkt => ?_) hrest hst r1 fun a' w' ρ' U' q1 q2 q3 => ?_
  · have h1 : (Array.replicate all.size false).getD i true = false := by simp [Array.getD, hi]
    rw [h1]
    refine ⟨fun _ => ?_, fun _ => rfl⟩
    have hk : i < L.length := by omega
    exact List.mem_map.2 ⟨L[i], List.getElem_mem hk, hidx i hk⟩
  · exfalso
    simp [Array.getD, hk] at hkt
  · refine hQ a' w' ρ' ⟨q1.inv.reU rfl (fun id hu => .inr ⟨q2.ulo id (used0.1 hu), q2.utop id (used0.1 hu)⟩) (Nat.le_trans hs.inv.lo r5), q1.fr, q1.df, q1.nt⟩ ((Grow.ofDrew w s.h ρ).trans q3)
end Hp
end
