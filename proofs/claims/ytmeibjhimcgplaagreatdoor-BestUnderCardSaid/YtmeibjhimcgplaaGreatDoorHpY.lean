/- The contracts that are given hold. -/
import Derived.Test.YtmeibjhimcgplaaGreatDoorHpE
import Derived.Test.YtmeibjhimcgplaaGreatDoorShelf
import Derived.Below
set_option linter.all false
namespace Go.Proofs.YtmeibjhimcgplaaGreatDoor
open Go Hp Hp.T
set_option maxRecDepth 100000
variable {w w' : World} {N : Nat → Prop}
theorem outer_below (h : RowKit.Below w.heap.size w w') : Outer w w' :=
  ⟨h.os, h.tape, h.output, h.size, fun b hb _ => h.block b hb, fun b hb => absurd hb own_e, fun id l hl => by simp [noR] at hl, fun b c e f hb => ⟨c, f, by rw [h.block b (lt_of_heap hb)]; exact hb, rfl⟩⟩
theorem outer_refl (w : World) : Outer w w := Grow.refl ..
theorem outer_grow (w : World) (k : Nat) (os : Array Obj) : Outer w (Go.Sort.grow (w.drewN k) os) := by
  have hh : ∀ b, b < w.heap.size → (Go.Sort.grow (w.drewN k) os).heap[b]? = w.heap[b]? := fun b hb => by
    show (w.heap ++ os)[b]? = _
    rw [Array.getElem?_append_left hb]
  exact ⟨rfl, rfl, rfl, by show w.heap.size ≤ (w.heap ++ os).size; simp, fun b hb _ => hh b hb, fun b hb => absurd hb own_e, fun id l hl => by simp [noR] at hl, fun b c e f hb => ⟨c, f, by rw [hh b (lt_of_heap hb)]; exact hb, rfl⟩⟩
theorem relL1 {ρ : Rho} {p : PV} {vs : Array Value} (h : RelL w N ρ [p] vs) : ∃ v, vs = #[v] ∧ Rel w N ρ p v := by
  obtain ⟨l⟩ := vs
  match l, h with
  | [v], h => exact ⟨v, rfl, h.2 0 (by simp)⟩
  | [], h => exact absurd h.1 (by simp)
  | _ :: _ :: _, h => exact absurd h.1 (by simp)
theorem relL2 {ρ : Rho} {p q : PV} {vs : Array Value} (h : RelL w N ρ [p, q] vs) : ∃ v u, vs = #[v, u] ∧ Rel w N ρ p v ∧ Rel w N ρ q u := by
  obtain ⟨l⟩ := vs
  match l, h with
  | [v, u], h => exact ⟨v, u, rfl, h.2 0 (by simp), h.2 1 (by simp)⟩
  | [], h => exact absurd h.1 (by simp)
  | [_], h => exact absurd h.1 (by simp)
  | _ :: _ :: _ :: _, h => exact absurd h.1 (by simp)
def ValAt (P : Program) (τ : Tb) (f : FuncId) (g : List PV → Option PV) : Prop :=
  ∀ args r, g args = some r → ∀ (w : World) (N : Nat → Prop) (vs : Array Value), (∀ b, N b → b < w.heap.size) → (∀ x ∈ τ, w.heap[x.1]? = some x.2) → RelL w N noR args vs →
    Calls P f vs w fun e w' => ∃ val, e = .returned val ∧ Outer w w' ∧ Rel w' N noR r val
def OwnAt (P : Program) (f : FuncId) (g : List PV → Option PV) : Prop :=
  ∀ args full sz es, g args = some (.isl full sz es) → ∀ (w : World) (N : Nat → Prop) (vs : Array Value), (∀ b, N b → b < w.heap.size) → RelL w N noR args vs →
    Calls P f vs w fun e w' => Outer w w' ∧ ((es = [] ∧ ∃ a, e = .returned (.slice a 0 0)) ∨
      (es ≠ [] ∧ ∃ (b : Nat) (c : Array Value) (te : TypeId) (cap : Nat), e = .returned (.slice (some ⟨b, 0, none⟩) es.length cap) ∧ w.heap.size ≤ b ∧ w'.heap[b]? = some (.cells c te (0, 0)) ∧
        es.length ≤ cap ∧ cap * sz ≤ c.size ∧ 0 < sz ∧ ERel w' (fun b' => N b' ∨ b' = b) noR sz es c))
theorem itoa_val {t : Obj} {e : TypeId} {f : Nat × Nat} (ht : t = .cells (Go.Lib.pow10Tab.map fun z => Value.int .u64 z).toArray e f) : ValAt Tryz.prog [(0, t)] f_strconv_Itoa itoaX := by
  intro args r hr w N vs _ hτ hrel
  unfold itoaX at hr
  split at hr
  case h_2 => cases hr
  rename_i n
  split at hr
  case isFalse => cases hr
  rename_i hn
  cases hr
  obtain ⟨v, rfl, hv⟩ := relL1 hrel
  cases hv
  have htab : Go.Lib.TabIs Tryz.prog w "internal/strconv.uint64pow10" .u64 Go.Lib.pow10Tab := by
    have h0 := hτ _ (List.mem_singleton.2 rfl)
    have hg : Tryz.prog.globalNamed "internal/strconv.uint64pow10" = some 0 := by kernel_rfl
    simp only [Go.Lib.TabIs, World.var?, hg, Option.bind_some]
    simp only at h0
    rw [h0, ht]
  refine (Tryz.strconv_Itoa n hn.1 hn.2 w htab).mono fun e w' h => ?_
  obtain ⟨rfl, k, os, rfl⟩ := h
  exact ⟨_, rfl, outer_grow w k os, .str _⟩
theorem strsOf_get : ∀ {es : List PV} {xs : List ByteArray}, strsOf es = some xs → es.length = xs.length ∧ ∀ (j : Nat) (x : ByteArray), xs[j]? = some x → es.getD j .any = .str x
  | [], xs, h => by simp only [strsOf, Option.some.injEq] at h; subst h; exact ⟨rfl, fun j x hx => by simp at hx⟩
  | .str s :: l, xs, h => by
    simp only [strsOf] at h
    split at h
    case h_2 => cases h
    rename_i r hr
    cases h
    obtain ⟨h1, h2⟩ := strsOf_get hr
    refine ⟨by simp [h1], fun j x hx => ?_⟩
    cases j with
    | zero => simp at hx; subst hx; rfl
    | succ j => exact h2 j x (by simpa using hx)
theorem join_val (τ : Tb) : ValAt Tryz.prog τ f_strings_Join joinX := by
  intro args r hr w N vs _ hτ hrel
  unfold joinX at hr
  split at hr
  case h_2 => cases hr
  rename_i full sz es sep
  split at hr
  case h_2 => cases hr
  rename_i xs hxs
  split at hr
  case isFalse => cases hr
  rename_i hc
  cases hr
  obtain ⟨h1, h2, h3⟩ := hc
  obtain ⟨v, u, rfl, hv, hu⟩ := relL2 hrel
  cases hu
  obtain ⟨hl, hg⟩ := strsOf_get hxs
  cases hv with
  | isl0 _ _ a cap _ =>
    have : xs = [] := by simpa using hl.symm
    subst this
    refine (Tryz.strings_Join_none a cap sep w).mono fun e w' h => ?_
    obtain ⟨rfl, rfl⟩ := h
    exact ⟨_, rfl, outer_refl _, .str _⟩
  | isl _ _ _ b o cap g q1 q2 q3 q4 q5 q6 q7 q8 =>
    rcases h1 with h1 | h1
    · subst h1
      have : es = [] := by simpa using hl
      subst this
      refine (Tryz.strings_Join_none _ cap sep w).mono fun e w' h => ?_
      obtain ⟨rfl, rfl⟩ := h
      exact ⟨_, rfl, outer_refl _, .str _⟩
    · subst h1
      rw [hl]
      refine (Tryz.strings_Join b o cap xs sep w (fun j x hx => ?_) q3 h2 (by omega) h3).mono fun e w' h => ?_
      · have hj : j < es.length := by rw [hl]; exact (List.getElem?_eq_some_iff.1 hx).1
        have c1 := q6 j 0 hj (by omega)
        have r1 := q8 j 0 hj (by omega)
        rw [hg j x hx] at r1
        have r1 : Rel w N noR (.str x) (g j 0) := r1
        have : g j 0 = .string x := by generalize g j 0 = y at r1; cases r1; rfl
        rw [this] at c1
        simpa using c1
      · obtain ⟨rfl, hb⟩ := h
        exact ⟨_, rfl, outer_below hb, .str _⟩
theorem ones_val (τ : Tb) : ValAt Tryz.prog τ f_bits_OnesCount8 onesX := by
  intro args r hr w N vs _ hτ hrel
  unfold onesX at hr
  split at hr
  case h_2 => cases hr
  rename_i n
  split at hr
  case isFalse => cases hr
  rename_i hn
  cases hr
  obtain ⟨v, rfl, hv⟩ := relL1 hrel
  cases hv
  refine (Tryz.bits_OnesCount8 n w hn.1 hn.2).mono fun e w' h => ?_
  obtain ⟨rfl, rfl⟩ := h
  exact ⟨_, rfl, outer_refl _, .int ..⟩
theorem info_of {P : Program} {E : TypeId} {k bytes : Nat} (h : (P.info? E).bind (fun i => i.zero.map fun z => (i.size, i.bytes, z.cells.size)) = some (k, bytes, k)) : ∃ inf zv, P.info? E = some inf ∧ inf.zero = some zv ∧ inf.size = k ∧ inf.bytes = bytes ∧ zv.cells.size = k := by
  cases hi : P.info? E with
  | none => simp [hi] at h
  | some i =>
    cases hz : i.zero with
    | none => simp [hi, hz] at h
    | some z => simp [hi, hz] at h; exact ⟨i, z, rfl, hz, h.1, h.2.1, h.2.2⟩
theorem own_at {P : Program} {f : FuncId} {fn : Func} {T E : TypeId} {k bytes : Nat} {i0 i1 i2 i3 : Nat} {o0 o1 o2 o3 o4 o5 o6 o7 : Oper} {T' ty : TypeId}
    (hf : P.funcs[f]? = some fn)
    (hb : fn.body = some (.seq (.region i0 #[o0] false) (.seq (.seq (.region i1 #[o1, o2] false) (.cond (.tmp 4) (.seq (.region i2 #[o3] false) .ret) .skip)) (.seq (.region i3 #[o4, o5, o6, o7] false) .ret))))
    (hnt : fn.ntmps = 8) (hres : fn.results = #[.tmp 2])
    (e0 : o0 = ⟨some 2, .assign (.const (.slice none 0 0)), o0.type, o0.pos, o0.after, none⟩)
    (e1 : o1 = ⟨some 3, .move (.tmp 0), o1.type, o1.pos, o1.after, none⟩)
    (e2 : o2 = ⟨some 4, .binOp .eql T (.tmp 3) (.const (.slice none 0 0)) T', o2.type, o2.pos, o2.after, none⟩)
    (e3 : o3 = ⟨some 2, .assign (.const (.slice none 0 0)), o3.type, o3.pos, o3.after, none⟩)
    (e4 : o4 = ⟨some 5, .buildSlice T 0 #[], o4.type, o4.pos, o4.after, none⟩)
    (e5 : o5 = ⟨some 6, .move (.tmp 0), o5.type, o5.pos, o5.after, none⟩)
    (e6 : o6 = ⟨some 7, .call ⟨.builtin .append, #[.tmp 5, .tmp 6], #[T, T]⟩, ty, o6.pos, o6.after, none⟩)
    (e7 : o7 = ⟨some 2, .assign (.tmp 7), o7.type, o7.pos, o7.after, none⟩)
    (hT : P.underlying T = some (.slice E)) (hi : (P.info? E).bind (fun i => i.zero.map fun z => (i.size, i.bytes, z.cells.size)) = some (k, bytes, k)) (hk : 0 < k) (hbz : bytes ≠ 0) : OwnAt P f (Hp.T.cloneX k bytes) := by
  intro args full sz es hg w N vs hN hr
  obtain ⟨inf, zv, h1, h2, rfl, rfl, h5⟩ := info_of hi
  exact clone_own hf hb hnt hres e0 e1 e2 e3 e4 e5 e6 e7 hT h1 h2 h5 hk hbz hg hN hr
theorem own_101 : OwnAt Tryz.prog 101 (Hp.T.cloneX 4 56) := own_at (E := 169) Tryz.func101 rfl rfl rfl rfl rfl rfl rfl rfl rfl rfl rfl Tryz.underlying24 (by kernel_rfl) (by decide) (by decide)
theorem own_102 : OwnAt Tryz.prog 102 (Hp.T.cloneX 4 24) := own_at (E := 126) Tryz.func102 rfl rfl rfl rfl rfl rfl rfl rfl rfl rfl rfl Tryz.underlying81 (by kernel_rfl) (by decide) (by decide)
theorem own_104 : OwnAt Tryz.prog 104 (Hp.T.cloneX 2 40) := own_at (E := 83) Tryz.func104 rfl rfl rfl rfl rfl rfl rfl rfl rfl rfl rfl Tryz.underlying26 (by kernel_rfl) (by decide) (by decide)
theorem own_105 : OwnAt Tryz.prog 105 (Hp.T.cloneX 7 112) := own_at (E := 79) Tryz.func105 rfl rfl rfl rfl rfl rfl rfl rfl rfl rfl rfl Tryz.underlying27 (by kernel_rfl) (by decide) (by decide)
theorem own_106 : OwnAt Tryz.prog 106 (Hp.T.cloneX 1 8) := own_at (E := 3) Tryz.func106 rfl rfl rfl rfl rfl rfl rfl rfl rfl rfl rfl Tryz.underlying37 (by kernel_rfl) (by decide) (by decide)
theorem own_107 : OwnAt Tryz.prog 107 (Hp.T.cloneX 5 32) := own_at (E := 128) Tryz.func107 rfl rfl rfl rfl rfl rfl rfl rfl rfl rfl rfl Tryz.underlying76 (by kernel_rfl) (by decide) (by decide)
theorem own_108 : OwnAt Tryz.prog 108 (Hp.T.cloneX 2 16) := own_at (E := 189) Tryz.func108 rfl rfl rfl rfl rfl rfl rfl rfl rfl rfl rfl Tryz.underlying77 (by kernel_rfl) (by decide) (by decide)
theorem own_109 : OwnAt Tryz.prog 109 (Hp.T.cloneX 2 40) := own_at (E := 175) Tryz.func109 rfl rfl rfl rfl rfl rfl rfl rfl rfl rfl rfl Tryz.underlying28 (by kernel_rfl) (by decide) (by decide)
theorem own_110 : OwnAt Tryz.prog 110 (Hp.T.cloneX 1 24) := own_at (E := 194) Tryz.func110 rfl rfl rfl rfl rfl rfl rfl rfl rfl rfl rfl Tryz.underlying173 (by kernel_rfl) (by decide) (by decide)
theorem own_111 : OwnAt Tryz.prog 111 (Hp.T.cloneX 2 40) := own_at (E := 177) Tryz.func111 rfl rfl rfl rfl rfl rfl rfl rfl rfl rfl rfl Tryz.underlying29 (by kernel_rfl) (by decide) (by decide)
theorem own_112 : OwnAt Tryz.prog 112 (Hp.T.cloneX 6 64) := own_at (E := 146) Tryz.func112 rfl rfl rfl rfl rfl rfl rfl rfl rfl rfl rfl Tryz.underlying30 (by kernel_rfl) (by decide) (by decide)
theorem own_159 : OwnAt Tryz.prog 159 (Hp.T.cloneX 1 24) := own_at (E := 37) Tryz.func159 rfl rfl rfl rfl rfl rfl rfl rfl rfl rfl rfl Tryz.underlying25 (by kernel_rfl) (by decide) (by decide)
theorem own_295 : OwnAt Tryz.prog 295 (Hp.T.cloneX 2 16) := own_at (E := 85) Tryz.func295 rfl rfl rfl rfl rfl rfl rfl rfl rfl rfl rfl Tryz.underlying36 (by kernel_rfl) (by decide) (by decide)
theorem findX_some {Q : FuncId → Bool × (List PV → Option PV) → Prop} : ∀ (l : List (FuncId × Bool × (List PV → Option PV))), (∀ y ∈ l, Q y.1 y.2) → ∀ {f : FuncId} {x : Bool × (List PV → Option PV)}, findX f l = some x → Q f x
  | [], _, f, x, h => by cases h
  | (g, y) :: l, hl, f, x, h => by
    simp only [findX] at h
    split at h
    · rename_i he; cases h; rw [he]; exact hl (g, y) (by simp)
    · exact findX_some l (fun z hz => hl z (List.mem_cons_of_mem _ hz)) h
def XOk (P : Program) (τ : Tb) (f : FuncId) (x : Bool × (List PV → Option PV)) : Prop := callable P f = true ∧ match x.1 with
  | true => OwnAt P f x.2
  | false => ValAt P τ f x.2
theorem extOk_of {P : Program} {τ : Tb} {ext : ExtF} (h : ∀ f x, ext f = some x → XOk P τ f x) : ExtOk P τ ext where
  call f x hx := (h f x hx).1
  val f g args r hx hg w N vs hN hτ hr := (h f _ hx).2 args r hg w N vs hN hτ hr
  own f g args full sz es hx hg w N vs hN hτ hr := (h f _ hx).2 args full sz es hg w N vs hN hr
theorem extTab_ok {t : Obj} {e : TypeId} {f : Nat × Nat} (ht : t = .cells (Go.Lib.pow10Tab.map fun z => Value.int .u64 z).toArray e f) : ∀ f x, extTab f = some x → XOk Tryz.prog [(0, t)] f x := by
  intro f x hx
  refine findX_some (Q := XOk Tryz.prog [(0, t)]) extList ?_ hx
  intro y hy
  simp only [extList, List.mem_cons, List.not_mem_nil, or_false] at hy
  rcases hy with rfl | rfl | rfl | rfl | rfl | rfl | rfl | rfl | rfl | rfl | rfl | rfl | rfl | rfl | rfl | rfl
  · exact ⟨by kernel_rfl, itoa_val ht⟩
  · exact ⟨by kernel_rfl, join_val _⟩
  · exact ⟨by kernel_rfl, ones_val _⟩
  · exact ⟨by kernel_rfl, own_101⟩
  · exact ⟨by kernel_rfl, own_102⟩
  · exact ⟨by kernel_rfl, own_104⟩
  · exact ⟨by kernel_rfl, own_105⟩
  · exact ⟨by kernel_rfl, own_106⟩
  · exact ⟨by kernel_rfl, own_107⟩
  · exact ⟨by kernel_rfl, own_108⟩
  · exact ⟨by kernel_rfl, own_109⟩
  · exact ⟨by kernel_rfl, own_110⟩
  · exact ⟨by kernel_rfl, own_111⟩
  · exact ⟨by kernel_rfl, own_112⟩
  · exact ⟨by kernel_rfl, own_159⟩
  · exact ⟨by kernel_rfl, own_295⟩
end Go.Proofs.YtmeibjhimcgplaaGreatDoor
