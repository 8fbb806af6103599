/- Common ground: a pure interpreter for the program, and what it computes. -/
import Derived.Test.YtmeibjhimcgplaaGreatDoorHpA1
import Derived.Laws.StructEq
import Derived.Laws.Tables
import Derived.IntWalk
set_option linter.all false
section
namespace Hp
open Go
variable {P : Program} {τ : Tb} {w : World} {F : Fx τ} {ρ : Rho} {h : Heap} {nx : Nat} {A : Ann} {fr : Fr} {a : Act} {o : Oper} {op : POp} {v : PV} {ups : List (Nat × Option PObj)} {c : Nat}
abbrev Sim (P : Program) (w : World) (F : Fx τ) (ρ : Rho) (h : Heap) (nx : Nat) (a : Act) (o : Oper) (v : PV) (ups : List (Nat × Option PObj)) (c : Nat) : Prop :=
  Does P w F ρ h (execOp a.eval o) v (hsets h ups) (nx + c)
theorem MR_v {x : Option PV} (hm : MR.v x = some (v, ups, c)) : x = some v ∧ ups = [] ∧ c = 0 := by
  unfold MR.v at hm
  cases x with
  | none => simp at hm
  | some y => simp at hm; obtain ⟨rfl, rfl, rfl⟩ := hm; exact ⟨rfl, rfl, rfl⟩
theorem optMap {α β : Type} {f : α → β} {x : Option α} {y : β} (hm : x.map f = some y) : ∃ z, x = some z ∧ f z = y := by
  cases x with
  | none => simp at hm
  | some z => exact ⟨z, rfl, by simpa using hm⟩
theorem sim_move {x : Operand} (hi : Inv w F ρ h nx) (hf : FrRel w (NN F h ρ) ρ fr a.tmps) (ho : o.op = .move x ∨ o.op = .assign x) (hr : rOp P A o = some op) (hm : mop fr h nx op = some (v, ups, c)) :
    Sim P w F ρ h nx a o v ups c := by
  have hx : (rOpd x).map POp.mv = some op := by rcases ho with ho | ho <;> (unfold rOp at hr; rw [ho] at hr; exact hr)
  obtain ⟨y, hy, rfl⟩ := optMap hx
  simp only [mop, Option.some.injEq, Prod.mk.injEq] at hm
  obtain ⟨rfl, rfl, rfl⟩ := hm
  refine Does.quiet hi ?_ (rOpd_rel hy hf)
  rcases ho with ho | ho <;> simp [execOp, ho]
theorem sim_pick {x y z : Operand} (hi : Inv w F ρ h nx) (hf : FrRel w (NN F h ρ) ρ fr a.tmps) (ho : o.op = .pick x y z) (hr : rOp P A o = some op) (hm : mop fr h nx op = some (v, ups, c)) :
    Sim P w F ρ h nx a o v ups c := by
  unfold rOp at hr; rw [ho] at hr
  simp only at hr
  split at hr
  · rename_i c' a' b' h1 h2 h3
    cases hr
    simp only [mop] at hm
    split at hm
    · rename_i t ht
      simp only [Option.some.injEq, Prod.mk.injEq] at hm
      obtain ⟨rfl, rfl, rfl⟩ := hm
      have hc := rOpd_rel h1 hf
      rw [ht] at hc
      cases hb : a.eval x <;> rw [hb] at hc <;> cases hc
      refine Does.quiet hi (val := if t then a.eval y else a.eval z) ?_ ?_
      · simp [execOp, ho, hb, asBool]
      · cases t
        · exact rOpd_rel h3 hf
        · exact rOpd_rel h2 hf
    · cases hm
  · cases hr
theorem sim_nilCheck {x : Operand} (hi : Inv w F ρ h nx) (hf : FrRel w (NN F h ρ) ρ fr a.tmps) (ho : o.op = .nilCheck x) (hr : rOp P A o = some op) (hm : mop fr h nx op = some (v, ups, c)) :
    Sim P w F ρ h nx a o v ups c := by
  unfold rOp at hr; rw [ho] at hr
  obtain ⟨y, hy, rfl⟩ := optMap hr
  simp only [mop] at hm
  have hx := rOpd_rel hy hf
  split at hm
  · rename_i id ix off hv
    simp only [Option.some.injEq, Prod.mk.injEq] at hm
    obtain ⟨rfl, rfl, rfl⟩ := hm
    rw [hv] at hx
    refine Does.quiet hi (val := a.eval x) ?_ hx
    generalize he : a.eval x = va at hx
    cases hx
    simp [execOp, ho, he]
  · rename_i cs hv
    simp only [Option.some.injEq, Prod.mk.injEq] at hm
    obtain ⟨rfl, rfl, rfl⟩ := hm
    rw [hv] at hx
    refine Does.quiet hi (val := a.eval x) ?_ hx
    generalize he : a.eval x = va at hx
    cases hx
    simp [execOp, ho, he]
  · cases hm
theorem sim_extract {x : Operand} {i : Nat} (hi : Inv w F ρ h nx) (hf : FrRel w (NN F h ρ) ρ fr a.tmps) (ho : o.op = .extract x i) (hr : rOp P A o = some op) (hm : mop fr h nx op = some (v, ups, c)) :
    Sim P w F ρ h nx a o v ups c := by
  unfold rOp at hr; rw [ho] at hr
  simp only at hr
  split at hr
  case isFalse => cases hr
  rename_i hi1
  obtain ⟨y, hy, rfl⟩ := optMap hr
  simp only [mop, hi1, if_true] at hm
  have hx := rOpd_rel hy hf
  split at hm
  · rename_i vs hv
    obtain ⟨h1, rfl, rfl⟩ := MR_v hm
    rw [hv] at hx
    generalize he : a.eval x = va at hx
    cases hx with
    | tup _ ws hs hr =>
      have hil : i < vs.length := by
        rcases Nat.lt_or_ge i vs.length with h | h
        · exact h
        · simp [List.getElem?_eq_none h] at h1
      have hiw : i < ws.size := by omega
      refine Does.quiet hi (val := ws.getD i undef) ?_ ?_
      · simp [execOp, ho, he, Instr.extract, Array.getElem?_eq_getElem hiw, Array.getD, hiw]
      · have := hr i hil
        rwa [getD_of_some h1] at this
  · cases hm
  · cases hm
theorem rOpds_rel {l : List Operand} {l' : List Opd} (hl : rOpds l = some l') {N : Nat → Prop} (hf : FrRel w N ρ fr a.tmps) :
    RelL w N ρ (l'.map (·.get fr)) (l.map a.eval).toArray := by
  obtain ⟨h1, h2⟩ := mapM_some hl
  refine ⟨by simp [h1], fun i hi => ?_⟩
  have hil : i < l.length := by simpa [h1] using hi
  obtain ⟨y, h3, h4⟩ := h2 i hil
  have e1 : (l'.map (·.get fr)).getD i .any = y.get fr := by simp [List.getD, h4]
  have e2 : (l.map a.eval).toArray.getD i undef = a.eval l[i] := by simp [Array.getD, hil]
  rw [e1, e2]
  exact rOpd_rel h3 hf
theorem sim_mkfn {f : FuncId} {x y : Array Operand} (hi : Inv w F ρ h nx) (hf : FrRel w (NN F h ρ) ρ fr a.tmps) (ho : o.op = .makeFunc (.func f) x y) (hr : rOp P A o = some op) (hm : mop fr h nx op = some (v, ups, c)) :
    Sim P w F ρ h nx a o v ups c := by
  unfold rOp at hr; rw [ho] at hr
  simp only at hr
  split at hr
  · rename_i x' y' h1 h2
    split at hr
    · cases hr
      simp only [mop, Option.some.injEq, Prod.mk.injEq] at hm
      obtain ⟨rfl, rfl, rfl⟩ := hm
      obtain ⟨g1, g2⟩ := rOpds_rel h1 hf
      obtain ⟨k1, k2⟩ := rOpds_rel h2 hf
      refine Does.quiet hi (val := .func (.func f) (x.toList.map a.eval).toArray (y.toList.map a.eval).toArray) ?_ (.fn f _ _ _ _ g1 k1 g2 k2)
      simp [execOp, ho, Instr.makeFunc]
      exact ⟨by apply Array.ext'; simp, by apply Array.ext'; simp⟩
    · cases hr
  · cases hr
theorem sim_mkifc {t : TypeId} {x : Operand} (hi : Inv w F ρ h nx) (hf : FrRel w (NN F h ρ) ρ fr a.tmps) (ho : o.op = .makeInterface t x) (hr : rOp P A o = some op) (hm : mop fr h nx op = some (v, ups, c)) :
    Sim P w F ρ h nx a o v ups c := by
  unfold rOp at hr; rw [ho] at hr
  simp only at hr
  split at hr
  · cases hr
  · rename_i d x' hne hd hx
    cases hr
    simp only [mop, Option.some.injEq, Prod.mk.injEq] at hm
    obtain ⟨rfl, rfl, rfl⟩ := hm
    refine Does.quiet hi (val := .iface t (a.eval x)) ?_ (.ifc t _ _ (rOpd_rel hx hf))
    have hni : ∀ ms, d ≠ .interface ms := fun ms he => hne ms he
    simp only [execOp, ho, Instr.makeInterface, Sem.run_bind, run_underlying hd, Result.andThen_ok]
    cases d <;> first | rfl | exact absurd rfl (hni _)
  · cases hr
theorem sim_un {u : UnOp} {t : TypeId} {x : Operand} (hi : Inv w F ρ h nx) (hf : FrRel w (NN F h ρ) ρ fr a.tmps) (ho : o.op = .unOp u t x) (hr : rOp P A o = some op) (hm : mop fr h nx op = some (v, ups, c)) :
    Sim P w F ρ h nx a o v ups c := by
  unfold rOp at hr; rw [ho] at hr
  obtain ⟨y, hy, rfl⟩ := optMap hr
  simp only [mop] at hm
  obtain ⟨h1, rfl, rfl⟩ := MR_v hm
  have hx := rOpd_rel hy hf
  unfold pun at h1
  split at h1
  · rename_i k n hv
    rw [hv] at hx
    generalize he : a.eval x = va at hx
    cases hx
    split at h1
    · cases h1
      refine Does.quiet hi (val := .int k (k.wrap (0 - n))) ?_ (.int ..)
      simp [execOp, ho, he, Op.unary, Op.intArith]
    · cases h1
  · rename_i b hv
    rw [hv] at hx
    generalize he : a.eval x = va at hx
    cases hx
    split at h1
    · cases h1
      refine Does.quiet hi (val := .bool (!b)) ?_ (.bool ..)
      simp [execOp, ho, he, Op.unary]
    · cases h1
  · cases h1
theorem sim_conv {s d : TypeId} {x : Operand} (hi : Inv w F ρ h nx) (hf : FrRel w (NN F h ρ) ρ fr a.tmps) (ho : o.op = .convert s d x) (hr : rOp P A o = some op) (hm : mop fr h nx op = some (v, ups, c)) :
    Sim P w F ρ h nx a o v ups c := by
  unfold rOp at hr; rw [ho] at hr
  simp only at hr
  split at hr
  · rename_i k' k x' hs hd hx
    cases hr
    simp only [mop] at hm
    have hx := rOpd_rel hx hf
    split at hm
    · rename_i k2 n hv
      simp only [Option.some.injEq, Prod.mk.injEq] at hm
      obtain ⟨rfl, rfl, rfl⟩ := hm
      rw [hv] at hx
      generalize he : a.eval x = va at hx
      cases hx
      refine Does.quiet hi (val := .int k (k.wrap n)) ?_ (.int ..)
      simp [execOp, ho, he, convert, run_underlying hs, run_underlying hd, Conv.intToInt]
    · cases hm
  · cases hr
end Hp
end
section
namespace Hp
open Go
variable {P : Program} {τ : Tb} {w : World} {F : Fx τ} {ρ : Rho} {h : Heap} {nx : Nat} {A : Ann} {fr : Fr} {a : Act} {o : Oper} {op : POp} {v : PV} {ups : List (Nat × Option PObj)} {c : Nat}
theorem pbin_run {bo : BinOp} {t : TypeId} {x y : Operand} {p q r : PV} {vp vq : Value} {N : Nat → Prop} (hp : Rel w N ρ p vp) (hq : Rel w N ρ q vq) (hm : pbin bo p q = some r) :
    ∃ vr, (do eqGuard bo t x y vp vq; binOp bo t vp vq).run P w = .ok vr w ∧ Rel w N ρ r vr := by
  unfold pbin at hm
  split at hm
  · rename_i k m k' n
    cases hp; cases hq
    split at hm
    · split at hm
      · cases hm
      · rename_i hn
        cases hm
        exact ⟨_, by simp [eqGuard_at_int, binOp_shl, Op.shift, hn], .int ..⟩
    · split at hm
      · cases hm
      · rename_i hn
        cases hm
        exact ⟨_, by simp [eqGuard_at_int, binOp_shr, Op.shift, hn], .int ..⟩
    · split at hm
      · cases hm
      · rename_i hk
        have hk : k = k' := by simpa using hk
        subst hk
        split at hm
        · cases hm; exact ⟨_, by simp [eqGuard_at_int, binOp_add, Op.intArith], .int ..⟩
        · cases hm; exact ⟨_, by simp [eqGuard_at_int, binOp_sub, Op.intArith], .int ..⟩
        · cases hm; exact ⟨_, by simp [eqGuard_at_int, binOp_mul, Op.intArith], .int ..⟩
        · split at hm
          · cases hm
          · rename_i hn; cases hm; exact ⟨_, by simp [eqGuard_at_int, binOp_quo, Op.intDiv, hn], .int ..⟩
        · split at hm
          · cases hm
          · rename_i hn; cases hm; exact ⟨_, by simp [eqGuard_at_int, binOp_rem, Op.intDiv, hn], .int ..⟩
        · cases hm; exact ⟨_, by simp [eqGuard_at_int, binOp_and, Op.intBits], .int ..⟩
        · cases hm; exact ⟨_, by simp [eqGuard_at_int, binOp_or, Op.intBits], .int ..⟩
        · cases hm; exact ⟨_, by simp [eqGuard_at_int, binOp_xor, Op.intBits], .int ..⟩
        · cases hm; exact ⟨_, by simp [eqGuard_at_int, binOp_andNot, Op.intBits], .int ..⟩
        · cases hm; exact ⟨_, by simp [eqGuard_at_int, binOp_eql], .bool ..⟩
        · cases hm; exact ⟨_, by simp [eqGuard_at_int, binOp_neq], .bool ..⟩
        · cases hm; exact ⟨_, by simp [eqGuard_at_int, binOp_lss], .bool ..⟩
        · cases hm; exact ⟨_, by simp [eqGuard_at_int, binOp_leq], .bool ..⟩
        · cases hm; exact ⟨_, by simp [eqGuard_at_int, binOp_gtr], .bool ..⟩
        · cases hm; exact ⟨_, by simp [eqGuard_at_int, binOp_geq], .bool ..⟩
        · cases hm
  · rename_i m n
    cases hp; cases hq
    split at hm
    · cases hm; exact ⟨.bool (m.toList == n.toList), by simp [eqGuard_at_string, binOp, Op.stringOp], .bool ..⟩
    · cases hm; exact ⟨.bool (!(m.toList == n.toList)), by simp [eqGuard_at_string, binOp, Op.stringOp], .bool ..⟩
    · cases hm
  · cases hm
def SK.is (P : Program) (t : TypeId) : SK → Prop
  | .i => ∃ k, P.underlying t = some (.int k)
  | .s => P.underlying t = some .string
  | .b => P.underlying t = some .bool
theorem scalT_is {t : TypeId} {k : SK} (hk : scalT P t = some k) : k.is P t := by
  unfold scalT at hk
  split at hk <;> cases hk
  · exact ⟨_, by assumption⟩
  · assumption
  · assumption
theorem sc_run {t : TypeId} {k : SK} (hk : k.is P t) {N : Nat → Prop} {p q : PV} {vp vq : Value} (hp : Rel w N ρ p vp) (hq : Rel w N ρ q vq) {r : Bool} (hm : scEq k p q = some r) (d : Nat) :
    (Op.equalIn (d + 1) t vp vq).run P w = .ok r w := by
  unfold scEq at hm
  split at hm
  · rename_i k1 m k2 n
    cases hp; cases hq
    split at hm
    · rename_i he
      subst he
      cases hm
      obtain ⟨k', hk'⟩ := hk
      exact run_equalIn_int (w := w) d t k1 k' m n hk'
    · cases hm
  · cases hp; cases hq; cases hm
    rw [run_equalIn_string (w := w) d t _ _ hk, beq_toListBytes]
  · cases hp; cases hq; cases hm
    exact run_equalIn_bool' (w := w) d t _ _ hk
  · cases hm
theorem scalFields_run {N : Nat → Prop} {xs ys : List PV} {vx vy : Array Value} (hx : vx.size = xs.length) (hy : vy.size = ys.length)
    (rx : ∀ i, i < xs.length → Rel w N ρ (xs.getD i .any) (vx.getD i undef)) (ry : ∀ i, i < ys.length → Rel w N ρ (ys.getD i .any) (vy.getD i undef)) (d : Nat) :
    ∀ (fs : List Field) (i : Nat) (ks : List SK), scalFields P i fs = some ks → ∀ r, scEqL ks (xs.drop i) (ys.drop i) = some r → (Op.eqFields (d + 1) vx vy fs).run P w = .ok r w
  | [], i, ks, hk, r, hr => by
    simp only [scalFields, Option.some.injEq] at hk
    subst hk
    cases hdx : xs.drop i <;> cases hdy : ys.drop i <;> rw [hdx, hdy] at hr <;> simp [scEqL] at hr
    subst hr; simp [Op.eqFields]
  | f :: fs, i, ks, hk, r, hr => by
    simp only [scalFields] at hk
    split at hk
    · rename_i k ks' h1 h2
      split at hk
      · rename_i hn
        cases hk
        simp at hn
        obtain ⟨hn1, hn2⟩ := hn
        cases hdx : xs.drop i with
        | nil => rw [hdx] at hr; simp [scEqL] at hr
        | cons x xs' =>
          cases hdy : ys.drop i with
          | nil => rw [hdx, hdy] at hr; simp [scEqL] at hr
          | cons y ys' =>
            rw [hdx, hdy] at hr
            simp only [scEqL] at hr
            split at hr
            · rename_i p q hp hq
              cases hr
              have ex : xs[i]? = some x := by have := List.getElem?_drop (xs := xs) (i := i) (j := 0); rw [hdx] at this; simpa using this.symm
              have ey : ys[i]? = some y := by have := List.getElem?_drop (xs := ys) (i := i) (j := 0); rw [hdy] at this; simpa using this.symm
              have lx : i < xs.length := (List.getElem?_eq_some_iff.1 ex).1
              have ly : i < ys.length := (List.getElem?_eq_some_iff.1 ey).1
              have gx := rx i lx; have gy := ry i ly
              rw [getD_of_some ex] at gx; rw [getD_of_some ey] at gy
              have hk := scalT_is h1
              have hpart : ∀ (vs : Array Value) (hl : i < vs.size), (part f.type vs f.offset).run P w = .ok (vs.getD i undef) w := by
                intro vs hl
                have : (Go.isAgg f.type).run P w = .ok false w := by
                  refine run_isAgg ?_ w
                  unfold isAggT
                  cases k with
                  | i => obtain ⟨k', hk'⟩ := hk; rw [hk']
                  | s => rw [show P.underlying f.type = _ from hk]
                  | b => rw [show P.underlying f.type = _ from hk]
                simp [part, this, hn2, Array.getElem?_eq_getElem hl, Array.getD, hl]
              have hd1 : xs' = xs.drop (i + 1) := by rw [← List.drop_drop, hdx]; simp
              have hd2 : ys' = ys.drop (i + 1) := by rw [← List.drop_drop, hdy]; simp
              have ih := scalFields_run hx hy rx ry d fs (i + 1) ks' h2 q (by rw [← hd1, ← hd2]; exact hq)
              simp only [Op.eqFields, Sem.run_ite, Sem.run_bind, hpart vx (by omega), hpart vy (by omega), Result.andThen_ok, sc_run hk gx gy hp, ih]
              simp only [hn1, ne_eq, not_false_eq_true, if_true]
              cases p <;> simp
            · cases hr
      · cases hk
    · cases hk
theorem scEqL_append : ∀ (ks ks' : List SK) (a b : List PV) (r : Bool), scEqL (ks ++ ks') a b = some r →
    ∃ p q, scEqL ks (a.take ks.length) (b.take ks.length) = some p ∧ scEqL ks' (a.drop ks.length) (b.drop ks.length) = some q ∧ r = (p && q) ∧ ks.length ≤ a.length ∧ ks.length ≤ b.length
  | [], ks', a, b, r, h => ⟨true, r, by simp [scEqL], by simpa using h, by simp, by simp, by simp⟩
  | k :: ks, ks', [], _, r, h => by simp [scEqL] at h
  | k :: ks, ks', _ :: _, [], r, h => by simp [scEqL] at h
  | k :: ks, ks', x :: a, y :: b, r, h => by
    simp only [List.cons_append, scEqL] at h
    split at h
    · rename_i p q hp hq
      cases h
      obtain ⟨p', q', h1, h2, rfl, h3, h4⟩ := scEqL_append ks ks' a b q hq
      exact ⟨p && p', q', by simp [scEqL, hp, h1], by simpa using h2, by simp [Bool.and_assoc], by simpa using h3, by simpa using h4⟩
    · cases h
theorem getD_drop_take {α : Type} (l : List α) (i n j : Nat) (d : α) (hj : j < n) : ((l.drop i).take n).getD j d = l.getD (i + j) d := by
  simp [List.getD, List.getElem?_take, hj, List.getElem?_drop]
theorem agetD_extract (vs : Array Value) (i n j : Nat) (hj : j < n) (hl : i + n ≤ vs.size) : (vs.extract i (i + n)).getD j undef = vs.getD (i + j) undef := by
  have h1 : j < (vs.extract i (i + n)).size := by simp; omega
  have h2 : i + j < vs.size := by omega
  have h3 : j < min (i + n) vs.size - i := by omega
  simp [Array.getD, h2, h3]
theorem nestFields_run {N : Nat → Prop} {xs ys : List PV} {vx vy : Array Value} (hx : vx.size = xs.length) (hy : vy.size = ys.length)
    (rx : ∀ i, i < xs.length → Rel w N ρ (xs.getD i .any) (vx.getD i undef)) (ry : ∀ i, i < ys.length → Rel w N ρ (ys.getD i .any) (vy.getD i undef)) (d : Nat) :
    ∀ (fs : List Field) (i : Nat) (ks : List SK), nestFields P i fs = some ks → ∀ r, scEqL ks (xs.drop i) (ys.drop i) = some r → (Op.eqFields (d + 1 + 1) vx vy fs).run P w = .ok r w
  | [], i, ks, hk, r, hr => by
    simp only [nestFields, Option.some.injEq] at hk
    subst hk
    cases hdx : xs.drop i <;> cases hdy : ys.drop i <;> rw [hdx, hdy] at hr <;> simp [scEqL] at hr
    subst hr; simp [Op.eqFields]
  | f :: fs, i, ks, hk, r, hr => by
    simp only [nestFields] at hk
    split at hk
    case isFalse => cases hk
    rename_i hn
    simp at hn
    obtain ⟨hn1, hn2⟩ := hn
    split at hk
    · rename_i k h1
      obtain ⟨ks', h2, rfl⟩ := optMap hk
      obtain ⟨p, q, hp, hq, rfl, l1, l2⟩ := scEqL_append [k] ks' _ _ r (by simpa using hr)
      have lx : i < xs.length := by simp at l1; omega
      have ly : i < ys.length := by simp at l2; omega
      have ex : xs.drop i = xs[i] :: xs.drop (i + 1) := List.drop_eq_getElem_cons lx
      have ey : ys.drop i = ys[i] :: ys.drop (i + 1) := List.drop_eq_getElem_cons ly
      have hp' : scEq k xs[i] ys[i] = some p := by
        rw [ex, ey] at hp
        simp only [List.length_singleton, List.take_succ_cons, List.take_zero, scEqL] at hp
        split at hp
        · rename_i p' q' hp' hq'
          cases hp; cases hq'; simpa using hp'
        · cases hp
      have gx := rx i lx; have gy := ry i ly
      rw [getD_of_some (List.getElem?_eq_getElem lx)] at gx; rw [getD_of_some (List.getElem?_eq_getElem ly)] at gy
      have hk := scalT_is h1
      have hpart : ∀ (vs : Array Value) (hl : i < vs.size), (part f.type vs f.offset).run P w = .ok (vs.getD i undef) w := by
        intro vs hl
        have : (Go.isAgg f.type).run P w = .ok false w := by
          refine run_isAgg ?_ w
          unfold isAggT
          cases k with
          | i => obtain ⟨k', hk'⟩ := hk; rw [hk']
          | s => rw [show P.underlying f.type = _ from hk]
          | b => rw [show P.underlying f.type = _ from hk]
        simp [part, this, hn2, Array.getElem?_eq_getElem hl, Array.getD, hl]
      have ih := nestFields_run hx hy rx ry d fs (i + 1) ks' h2 q (by simpa [List.drop_drop] using hq)
      simp only [Op.eqFields, Sem.run_ite, Sem.run_bind, hpart vx (by omega), hpart vy (by omega), Result.andThen_ok, sc_run hk gx gy hp', ih]
      simp only [hn1, ne_eq, not_false_eq_true, if_true]
      cases p <;> simp
    · split at hk
      case h_2 => cases hk
      rename_i ks1 n h1 h2
      split at hk
      case isFalse => cases hk
      rename_i hnl
      subst hnl
      obtain ⟨ks', h3, rfl⟩ := optMap hk
      obtain ⟨p, q, hp, hq, rfl, l1, l2⟩ := scEqL_append ks1 ks' _ _ r hr
      unfold scalStruct at h1
      split at h1
      case h_2 => cases h1
      rename_i gs hu
      split at h1
      case isFalse => cases h1
      rename_i hc
      simp at hc
      have lx : i + ks1.length ≤ xs.length ∨ ks1.length = 0 := by simp at l1; omega
      have ly : i + ks1.length ≤ ys.length ∨ ks1.length = 0 := by simp at l2; omega
      have hag : (Go.isAgg f.type).run P w = .ok true w := run_isAgg (by unfold isAggT; rw [hu]) w
      have hpart : ∀ (vs : Array Value), (part f.type vs f.offset).run P w = .ok (.agg (vs.extract i (i + ks1.length))) w := by
        intro vs
        simp [part, hag, hn2, run_sizeOf h2]
      have sub : ∀ (zs : List PV) (vz : Array Value), vz.size = zs.length → (i + ks1.length ≤ zs.length ∨ ks1.length = 0) → (∀ i, i < zs.length → Rel w N ρ (zs.getD i .any) (vz.getD i undef)) →
          (vz.extract i (i + ks1.length)).size = ((zs.drop i).take ks1.length).length ∧ ∀ j, j < ((zs.drop i).take ks1.length).length → Rel w N ρ (((zs.drop i).take ks1.length).getD j .any) ((vz.extract i (i + ks1.length)).getD j undef) := by
        intro zs vz hz hl rz
        refine ⟨by simp [hz]; omega, fun j hj => ?_⟩
        have hj' : j < ks1.length := by simp at hj; omega
        have hl' : i + ks1.length ≤ zs.length := by omega
        rw [getD_drop_take _ _ _ _ _ hj', agetD_extract _ _ _ _ hj' (by omega)]
        exact rz _ (by omega)
      obtain ⟨sx, tx⟩ := sub xs vx hx lx rx
      obtain ⟨sy, ty⟩ := sub ys vy hy ly ry
      have hfo : P.fieldsOf f.type = gs := by simp [Program.fieldsOf, hu]
      have he : (Op.equalIn (d + 1 + 1) f.type (.agg (vx.extract i (i + ks1.length))) (.agg (vy.extract i (i + ks1.length)))).run P w = .ok p w := by
        rw [run_equalIn_struct w (d + 1) f.type _ _ (by rw [hfo]; exact hu) hc.1, hfo]
        exact scalFields_run sx sy tx ty d gs.toList 0 ks1 h1 p (by simpa using hp)
      have ih := nestFields_run hx hy rx ry d fs (i + ks1.length) ks' h3 q (by simpa [List.drop_drop] using hq)
      simp only [Op.eqFields, Sem.run_ite, Sem.run_bind, hpart, Result.andThen_ok, he, ih]
      simp only [hn1, ne_eq, not_false_eq_true, if_true]
      cases p <;> simp
def EqK.is (P : Program) (t : TypeId) : EqK → Prop
  | .sc k => k.is P t
  | .ptr => ∃ e, P.underlying t = some (.pointer e)
  | .fn => ∃ a b c, P.underlying t = some (.func a b c)
  | .mp => ∃ k e, P.underlying t = some (.map k e)
  | .st ks => ∃ fs, P.underlying t = some (.struct fs) ∧ P.stoodInHeld t = false ∧ P.eqGuardType P.depth t = false ∧ scalFields P 0 fs.toList = some ks
  | .ns ks => ∃ fs, P.underlying t = some (.struct fs) ∧ P.stoodInHeld t = false ∧ P.eqGuardType P.depth t = false ∧ nestFields P 0 fs.toList = some ks
theorem scalStruct_is {t : TypeId} {ks : List SK} (hk : scalStruct P t = some ks) : (EqK.st ks).is P t := by
  unfold scalStruct at hk
  split at hk
  · rename_i fs hu
    split at hk
    · rename_i hc
      simp at hc
      exact ⟨fs, hu, hc.1, hc.2, hk⟩
    · cases hk
  · cases hk
theorem nestStruct_is {t : TypeId} {ks : List SK} (hk : nestStruct P t = some ks) : (EqK.ns ks).is P t := by
  unfold nestStruct at hk
  split at hk
  · rename_i fs hu
    split at hk
    · rename_i hc
      simp at hc
      exact ⟨fs, hu, hc.1, hc.2, hk⟩
    · cases hk
  · cases hk
theorem eqT_is {t : TypeId} {k : EqK} (hk : eqT P t = some k) : k.is P t := by
  unfold eqT at hk
  split at hk
  · cases hk; rename_i h; exact h
  · cases hk; rename_i h; exact ⟨_, h⟩
  · cases hk; rename_i h; exact ⟨_, _, _, h⟩
  · cases hk; rename_i h; exact ⟨_, _, h⟩
  · split at hk
    · rename_i ks h1; cases hk; exact scalStruct_is h1
    · obtain ⟨ks, h1, rfl⟩ := optMap hk; exact nestStruct_is h1
  · cases hk
theorem keyT_is {t : TypeId} {k : EqK} (hk : keyT P t = some k) : k.is P t := by
  unfold keyT at hk
  split at hk
  · cases hk; rename_i h; exact scalT_is h
  · obtain ⟨ks, h1, rfl⟩ := optMap hk; exact scalStruct_is h1
theorem peq_run {t : TypeId} {k : EqK} (hk : k.is P t) {N : Nat → Prop} {p q : PV} {vp vq : Value} (hp : Rel w N ρ p vp) (hq : Rel w N ρ q vq) {r : Bool} (hm : peq k p q = some r) :
    (Op.equal t vp vq).run P w = .ok r w := by
  unfold Op.equal Op.maxDepth
  obtain ⟨d, hd, hpos⟩ : ∃ d, 10000 = d + 1 + 1 ∧ 0 < d := ⟨9998, rfl, by decide⟩
  rw [hd]
  clear hd
  unfold peq at hm
  split at hm
  · exact sc_run hk hp hq hm (d + 1)
  · rename_i ks x y
    obtain ⟨fs, h1, h2, _, h4⟩ := hk
    cases hp with
    | agg _ vx sx _ rx =>
      cases hq with
      | agg _ vy sy _ ry =>
        have hf : P.fieldsOf t = fs := by simp [Program.fieldsOf, h1]
        rw [run_equalIn_struct w (d + 1) t vx vy (by rw [hf]; exact h1) h2, hf]
        exact scalFields_run sx sy rx ry d fs.toList 0 ks h4 r (by simpa using hm)
  · rename_i ks x y
    obtain ⟨fs, h1, h2, _, h4⟩ := hk
    cases hp with
    | agg _ vx sx _ rx =>
      cases hq with
      | agg _ vy sy _ ry =>
        have hf : P.fieldsOf t = fs := by simp [Program.fieldsOf, h1]
        obtain ⟨d', rfl⟩ : ∃ d', d = d' + 1 := ⟨d - 1, by omega⟩
        rw [run_equalIn_struct w (d' + 1 + 1) t vx vy (by rw [hf]; exact h1) h2, hf]
        exact nestFields_run sx sy rx ry d' fs.toList 0 ks h4 r (by simpa using hm)
  · obtain ⟨e, he⟩ := hk; cases hp; cases hq; cases hm; unfold Op.equalIn; simp [run_underlying he]
  · obtain ⟨e, he⟩ := hk; cases hp; cases hq; cases hm; unfold Op.equalIn; simp [run_underlying he]
  · obtain ⟨e, he⟩ := hk; cases hp; cases hq; cases hm; unfold Op.equalIn; simp [run_underlying he]
  · obtain ⟨e, he⟩ := hk; cases hp; cases hq; cases hm; unfold Op.equalIn; simp [run_underlying he]
  · obtain ⟨e, he⟩ := hk; cases hp; cases hq; cases hm; unfold Op.equalIn; simp [run_underlying he]
  · obtain ⟨a, b, c, he⟩ := hk; cases hp; cases hq; cases hm; unfold Op.equalIn; simp [run_underlying he]
  · obtain ⟨a, b, c, he⟩ := hk; cases hp; cases hq; cases hm; unfold Op.equalIn; simp [run_underlying he]
  · obtain ⟨a, b, c, he⟩ := hk; cases hp; cases hq; cases hm; unfold Op.equalIn; simp [run_underlying he]
  · obtain ⟨a, b, he⟩ := hk; cases hp; cases hq; cases hm; unfold Op.equalIn; simp [run_underlying he]
  · obtain ⟨a, b, he⟩ := hk; cases hp; cases hq; cases hm; unfold Op.equalIn; simp [run_underlying he]
  · obtain ⟨a, b, he⟩ := hk; cases hp; cases hq; cases hm; unfold Op.equalIn; simp [run_underlying he]
  · cases hm
end Hp
end
section
namespace Hp
open Go
variable {P : Program} {τ : Tb} {w : World} {F : Fx τ} {ρ : Rho} {h : Heap} {nx : Nat} {A : Ann} {fr : Fr} {a : Act} {o : Oper} {op : POp} {v : PV} {ups : List (Nat × Option PObj)} {c : Nat}
theorem eq_run {t : TypeId} {k : EqK} (hk : k.is P t) (hns : ∀ sk, k = .sc sk → sk = .b) {N : Nat → Prop} {p q : PV} {vp vq : Value} (hp : Rel w N ρ p vp) (hq : Rel w N ρ q vq) {r : Bool} (hm : peq k p q = some r) (x y : Operand) (neg : Bool) :
    (do eqGuard (if neg then .neq else .eql) t x y vp vq; binOp (if neg then .neq else .eql) t vp vq).run P w = .ok (.bool (if neg then !r else r)) w := by
  have e := peq_run (P := P) hk hp hq hm
  unfold peq at hm
  split at hm
  · rename_i sk
    have := hns sk rfl
    subst this
    unfold scEq at hm
    split at hm
    · rename_i hh; cases hh
    · rename_i hh; cases hh
    · cases hp; cases hq; cases neg <;> simp [eqGuard_at_bool, binOp, e]
    · cases hm
  · rename_i ks x' y'
    obtain ⟨fs, h1, h2, h3, h4⟩ := hk
    cases hp with
    | agg _ vx sx _ rx =>
      cases hq with
      | agg _ vy sy _ ry =>
        cases neg <;> simp [run_eqGuard_agg (w := w) _ t x y vx vy h3, binOp, e]
  · rename_i ks x' y'
    obtain ⟨fs, h1, h2, h3, h4⟩ := hk
    cases hp with
    | agg _ vx sx _ rx =>
      cases hq with
      | agg _ vy sy _ ry =>
        cases neg <;> simp [run_eqGuard_agg (w := w) _ t x y vx vy h3, binOp, e]
  all_goals first | (cases hm; done) | (cases hp <;> cases hq <;> cases neg <;> simp [eqGuard_at_pointer, eqGuard_at_nilFunc, eqGuard_at_func, eqGuard_at_map, binOp, e])
theorem sim_bin {bo : BinOp} {t ty : TypeId} {x y : Operand} (hi : Inv w F ρ h nx) (hf : FrRel w (NN F h ρ) ρ fr a.tmps) (ho : o.op = .binOp bo t x y ty) (hr : rOp P A o = some op) (hm : mop fr h nx op = some (v, ups, c)) :
    Sim P w F ρ h nx a o v ups c := by
  unfold rOp at hr; rw [ho] at hr
  simp only at hr
  split at hr
  · rename_i x' y' h1 h2
    have fin : op = .bin bo x' y' → Sim P w F ρ h nx a o v ups c := by
      rintro rfl
      simp only [mop] at hm
      obtain ⟨h0, rfl, rfl⟩ := MR_v hm
      obtain ⟨vr, g1, g2⟩ := pbin_run (P := P) (t := t) (x := x) (y := y) (rOpd_rel h1 hf) (rOpd_rel h2 hf) h0
      exact Does.quiet hi (by simp only [execOp, ho]; rw [Sem.run_bind, g1]; rfl) g2
    have fine : ∀ neg k, bo = (if neg then .neq else .eql) → eqT P t = some k → op = .eq k neg x' y' → Sim P w F ρ h nx a o v ups c := by
      rintro neg k hb hk rfl
      simp only [mop] at hm
      obtain ⟨h0, rfl, rfl⟩ := MR_v hm
      obtain ⟨r, hr, rfl⟩ := optMap h0
      have g := eq_run (P := P) (t := t) (eqT_is hk) (by
        intro sk hs; subst hs
        unfold eqT at hk
        split at hk <;> first | (cases hk; rfl) | (cases hk; done) | (split at hk <;> first | (cases hk; done) | (obtain ⟨_, _, hh⟩ := optMap hk; cases hh))) (rOpd_rel h1 hf) (rOpd_rel h2 hf) hr x y neg
      rw [← hb] at g
      exact Does.quiet hi (by simp only [execOp, ho]; rw [Sem.run_bind, g]; rfl) (.bool _)
    split at hr
    · exact fin (by cases hr; rfl)
    · exact fin (by cases hr; rfl)
    · split at hr
      · obtain ⟨k, hk, rfl⟩ := optMap hr; exact fine false k rfl hk rfl
      · obtain ⟨k, hk, rfl⟩ := optMap hr; exact fine true k rfl hk rfl
      · cases hr
  · cases hr
theorem natOf_rel {N : Nat → Prop} {p : PV} {vp : Value} {n : Nat} (hp : Rel w N ρ p vp) (hn : natOf p = some n) : ∃ k, p = .int k (n : Int) ∧ vp = .int k (n : Int) := by
  unfold natOf at hn
  split at hn
  · rename_i k m
    cases hp
    split at hn
    · cases hn
      rename_i hm
      exact ⟨k, by rw [Int.toNat_of_nonneg hm], by rw [Int.toNat_of_nonneg hm]⟩
    · cases hn
  · cases hn
theorem sim_faddr {t : TypeId} {x : Operand} {f : Nat} (hi : Inv w F ρ h nx) (hf : FrRel w (NN F h ρ) ρ fr a.tmps) (ho : o.op = .fieldAddr t x f) (hr : rOp P A o = some op) (hm : mop fr h nx op = some (v, ups, c)) :
    Sim P w F ρ h nx a o v ups c := by
  unfold rOp at hr; rw [ho] at hr
  simp only at hr
  split at hr
  · rename_i fs x' hu hx
    split at hr
    · rename_i fd hfd
      split at hr
      · rename_i k hk
        cases hr
        have hx := rOpd_rel hx hf
        have hadd : ∀ b o', (fieldPlace ⟨b, o', none⟩ fd).run P w = .ok ⟨b, o' + fd.offset, none⟩ w := by
          intro b o'
          simp [fieldPlace, run_sizeOf hk, Addr_add]
        simp only [mop] at hm
        split at hm
        · rename_i id ix off hv
          simp only [Option.some.injEq, Prod.mk.injEq] at hm
          obtain ⟨rfl, rfl, rfl⟩ := hm
          rw [hv] at hx
          generalize he : a.eval x = va at hx
          cases hx with
          | mptr _ _ _ l hl =>
            refine Does.quiet hi (val := .pointer (some ⟨l.blk, l.base + ix * l.sz + off + fd.offset, none⟩)) ?_ ?_
            · simp [execOp, ho, he, Instr.fieldAt, run_underlying hu, hfd, Instr.sureAddr, hadd]
            · have := Rel.mptr (w := w) (N := NN F h ρ) id ix (off + fd.offset) l hl
              rwa [← Nat.add_assoc] at this
        · rename_i cs hv
          simp only [Option.some.injEq, Prod.mk.injEq] at hm
          obtain ⟨rfl, rfl, rfl⟩ := hm
          rw [hv] at hx
          generalize he : a.eval x = va at hx
          cases hx with
          | iptr b o' _ g hb hn hc h1 hr =>
            refine Does.quiet hi (val := .pointer (some ⟨b, o' + fd.offset, none⟩)) ?_ ?_
            · simp [execOp, ho, he, Instr.fieldAt, run_underlying hu, hfd, Instr.sureAddr, hadd]
            · refine .iptr b _ _ (fun i => g (fd.offset + i)) hb hn (fun i hi' => ?_) (fun i hi' => h1 _ (by simp at hi'; omega)) fun i hi' => ?_
              · rw [Nat.add_assoc]; exact hc _ (by simp at hi'; omega)
              · rw [getD_drop']; exact hr _ (by simp at hi'; omega)
        · cases hm
      · cases hr
    · cases hr
  · cases hr
theorem run_asIntOf (k : IntKind) (n : Int) : (asIntOf (.int k n)).run P w = .ok (k, n) w := rfl
theorem sim_iaddr {t : TypeId} {x i : Operand} (hi : Inv w F ρ h nx) (hf : FrRel w (NN F h ρ) ρ fr a.tmps) (ho : o.op = .indexAddr t x i) (hr : rOp P A o = some op) (hm : mop fr h nx op = some (v, ups, c)) :
    Sim P w F ρ h nx a o v ups c := by
  unfold rOp at hr; rw [ho] at hr
  simp only at hr
  split at hr
  · rename_i e x' i' hu hx hii
    obtain ⟨k, hk, rfl⟩ := optMap hr
    have hx := rOpd_rel hx hf
    have hii := rOpd_rel hii hf
    simp only [mop] at hm
    split at hm
    · rename_i n full sz' es hn hv
      split at hm
      · rename_i hs
        subst hs
        obtain ⟨h0, rfl, rfl⟩ := MR_v hm
        obtain ⟨el, hel, rfl⟩ := optMap h0
        obtain ⟨kk, e1, e2⟩ := natOf_rel hii hn
        rw [hv] at hx
        generalize he : a.eval x = va at hx
        have hlt : n < es.length := (List.getElem?_eq_some_iff.1 hel).1
        cases hx with
        | isl0 => simp at hlt
        | isl _ _ _ b o' cap g h1 h2 hb hN hs hc h3 hr =>
          refine Does.quiet hi (val := .pointer (some ⟨b, o' + n * k, none⟩)) ?_ ?_
          · simp [execOp, ho, he, e2, Instr.indexAt, run_asIntOf, run_underlying hu, run_sizeOf hk, Addr_add]
            intro hc; omega
          · have hs := hs n hlt
            rw [getD_of_some hel] at hs
            refine .iptr b _ _ (fun j => g n j) hb hN (fun j hj => hc n j hlt (by omega)) (fun j hj => h3 n j hlt (by omega)) fun j hj => ?_
            have := hr n j hlt (by omega)
            rwa [getD_of_some hel] at this
      · cases hm
    · rename_i n id off len cp hn hv
      split at hm
      · rename_i fz sz' es hh
        split at hm
        · rename_i hs
          obtain ⟨rfl, hlt⟩ := hs
          simp only [Option.some.injEq, Prod.mk.injEq] at hm
          obtain ⟨rfl, rfl, rfl⟩ := hm
          obtain ⟨kk, e1, e2⟩ := natOf_rel hii hn
          rw [hv] at hx
          generalize he : a.eval x = va at hx
          cases hx with
          | msl0 => omega
          | msl _ _ _ _ cap l c te f hl h1 h2 hb hsz =>
            have hsz' : l.sz = k := by
              rcases hi.obj id _ (harr_some hh) with ⟨_, hn⟩ | ⟨l', _, _, g1, g2, _⟩
              · rw [hl] at hn; cases hn
              · rw [hl] at g1; cases g1; exact g2
            refine Does.quiet hi (val := .pointer (some ⟨l.blk, l.base + off * l.sz + n * k, none⟩)) ?_ ?_
            · simp [execOp, ho, he, e2, Instr.indexAt, run_asIntOf, run_underlying hu, run_sizeOf hk, Addr_add]
              intro hc; omega
            · have := Rel.mptr (w := w) (N := NN F h ρ) id (off + n) 0 l hl
              have e3 : l.base + (off + n) * l.sz + 0 = l.base + off * l.sz + n * k := by rw [hsz', Nat.add_mul]; omega
              rwa [e3] at this
        · cases hm
      · cases hm
    · cases hm
  · rename_i m e x' i' hu hx hii
    obtain ⟨k, hk, rfl⟩ := optMap hr
    have hx := rOpd_rel hx hf
    have hii := rOpd_rel hii hf
    simp only [mop] at hm
    split at hm
    · rename_i n id ix off hn hv
      split at hm
      · rename_i hlt
        simp only [Option.some.injEq, Prod.mk.injEq] at hm
        obtain ⟨rfl, rfl, rfl⟩ := hm
        obtain ⟨kk, e1, e2⟩ := natOf_rel hii hn
        rw [hv] at hx
        generalize he : a.eval x = va at hx
        cases hx with
        | mptr _ _ _ l hl =>
          refine Does.quiet hi (val := .pointer (some ⟨l.blk, l.base + ix * l.sz + off + n * k, none⟩)) ?_ ?_
          · simp [execOp, ho, he, e2, Instr.indexAt, Instr.sureAddr, run_asIntOf, run_underlying hu, run_sizeOf hk, Addr_add]
            intro hc; omega
          · have := Rel.mptr (w := w) (N := NN F h ρ) id ix (off + n * k) l hl
            rwa [← Nat.add_assoc] at this
      · cases hm
    · rename_i n cs hn hv
      split at hm
      · rename_i hlt
        simp only [Option.some.injEq, Prod.mk.injEq] at hm
        obtain ⟨rfl, rfl, rfl⟩ := hm
        obtain ⟨kk, e1, e2⟩ := natOf_rel hii hn
        rw [hv] at hx
        generalize he : a.eval x = va at hx
        cases hx with
        | iptr b o' _ g hb hN hc h1 hr =>
          refine Does.quiet hi (val := .pointer (some ⟨b, o' + n * k, none⟩)) ?_ ?_
          · simp [execOp, ho, he, e2, Instr.indexAt, Instr.sureAddr, run_asIntOf, run_underlying hu, run_sizeOf hk, Addr_add]
            intro hc; omega
          · refine .iptr b _ _ (fun i => g (n * k + i)) hb hN (fun i hi' => ?_) (fun i hi' => h1 _ (by simp at hi'; omega)) fun i hi' => ?_
            · rw [Nat.add_assoc]; exact hc _ (by simp at hi'; omega)
            · rw [getD_drop']; exact hr _ (by simp at hi'; omega)
      · cases hm
    · cases hm
  · cases hr
end Hp
end
section
namespace Hp
open Go
variable {P : Program} {τ : Tb} {w : World} {F : Fx τ} {ρ : Rho} {h : Heap} {nx : Nat} {A : Ann} {fr : Fr} {a : Act} {o : Oper} {op : POp} {v : PV} {ups : List (Nat × Option PObj)} {c : Nat}
theorem sim_field {s : TypeId} {x : Operand} {i : Nat} (hi : Inv w F ρ h nx) (hf : FrRel w (NN F h ρ) ρ fr a.tmps) (ho : o.op = .field s x i) (hr : rOp P A o = some op) (hm : mop fr h nx op = some (v, ups, c)) :
    Sim P w F ρ h nx a o v ups c := by
  unfold rOp at hr; rw [ho] at hr
  simp only at hr
  split at hr
  case h_2 => cases hr
  rename_i fs x' hu hx
  split at hr
  case h_2 => cases hr
  rename_i f hfi
  split at hr
  case h_2 => cases hr
  rename_i k g hk hg
  split at hr
  case isFalse => cases hr
  rename_i hlt
  cases hr
  simp only [mop] at hm
  have hrx := rOpd_rel hx hf
  have hgg : (if g then 1 else 0) < 2 := by cases g <;> decide
  generalize hge : (if g then 1 else 0) = gg at hm hgg
  have e1 : (1000000 + (f.offset * 2000 + k * 2 + gg) - 1000000) / 2000 = f.offset := by omega
  have e2 : (1000000 + (f.offset * 2000 + k * 2 + gg) - 1000000) / 2 % 1000 = k := by omega
  have e3 : (1000000 + (f.offset * 2000 + k * 2 + gg)) % 2 = gg := by omega
  split at hm
  · rw [if_neg (by omega)] at hm; cases hm
  · rename_i cs hv
    rw [if_neg (by omega), e1, e2, e3] at hm
    obtain ⟨h1, rfl, rfl⟩ := MR_v hm
    rw [hv] at hrx
    generalize he : a.eval x = va at hrx
    cases hrx with
    | agg _ vs hs h1c hrr =>
      have hrun : ∀ val, (part f.type vs f.offset).run P w = .ok val w → (execOp a.eval o).run P w = .ok (.value val) w := by
        intro val hp
        simp [execOp, ho, he, Instr.field, run_underlying hu, hfi, asAgg, hp]
      cases g with
      | true =>
        have : gg = 1 := by simpa using hge.symm
        subst this
        simp only [fieldOf, if_true] at h1
        split at h1
        case isFalse => cases h1
        rename_i hle
        cases h1
        refine Does.quiet hi (hrun (.agg (vs.extract f.offset (f.offset + k))) (by simp [part, run_isAgg hg, run_sizeOf hk])) ?_
        have hlen : ((cs.drop f.offset).take k).length = k := by simp; omega
        refine .agg _ _ (by simp [hs]; omega) (fun j hj => ?_) fun j hj => ?_
        · rw [hlen] at hj
          rw [agetD_extract _ _ _ _ hj (by omega)]; exact h1c _ (by omega)
        · rw [hlen] at hj
          rw [agetD_extract _ _ _ _ hj (by omega), getD_drop_take _ _ _ _ _ hj]; exact hrr _ (by omega)
      | false =>
        have : gg = 0 := by simpa using hge.symm
        subst this
        simp only [fieldOf, Nat.zero_ne_one, if_false] at h1
        have hl : f.offset < cs.length := (List.getElem?_eq_some_iff.1 h1).1
        have hlw : f.offset < vs.size := by omega
        refine Does.quiet hi (hrun (vs.getD f.offset undef) (by simp [part, run_isAgg hg, Array.getElem?_eq_getElem hlw, Array.getD, hlw])) ?_
        have := hrr _ hl
        rwa [getD_of_some h1] at this
  · cases hm
theorem sim_sidx {t : TypeId} {x i : Operand} (hi : Inv w F ρ h nx) (hf : FrRel w (NN F h ρ) ρ fr a.tmps) (ho : o.op = .index t x i) (hr : rOp P A o = some op) (hm : mop fr h nx op = some (v, ups, c)) :
    Sim P w F ρ h nx a o v ups c := by
  unfold rOp at hr; rw [ho] at hr
  simp only at hr
  split at hr
  · rename_i x' i' hu hx hii
    cases hr
    have hx := rOpd_rel hx hf
    have hii := rOpd_rel hii hf
    simp only [mop] at hm
    split at hm
    · rename_i n s hn hv
      obtain ⟨h0, rfl, rfl⟩ := MR_v hm
      obtain ⟨b, hb, rfl⟩ := optMap h0
      obtain ⟨kk, e1, e2⟩ := natOf_rel hii hn
      rw [hv] at hx
      generalize he : a.eval x = va at hx
      cases hx
      refine Does.quiet hi (val := .int .u8 b.toNat) ?_ (.int ..)
      simp [execOp, ho, he, e2, Instr.index, run_asIntOf, run_underlying hu, hb]
    · cases hm
  · cases hr
theorem rOpt_some {x : Option Operand} {y : Option Opd} (hx : rOpt x = some y) : (x = none ∧ y = none) ∨ ∃ x' y', x = some x' ∧ y = some y' ∧ rOpd x' = some y' := by
  cases x with
  | none => simp only [rOpt] at hx; cases hx; exact .inl ⟨rfl, rfl⟩
  | some x' =>
    simp only [rOpt] at hx
    obtain ⟨y', h1, rfl⟩ := optMap hx
    exact .inr ⟨x', y', rfl, rfl, h1⟩
theorem run_sliceBound {k : IntKind} {n m : Nat} (hn : n ≤ m) (code : BoundsCode) : (Instr.sliceBound (.int k (n : Int)) m code).run P w = .ok n w := by
  have h1 : (0 : Int) ≤ n ∧ (n : Int) ≤ m := ⟨by omega, by omega⟩
  simp [Instr.sliceBound, run_asIntOf, h1]
/-- bounds as numbers -/
structure Bd (w : World) (N : Nat → Prop) (ρ : Rho) (fr : Fr) (a : Act) (lo hi mx : Option Operand) (lo' hi' mx' : Option Opd) : Prop where
  lo : (lo = none ∧ lo' = none) ∨ ∃ x' y', lo = some x' ∧ lo' = some y' ∧ Rel w N ρ (y'.get fr) (a.eval x')
  hi : (hi = none ∧ hi' = none) ∨ ∃ x' y', hi = some x' ∧ hi' = some y' ∧ Rel w N ρ (y'.get fr) (a.eval x')
  mx : (mx = none ∧ mx' = none) ∨ ∃ x' y', mx = some x' ∧ mx' = some y' ∧ Rel w N ρ (y'.get fr) (a.eval x')
theorem lo_run {N : Nat → Prop} {lo : Option Operand} {lo' : Option Opd} (hl : (lo = none ∧ lo' = none) ∨ ∃ x' y', lo = some x' ∧ lo' = some y' ∧ Rel w N ρ (y'.get fr) (a.eval x')) {d l : Nat} (hn : optNat fr d lo' = some l) :
    (lo = none ∧ l = d) ∨ ∃ x' k, lo = some x' ∧ a.eval x' = .int k (l : Int) := by
  rcases hl with ⟨rfl, rfl⟩ | ⟨x', y', rfl, rfl, hr⟩
  · simp only [optNat] at hn; cases hn; exact .inl ⟨rfl, rfl⟩
  · simp only [optNat] at hn
    obtain ⟨k, _, e2⟩ := natOf_rel hr hn
    exact .inr ⟨x', k, rfl, e2⟩
theorem hi_run {N : Nat → Prop} {hi : Option Operand} {hi' : Option Opd} (hl : (hi = none ∧ hi' = none) ∨ ∃ x' y', hi = some x' ∧ hi' = some y' ∧ Rel w N ρ (y'.get fr) (a.eval x')) :
    (∀ u, hiNat fr hi' = some (some u) → ∃ x' k, hi = some x' ∧ a.eval x' = .int k (u : Int)) ∧ (hiNat fr hi' = none → hi = none) := by
  rcases hl with ⟨rfl, rfl⟩ | ⟨x', y', rfl, rfl, hr⟩
  · exact ⟨fun u hu => by simp [hiNat] at hu, fun _ => rfl⟩
  · refine ⟨fun u hu => ?_, fun hu => by simp [hiNat] at hu⟩
    simp only [hiNat, Option.some.injEq] at hu
    obtain ⟨k, _, e2⟩ := natOf_rel hr hu
    exact ⟨x', k, rfl, e2⟩
/-- the three ways in which a slice is cut -/
theorem run_bounds (isS : Bool) {len cap l u m : Nat} {lo hi mx : Option Operand} (hlo : (lo = none ∧ l = 0) ∨ ∃ x' k, lo = some x' ∧ a.eval x' = .int k (l : Int))
    (hw : (hi = none ∧ mx = none ∧ u = len ∧ m = cap) ∨ ((∃ x' k, hi = some x' ∧ a.eval x' = .int k (u : Int)) ∧ ((mx = none ∧ m = cap) ∨ ∃ x' k, mx = some x' ∧ a.eval x' = .int k (m : Int))))
    (h1 : l ≤ u) (h2 : u ≤ m) (h3 : m ≤ cap) : (Instr.sliceBounds isS len cap (lo.map a.eval) (hi.map a.eval) (mx.map a.eval)).run P w = .ok (l, u, m) w := by
  unfold Instr.sliceBounds
  rcases hw with ⟨rfl, rfl, rfl, rfl⟩ | ⟨⟨x1, k1, rfl, e1⟩, ⟨rfl, rfl⟩ | ⟨x2, k2, rfl, e2⟩⟩
  · rcases hlo with ⟨rfl, rfl⟩ | ⟨x0, k0, rfl, e0⟩
    · simp
    · simp [e0, run_sliceBound h1]
  · rcases hlo with ⟨rfl, rfl⟩ | ⟨x0, k0, rfl, e0⟩
    · simp [e1, run_sliceBound h2]
    · simp [e1, run_sliceBound h2, e0, run_sliceBound h1]
  · rcases hlo with ⟨rfl, rfl⟩ | ⟨x0, k0, rfl, e0⟩
    · simp [e1, e2, run_sliceBound h2, run_sliceBound h3]
    · simp [e1, e2, run_sliceBound h2, run_sliceBound h3, e0, run_sliceBound h1]
theorem drop_take_getD {α : Type} (l : List α) (k n i : Nat) (d : α) (hi : i < n) : ((l.drop k).take n).getD i d = l.getD (k + i) d := by
  simp [List.getD, List.getElem?_take, hi, List.getElem?_drop]
theorem isl_cut {N : Nat → Prop} {full : Bool} {sz : Nat} {es : List PV} {ad : Option Addr} {n cap : Nat} (hx : Rel w N ρ (.isl full sz es) (.slice ad n cap)) (l u m : Nat) (h1 : l ≤ u) (h2 : u ≤ es.length) (h3 : u ≤ m) (h4 : m ≤ cap) (f2 : Bool) (hf2 : f2 = true → m = u)
    (k : Nat) (hk : l < u → k = sz) :
    Rel w N ρ (.isl f2 sz ((es.drop l).take (u - l))) (.slice (if m = l then ad else ad.map (·.add (l * k))) (u - l) (m - l)) := by
  by_cases hlu : l < u
  · have hkk := hk hlu
    subst hkk
    have hml : m ≠ l := by omega
    rw [if_neg hml]
    cases hx with
    | isl0 => simp at h2; omega
    | isl _ _ _ b o' _ g g1 g2 hb hN hs hc h3' hr =>
      have hlen : ((es.drop l).take (u - l)).length = u - l := by simp; omega
      have := Rel.isl (w := w) (N := N) (ρ := ρ) f2 k ((es.drop l).take (u - l)) b (o' + l * k) (m - l) (fun i j => g (l + i) j) (by rw [hlen]; omega) (by intro hf; rw [hlen, hf2 hf]) hb hN
        (fun i hi => by rw [hlen] at hi; rw [drop_take_getD _ _ _ _ _ hi]; exact hs _ (by omega))
        (fun i j hi hj => by
          rw [hlen] at hi
          have := hc (l + i) j (by omega) hj
          rw [Nat.add_mul] at this
          rw [← this]; congr 2; omega)
        (fun i j hi hj => by rw [hlen] at hi; exact h3' _ _ (by omega) hj)
        (fun i j hi hj => by rw [hlen] at hi; rw [drop_take_getD _ _ _ _ _ hi]; exact hr _ _ (by omega) hj)
      rw [hlen] at this
      simpa [Addr_add] using this
  · have e : u - l = 0 := by omega
    rw [e]
    simp only [List.take_zero]
    exact .isl0 _ _ _ _ fun hf => by have := hf2 hf; omega
theorem sim_slice {t : TypeId} {x : Operand} {lo hi' mx : Option Operand} (hi : Inv w F ρ h nx) (hf : FrRel w (NN F h ρ) ρ fr a.tmps) (ho : o.op = .slice t x lo hi' mx) (hr : rOp P A o = some op) (hm : mop fr h nx op = some (v, ups, c)) :
    Sim P w F ρ h nx a o v ups c := by
  unfold rOp at hr; rw [ho] at hr
  simp only at hr
  split at hr
  · rename_i e x' lo' hi2 mx' hu hx hlo hhi hmx
    obtain ⟨k, hk, rfl⟩ := optMap hr
    have hx := rOpd_rel hx hf
    have bd : ∀ {y : Option Operand} {z : Option Opd}, rOpt y = some z → (y = none ∧ z = none) ∨ ∃ x' y', y = some x' ∧ z = some y' ∧ Rel w (NN F h ρ) ρ (y'.get fr) (a.eval x') := by
      intro y z hyz
      rcases rOpt_some hyz with hh | ⟨x', y', h1, h2, h3⟩
      · exact .inl hh
      · exact .inr ⟨x', y', h1, h2, rOpd_rel h3 hf⟩
    simp only [mop] at hm
    obtain ⟨h0, rfl, rfl⟩ := MR_v hm
    have hh := hi_run (bd hhi)
    have hmm := hi_run (bd hmx)
    cases hl : optNat fr 0 lo' with
    | none => rw [hl] at h0; simp [sliceOf] at h0
    | some l =>
      rw [hl] at h0
      have hlo := lo_run (bd hlo) hl
      unfold sliceOf at h0
      split at h0
      · rename_i l' full sz es heq hv
        cases heq
        split at h0
        · cases h0
        · rename_i hksz
          rw [hv] at hx
          generalize he : a.eval x = va at hx
          have hlen : ∃ ad cap, va = .slice ad es.length cap ∧ es.length ≤ cap ∧ (full = true → cap = es.length) := by
            cases hx with
            | isl0 _ _ ad cap hcap => exact ⟨ad, cap, rfl, by simp, fun h => hcap h⟩
            | isl _ _ _ b o' cap g h1 h2 _ _ _ _ _ _ => exact ⟨_, cap, rfl, h1, h2⟩
          obtain ⟨ad, cap, rfl, hcap, hfull⟩ := hlen
          have hksz' : ∀ i, i < es.length → k = sz := by
            intro i hi'
            have : es ≠ [] := by intro hn; subst hn; simp at hi'
            simp at hksz
            exact hksz this
          have fin : ∀ (u m : Nat) (f2 : Bool), ((hi' = none ∧ mx = none ∧ u = es.length ∧ m = cap) ∨ ((∃ x' k, hi' = some x' ∧ a.eval x' = .int k (u : Int)) ∧ ((mx = none ∧ m = cap) ∨ ∃ x' k, mx = some x' ∧ a.eval x' = .int k (m : Int)))) →
              l ≤ u → u ≤ es.length → u ≤ m → m ≤ cap → (f2 = true → m = u) → v = .isl f2 sz ((es.drop l).take (u - l)) → Does P w F ρ h (execOp a.eval o) v h nx := by
            rintro u m f2 hw h1 h2 h3 h4 h5 rfl
            refine Does.quiet hi ?_ (isl_cut hx l u m h1 h2 h3 h4 f2 h5 k fun hlu => hksz' l (by omega))
            simp [execOp, ho, he, Instr.sliceAt, Instr.slice, run_underlying hu, run_bounds true hlo hw h1 h3 h4, run_sizeOf hk]
          split at h0
          · rename_i e1 e2
            split at h0
            · rename_i hle
              cases h0
              refine fin es.length cap full (.inl ⟨hh.2 e1, hmm.2 e2, rfl, rfl⟩) hle (Nat.le_refl _) hcap (Nat.le_refl _) hfull ?_
              congr 1
              rw [List.take_of_length_le]; simp
            · cases h0
          · rename_i u e1 e2
            split at h0
            · rename_i hle
              cases h0
              refine fin u cap _ (.inr ⟨hh.1 u e1, .inl ⟨hmm.2 e2, rfl⟩⟩) hle.1 hle.2 (by omega) (Nat.le_refl _) (fun hf2 => ?_) rfl
              simp at hf2
              rw [hf2.2]; exact hfull hf2.1
            · cases h0
          · rename_i u m e1 e2
            split at h0
            · rename_i hle
              cases h0
              refine fin u m _ (.inr ⟨hh.1 u e1, .inr (hmm.1 m e2)⟩) hle.1 (by omega) hle.2.1 (by omega) (fun hf2 => ?_) rfl
              simp at hf2
              exact hf2.symm
            · cases h0
          · cases h0
      · rename_i l' id off len cp heq hv
        cases heq
        split at h0
        · cases h0
        · rename_i fz sz es hh'
          split at h0
          · cases h0
          · rename_i hks
            have hks : k = sz := by simpa using hks
            subst hks
            rw [hv] at hx
            generalize he : a.eval x = va at hx
            have fin : ∀ (ad : Option Addr) (cap u m cp' : Nat), va = .slice ad len cap → ((hi' = none ∧ mx = none ∧ u = len ∧ m = cap) ∨ ((∃ x' k, hi' = some x' ∧ a.eval x' = .int k (u : Int)) ∧ ((mx = none ∧ m = cap) ∨ ∃ x' k, mx = some x' ∧ a.eval x' = .int k (m : Int)))) →
                l ≤ u → u ≤ m → m ≤ cap → cp' ≤ m - l → (ad = none → cap = 0) → v = .msl id (off + l) (u - l) cp' →
                (∀ ba, ad = some ba → (len = 0 ∧ cap = 0) ∨ ∃ l' : Loc, ∃ (c : Array Value) (te : TypeId) (f : Nat × Nat), ρ id = some l' ∧ ba = ⟨l'.blk, l'.base + off * l'.sz, none⟩ ∧ w.heap[l'.blk]? = some (.cells c te f) ∧ l'.base + (off + cap) * l'.sz ≤ c.size) → Does P w F ρ h (execOp a.eval o) v h nx := by
              rintro ad cap u m cp' rfl hw h1 h2 h3 h4 h6 rfl h5
              refine Does.quiet hi (val := .slice (if m = l then ad else ad.map (·.add (l * k))) (u - l) (m - l)) ?_ ?_
              · simp [execOp, ho, he, Instr.sliceAt, Instr.slice, run_underlying hu, run_bounds true hlo hw h1 h2 h3, run_sizeOf hk]
              · by_cases hml : m = l
                · have e1 : u - l = 0 := by omega
                  have e2 : m - l = 0 := by omega
                  have e3 : cp' = 0 := by omega
                  rw [e1, e2, e3]; exact .msl0 ..
                · rw [if_neg hml]
                  cases ad with
                  | none => have := h6 rfl; omega
                  | some ba =>
                    rcases h5 ba rfl with ⟨_, hc0⟩ | ⟨l', c, te, f, hl', rfl, hb, hsz⟩
                    · omega
                    · have hsz' : l'.sz = k := by
                        rcases hi.obj id _ (harr_some hh') with ⟨_, hn⟩ | ⟨l2, _, _, g1, g2, _⟩
                        · rw [hl'] at hn; cases hn
                        · rw [hl'] at g1; cases g1; exact g2
                      have := Rel.msl (w := w) (N := NN F h ρ) id (off + l) (u - l) cp' (m - l) l' c te f hl' (by omega) h4 hb (by
                        refine Nat.le_trans (Nat.add_le_add_left (Nat.mul_le_mul_right _ ?_) _) hsz
                        omega)
                      simp only [Option.map_some, Addr_add]
                      rw [Nat.add_mul, ← Nat.add_assoc, hsz'] at this
                      rw [hsz']; exact this
            have facts : ∃ ad cap, va = .slice ad len cap ∧ len ≤ cap ∧ cp ≤ cap ∧ (ad = none → cap = 0) ∧ ∀ ba, ad = some ba → (len = 0 ∧ cap = 0) ∨ ∃ l' : Loc, ∃ (c : Array Value) (te : TypeId) (f : Nat × Nat), ρ id = some l' ∧ ba = ⟨l'.blk, l'.base + off * l'.sz, none⟩ ∧ w.heap[l'.blk]? = some (.cells c te f) ∧ l'.base + (off + cap) * l'.sz ≤ c.size := by
              cases hx with
              | msl0 => exact ⟨_, 0, rfl, by omega, by omega, fun _ => rfl, fun _ _ => .inl ⟨rfl, rfl⟩⟩
              | msl _ _ _ _ cap l' c te f hl' h1 h2 hb hsz => exact ⟨_, cap, rfl, h1, h2, (fun hn => by cases hn), fun ba hba => by cases hba; exact .inr ⟨l', c, te, f, hl', rfl, hb, hsz⟩⟩
            obtain ⟨ad, cap, hva, hlc, hcc, hn0, hfacts⟩ := facts
            split at h0
            · rename_i e1 e2
              split at h0
              · rename_i hle
                cases h0
                exact fin ad cap len cap _ hva (.inl ⟨hh.2 e1, hmm.2 e2, rfl, rfl⟩) hle.1 hlc (Nat.le_refl _) (by omega) hn0 rfl hfacts
              · cases h0
            · rename_i u e1 e2
              split at h0
              · rename_i hle
                cases h0
                exact fin ad cap u cap _ hva (.inr ⟨hh.1 u e1, .inl ⟨hmm.2 e2, rfl⟩⟩) hle.1 (by omega) (Nat.le_refl _) (by omega) hn0 rfl hfacts
              · cases h0
            · rename_i u m e1 e2
              split at h0
              · rename_i hle
                cases h0
                exact fin ad cap u m _ hva (.inr ⟨hh.1 u e1, .inr (hmm.1 m e2)⟩) hle.1 hle.2.1 (by omega) (Nat.le_refl _) hn0 rfl hfacts
              · cases h0
            · cases h0
      · cases h0
  · rename_i x' lo' hi2 hu hx hlo hhi hmx
    cases hr
    have hx := rOpd_rel hx hf
    have bd : ∀ {y : Option Operand} {z : Option Opd}, rOpt y = some z → (y = none ∧ z = none) ∨ ∃ x' y', y = some x' ∧ z = some y' ∧ Rel w (NN F h ρ) ρ (y'.get fr) (a.eval x') := by
      intro y z hyz
      rcases rOpt_some hyz with hh | ⟨x', y', h1, h2, h3⟩
      · exact .inl hh
      · exact .inr ⟨x', y', h1, h2, rOpd_rel h3 hf⟩
    have hmx0 : mx = none := by
      rcases rOpt_some hmx with ⟨h1, _⟩ | ⟨_, _, _, h2, _⟩
      · exact h1
      · cases h2
    simp only [mop] at hm
    split at hm
    · rename_i s hv
      rw [hv] at hx
      generalize he : a.eval x = va at hx
      cases hx
      split at hm
      · rename_i l u hl hu'
        split at hm
        · rename_i hle
          simp only [Option.some.injEq, Prod.mk.injEq] at hm
          obtain ⟨rfl, rfl, rfl⟩ := hm
          have hlo := lo_run (bd hlo) hl
          have hhi := lo_run (bd hhi) hu'
          have hw : (hi' = none ∧ mx = none ∧ u = s.size ∧ s.size = s.size) ∨ ((∃ x' k, hi' = some x' ∧ a.eval x' = .int k (u : Int)) ∧ ((mx = none ∧ s.size = s.size) ∨ ∃ x' k, mx = some x' ∧ a.eval x' = .int k (s.size : Int))) := by
            rcases hhi with ⟨h1, h2⟩ | h1
            · exact .inl ⟨h1, hmx0, h2, rfl⟩
            · exact .inr ⟨h1, .inl ⟨hmx0, rfl⟩⟩
          have hrun := run_bounds (P := P) (w := w) false hlo hw hle.1 hle.2 (Nat.le_refl _)
          refine Does.quiet hi (val := .string (s.extract l u)) ?_ (.str ..)
          subst hmx0
          simp only [Option.map_none] at hrun
          simp [execOp, ho, he, Instr.sliceAt, Instr.slice, run_underlying hu, hrun]
        · cases hm
      · cases hm
    · cases hm
  · cases hr
theorem sim_len {t ty : TypeId} {x : Operand} (hi : Inv w F ρ h nx) (hf : FrRel w (NN F h ρ) ρ fr a.tmps) {x' : Opd} (hx : rOpd x = some x') {k : Nat}
    (hu : (k = 0 ∧ P.underlying t = some .string) ∨ (k = 1 ∧ ∃ e, P.underlying t = some (.slice e)) ∨ (k = 2 ∧ ∃ kt e, P.underlying t = some (.map kt e)))
    (hm : mop fr h nx (.len k x') = some (v, ups, c)) : Does P w F ρ h (do pure (.value (← Builtin.len_ #[t] ty #[a.eval x]))) v (hsets h ups) (nx + c) := by
  have hx := rOpd_rel hx hf
  simp only [mop] at hm
  split at hm
  · rename_i _ s hv
    simp only [Option.some.injEq, Prod.mk.injEq] at hm
    obtain ⟨rfl, rfl, rfl⟩ := hm
    rw [hv] at hx
    generalize he : a.eval x = va at hx
    cases hx
    rcases hu with ⟨_, hu⟩ | ⟨h1, _⟩ | ⟨h1, _⟩
    · exact Does.quiet hi (by simp [Builtin.len_, run_underlying hu, goInt]) (.int ..)
    · cases h1
    · cases h1
  · rename_i _ full sz es hv
    simp only [Option.some.injEq, Prod.mk.injEq] at hm
    obtain ⟨rfl, rfl, rfl⟩ := hm
    rw [hv] at hx
    generalize he : a.eval x = va at hx
    rcases hu with ⟨h1, _⟩ | ⟨_, e, hu⟩ | ⟨h1, _⟩
    · cases h1
    · cases hx with
      | isl0 => exact Does.quiet hi (val := .int .i64 0) (by simp [Builtin.len_, run_underlying hu, goInt]) (.int ..)
      | isl => exact Does.quiet hi (val := .int .i64 es.length) (by simp [Builtin.len_, run_underlying hu, goInt]) (.int ..)
    · cases h1
  · rename_i _ id off n cp hv
    simp only [Option.some.injEq, Prod.mk.injEq] at hm
    obtain ⟨rfl, rfl, rfl⟩ := hm
    rw [hv] at hx
    generalize he : a.eval x = va at hx
    rcases hu with ⟨h1, _⟩ | ⟨_, e, hu⟩ | ⟨h1, _⟩
    · cases h1
    · cases hx with
      | msl0 => exact Does.quiet hi (val := .int .i64 0) (by simp [Builtin.len_, run_underlying hu, goInt]) (.int ..)
      | msl => exact Does.quiet hi (val := .int .i64 n) (by simp [Builtin.len_, run_underlying hu, goInt]) (.int ..)
    · cases h1
  · rename_i _ hv
    simp only [Option.some.injEq, Prod.mk.injEq] at hm
    obtain ⟨rfl, rfl, rfl⟩ := hm
    rw [hv] at hx
    generalize he : a.eval x = va at hx
    cases hx
    rcases hu with ⟨h1, _⟩ | ⟨h1, _⟩ | ⟨_, kt, e, hu⟩
    · cases h1
    · cases h1
    · exact Does.quiet hi (by simp [Builtin.len_, run_underlying hu, goInt]) (.int ..)
  · rename_i _ id hv
    rw [hv] at hx
    generalize he : a.eval x = va at hx
    split at hm
    · rename_i fz es clk hg
      simp only [Option.some.injEq, Prod.mk.injEq] at hm
      obtain ⟨rfl, rfl, rfl⟩ := hm
      cases hx with
      | map _ l hl =>
        obtain ⟨l', m, h1, h2, h3, _⟩ := hi.obj id _ hg
        rw [hl] at h1; cases h1
        rcases hu with ⟨h1, _⟩ | ⟨h1, _⟩ | ⟨_, kt, e, hu⟩
        · cases h1
        · cases h1
        · have hgo : (getObj l.blk).run P w = .ok (.map m clk) w := by simp [getObj, Sem.run, h2]
          exact Does.quiet hi (val := .int .i64 es.length) (by simp [Builtin.len_, run_underlying hu, goInt, hgo, h3]) (.int ..)
    · cases hm
  · cases hm
theorem sim_max {x y : Operand} (hi : Inv w F ρ h nx) (hf : FrRel w (NN F h ρ) ρ fr a.tmps) {x' y' : Opd} (hx : rOpd x = some x') (hy : rOpd y = some y') (ts : Array TypeId) (ty : TypeId) (mx : Bool)
    (hm : mop fr h nx (if mx then .maxi x' y' else .mini x' y') = some (v, ups, c)) :
    Does P w F ρ h (do pure (.value (← (if mx then Builtin.max_ ts ty #[a.eval x, a.eval y] else Builtin.min_ ts ty #[a.eval x, a.eval y])))) v (hsets h ups) (nx + c) := by
  have hx := rOpd_rel hx hf
  have hy := rOpd_rel hy hf
  cases mx with
  | true =>
    simp only [mop, if_true] at hm
    split at hm
    · rename_i k m k' n hv hv'
      simp only [Option.some.injEq, Prod.mk.injEq] at hm
      obtain ⟨rfl, rfl, rfl⟩ := hm
      rw [hv] at hx; rw [hv'] at hy
      generalize he : a.eval x = va at hx
      generalize he' : a.eval y = vb at hy
      cases hx; cases hy
      exact Does.quiet hi (val := .int k (if n > m then n else m)) (by simp [Builtin.max_, Builtin.max2]) (.int ..)
    · cases hm
  | false =>
    simp only [mop, if_false, Bool.false_eq_true] at hm
    split at hm
    · rename_i k m k' n hv hv'
      simp only [Option.some.injEq, Prod.mk.injEq] at hm
      obtain ⟨rfl, rfl, rfl⟩ := hm
      rw [hv] at hx; rw [hv'] at hy
      generalize he : a.eval x = va at hx
      generalize he' : a.eval y = vb at hy
      cases hx; cases hy
      exact Does.quiet hi (val := .int k (if n < m then n else m)) (by simp [Builtin.min_, Builtin.min2]) (.int ..)
    · cases hm
theorem sim_alloc {t : TypeId} (hi : Inv w F ρ h nx) (ho : o.op = .alloc t) (hr : rOp P A o = some op) (hV : 0 < c → ¬ F.ids nx) (hm : mop fr h nx op = some (v, ups, c)) : Sim P w F ρ h nx a o v ups c := by
  unfold rOp at hr; rw [ho] at hr
  simp only at hr
  split at hr
  · rename_i k z hk hz
    cases hr
    simp only [mop, Option.some.injEq, Prod.mk.injEq] at hm
    obtain ⟨rfl, rfl, rfl⟩ := hm
    obtain ⟨val, i, h1, h2, h3, h4, h5, h6, h7⟩ := run_zero hz w
    have hpos : 0 < z.cells.length := by simp [sizeT, h1] at hk; omega
    have := newVar_does (P := P) hi (hV Nat.one_pos) t (toPV_rel (w := w) (N := NN F h ρ) (ρ := ρ) 8 val z h4).1 h5 hpos
    exact this.of_run (by simp [execOp, ho, Instr.alloc, h3])
  · cases hr
theorem sim_box {t : TypeId} {x : Operand} (hi : Inv w F ρ h nx) (hf : FrRel w (NN F h ρ) ρ fr a.tmps) (ho : o.op = .box t x) (hr : rOp P A o = some op) (hV : 0 < c → ¬ F.ids nx) (hm : mop fr h nx op = some (v, ups, c)) : Sim P w F ρ h nx a o v ups c := by
  unfold rOp at hr; rw [ho] at hr
  simp only at hr
  split at hr
  · rename_i k y hk hy
    cases hr
    simp only [mop] at hm
    split at hm
    · rename_i hok
      simp only [Option.some.injEq, Prod.mk.injEq] at hm
      obtain ⟨rfl, rfl, rfl⟩ := hm
      have := newVar_does (P := P) hi (hV Nat.one_pos) t (rOpd_rel hy hf) hok.1 (by omega)
      rw [hok.2] at this
      exact this.of_run (by simp [execOp, ho, Instr.box])
    · cases hm
  · cases hr
theorem sim_load {t : TypeId} {x : Operand} (hi : Inv w F ρ h nx) (hf : FrRel w (NN F h ρ) ρ fr a.tmps) (ho : o.op = .load t x) (hr : rOp P A o = some op) (hm : mop fr h nx op = some (v, ups, c)) : Sim P w F ρ h nx a o v ups c := by
  unfold rOp at hr; rw [ho] at hr
  simp only at hr
  split at hr
  · rename_i k g x' h1 h2 h3
    cases hr
    simp only [mop] at hm
    obtain ⟨h0, rfl, rfl⟩ := MR_v hm
    have := load_does (P := P) hi h1 h2 (rOpd_rel h3 hf) h0
    exact this.of_run (by simp [execOp, ho])
  · cases hr
theorem sim_store {t : TypeId} {x y : Operand} (hi : Inv w F ρ h nx) (hf : FrRel w (NN F h ρ) ρ fr a.tmps) (ho : o.op = .store t x y) (hr : rOp P A o = some op) (hm : mop fr h nx op = some (v, ups, c)) : Sim P w F ρ h nx a o v ups c := by
  unfold rOp at hr; rw [ho] at hr
  simp only at hr
  split at hr
  · rename_i k x' y' h1 h2 h3
    cases hr
    simp only [mop] at hm
    split at hm
    · rename_i id ix off hv
      split at hm
      · rename_i sz es hh
        split at hm
        · rename_i e he
          split at hm
          · rename_i hok
            split at hm
            · rename_i e' hp
              simp only [Option.some.injEq, Prod.mk.injEq] at hm
              obtain ⟨rfl, rfl, rfl⟩ := hm
              have hx := rOpd_rel h2 hf
              rw [hv] at hx
              have := store_does (P := P) hi h1 hx (rOpd_rel h3 hf) hh he hok.1 hok.2 hp
              exact this.of_run (by simp [execOp, ho])
            · cases hm
          · cases hm
        · cases hm
      · cases hm
    · cases hm
  · cases hr
end Hp
end
section
namespace Hp
open Go
variable {P : Program} {τ : Tb} {w : World} {F : Fx τ} {ρ : Rho} {h : Heap} {nx : Nat} {A : Ann} {fr : Fr} {a : Act} {o : Oper} {op : POp} {v : PV} {ups : List (Nat × Option PObj)} {c : Nat}
theorem fold_at (off : Nat) : ∀ (l : List Value) (k : Nat) (cells : Array Value), off + k + l.length ≤ cells.size →
    ((l.zipIdx k).foldl (fun cs p => cs.setIfInBounds (off + p.2) p.1) cells).size = cells.size ∧
    ∀ q, ((l.zipIdx k).foldl (fun cs p => cs.setIfInBounds (off + p.2) p.1) cells).getD q undef = if off + k ≤ q ∧ q < off + k + l.length then l.getD (q - (off + k)) undef else cells.getD q undef
  | [], k, cells, _ => ⟨rfl, fun q => by simp; intro h1 h2; omega⟩
  | v :: l, k, cells, hl => by
    have hl' : off + (k + 1) + l.length ≤ (cells.setIfInBounds (off + k) v).size := by simp at hl ⊢; omega
    obtain ⟨h1, h2⟩ := fold_at off l (k + 1) (cells.setIfInBounds (off + k) v) hl'
    simp only [List.zipIdx_cons, List.foldl_cons]
    refine ⟨h1.trans (by simp), fun q => ?_⟩
    rw [h2 q]
    simp only [List.length_cons]
    by_cases hq : q = off + k
    · subst hq
      rw [if_neg (by omega), if_pos (by omega)]
      have hlt : off + k < cells.size := by simp at hl; omega
      simp [Array.getD, hlt]
    · by_cases hr : off + (k + 1) ≤ q ∧ q < off + (k + 1) + l.length
      · rw [if_pos hr, if_pos (by omega)]
        have e : q - (off + k) = (q - (off + (k + 1))) + 1 := by omega
        rw [e]; simp [List.getD]
      · rw [if_neg hr, if_neg (by omega)]
        rw [Array.getD_eq_getD_getElem?, Array.getD_eq_getD_getElem?, Array.getElem?_setIfInBounds_ne (fun he => hq he.symm)]
theorem fill_step (vs cells : Array Value) (off : Nat) (hl : off + vs.size ≤ cells.size) :
    (vs.zipIdx.foldl (fun cs (c, j) => cs.setIfInBounds (off + j) c) cells).size = cells.size ∧
    ∀ q, (vs.zipIdx.foldl (fun cs (c, j) => cs.setIfInBounds (off + j) c) cells).getD q undef = if off ≤ q ∧ q < off + vs.size then vs.getD (q - off) undef else cells.getD q undef := by
  have := fold_at off vs.toList 0 cells (by simpa using hl)
  rw [← Array.foldl_toList]
  simp only [Array.toList_zipIdx]
  obtain ⟨h1, h2⟩ := this
  refine ⟨h1, fun q => ?_⟩
  have := h2 q
  simp only [Nat.add_zero, Array.length_toList] at this
  rw [agetD vs]
  exact this
theorem splice_getD (cs new : List PV) (off : Nat) (hle : off + new.length ≤ cs.length) (j : Nat) :
    (cs.take off ++ new ++ cs.drop (off + new.length)).getD j .any = if off ≤ j ∧ j < off + new.length then new.getD (j - off) .any else cs.getD j .any := by
  simp only [List.getD, List.append_assoc]
  have hlen : (cs.take off).length = off := by simp; omega
  by_cases h1 : j < off
  · rw [if_neg (by omega), List.getElem?_append_left (by omega), List.getElem?_take, if_pos h1]
  · rw [List.getElem?_append_right (by omega), hlen]
    by_cases h2 : j < off + new.length
    · rw [if_pos (by omega), List.getElem?_append_left (by omega)]
    · rw [if_neg (by omega), List.getElem?_append_right (by omega), List.getElem?_drop]
      have : off + new.length + (j - off - new.length) = j := by omega
      rw [this]
theorem fill_rel {pl : Nat → Option (Nat × Nat)} {N : Nat → Prop} (hf : FrRel w N ρ fr a.tmps) : ∀ (ps : List (Nat × Operand)) (ps' : List (Nat × Nat × Opd)) (zero : List PV) (cells : Array Value) (r : List PV),
    rParts pl ps = some ps' → CRel w N ρ zero cells.toList → fillCells zero (ps'.map fun (o, k, x) => (o, k, x.get fr)) = some r →
    ∃ cells', Instr.fill pl cells (ps.map fun (i, x) => (i, a.eval x)) = some cells' ∧ CRel w N ρ r cells'.toList
  | [], ps', zero, cells, r, hp, hz, hr => by
    simp only [rParts, Option.some.injEq] at hp
    subst hp
    simp [fillCells] at hr
    subst hr
    exact ⟨cells, by simp [Instr.fill], hz⟩
  | (i, x) :: ps, ps', zero, cells, r, hp, hz, hr => by
    simp only [rParts] at hp
    split at hp
    · rename_i off k x' l' h1 h2 h3
      cases hp
      simp only [List.map_cons, fillCells] at hr
      split at hr
      · rename_i hok
        obtain ⟨g1, g2, g3⟩ := hok
        have hc := (rOpd_rel h2 hf).cells g1
        have hvs : (a.eval x).cells.size = k := by have := hc.1; simp at this; omega
        have hsz : cells.size = zero.length := by have := hz.1; simpa using this
        obtain ⟨q1, q2⟩ := fill_step (a.eval x).cells cells off (by omega)
        have hz' : CRel w N ρ (zero.take off ++ (x'.get fr).cells ++ zero.drop (off + k))
            ((a.eval x).cells.zipIdx.foldl (fun cs (c, j) => cs.setIfInBounds (off + j) c) cells).toList := by
          have hlenr : (zero.take off ++ (x'.get fr).cells ++ zero.drop (off + k)).length = zero.length := by simp; omega
          refine ⟨by rw [hlenr]; simp only [Array.length_toList, q1, hsz], fun j hj => ?_⟩
          rw [hlenr] at hj
          rw [← agetD (α := Value), q2 j, hvs]
          rw [← g2, splice_getD _ _ _ (by omega) j, g2]
          by_cases hjr : off ≤ j ∧ j < off + k
          · rw [if_pos hjr, if_pos hjr]
            have := hc.2 (j - off) (by omega)
            rw [← agetD (α := Value)] at this; exact this
          · rw [if_neg hjr, if_neg hjr]
            have := hz.2 j hj
            rw [← agetD (α := Value)] at this; exact this
        obtain ⟨cells', e1, e2⟩ := fill_rel hf ps l' _ _ r h3 hz' hr
        refine ⟨cells', ?_, e2⟩
        simp only [List.map_cons, Instr.fill, h1, hvs]
        rw [if_neg (by simp; omega)]
        exact e1
      · cases hr
    · cases hp
theorem sim_build {t : TypeId} {ps : Array (Nat × Operand)} (hi : Inv w F ρ h nx) (hf : FrRel w (NN F h ρ) ρ fr a.tmps) (ho : o.op = .build t ps) (hr : rOp P A o = some op) (hm : mop fr h nx op = some (v, ups, c)) : Sim P w F ρ h nx a o v ups c := by
  unfold rOp at hr; rw [ho] at hr
  simp only at hr
  split at hr
  · rename_i z pl hz hpl
    obtain ⟨ps', hps, rfl⟩ := optMap hr
    simp only [mop] at hm
    obtain ⟨h0, rfl, rfl⟩ := MR_v hm
    obtain ⟨r, hfill, rfl⟩ := optMap h0
    obtain ⟨zv, i, h1, h2, h3, h4, h5, h6, h7⟩ := run_zero hz w
    have hzr := (toPV_rel (w := w) (N := NN F h ρ) (ρ := ρ) 8 zv _ h4).1.cells h5
    obtain ⟨cells', e1, e2⟩ := fill_rel hf ps.toList ps' z zv.cells r hps hzr hfill
    have hb : P.built t (ps.toList.map fun (i, x) => (i, a.eval x)) = some cells' := by
      unfold Program.built
      unfold placesT at hpl
      split at hpl
      · rename_i fs hu
        obtain ⟨l, hl, rfl⟩ := optMap hpl
        simp only [h1, hu, h2, hl]
        exact e1
      · rename_i m e hu
        obtain ⟨ie, hie, rfl⟩ := optMap hpl
        simp only [h1, hu, h2, hie]
        exact e1
      · cases hpl
    have hrun := run_build (P := P) w t (ps.map fun (i, x) => (i, a.eval x)) cells' (by simpa using hb)
    refine Does.quiet hi (val := .agg cells') (by simp [execOp, ho, hrun]) (.agg _ _ (by have := e2.1; simpa using this) (fun j hj => ?_) fun j hj => ?_)
    · rw [agetD]; exact (e2.2 j hj).2
    · rw [agetD]; exact (e2.2 j hj).1
  · cases hr
end Hp
end
section
namespace Hp
open Go
variable {P : Program} {τ : Tb} {w : World} {F : Fx τ} {ρ : Rho} {h : Heap} {nx : Nat} {A : Ann} {fr : Fr} {a : Act} {o : Oper} {op : POp} {v : PV} {ups : List (Nat × Option PObj)} {c : Nat}
/-- elements and the cells in which they lie -/
def ERel (w : World) (N : Nat → Prop) (ρ : Rho) (k : Nat) (es : List PV) (cs : Array Value) : Prop :=
  es.length * k ≤ cs.size ∧ ∀ i, i < es.length → (es.getD i .any).cells.length = k ∧ ∀ j, j < k → Rel w N ρ ((es.getD i .any).cells.getD j .any) (cs.getD (i * k + j) undef) ∧ (cs.getD (i * k + j) undef).oneCell' = true
theorem newRow_does (hi : Inv w F ρ h nx) (hV : ¬ F.ids nx) (t : TypeId) {cs : Array Value} {es : List PV} {sz : Nat} (he : ERel w (NN F h ρ) ρ sz es cs) (len cp cap : Nat) (h1 : len ≤ cap) (h2 : cp ≤ cap) (h3 : cap * sz ≤ cs.size) (hpos : 0 < sz) :
    Inv (w.alloc (.cells cs t)) F (updR ρ nx ⟨w.heap.size, 0, sz⟩) (hset h nx (some (.arr sz es))) (nx + 1) ∧
    Grow w h ρ (w.alloc (.cells cs t)) (hset h nx (some (.arr sz es))) (updR ρ nx ⟨w.heap.size, 0, sz⟩) ∧
    Rel (w.alloc (.cells cs t)) (NN F (hset h nx (some (.arr sz es))) (updR ρ nx ⟨w.heap.size, 0, sz⟩)) (updR ρ nx ⟨w.heap.size, 0, sz⟩) (.msl nx 0 len cp) (.slice (some ⟨w.heap.size, 0, none⟩) len cap) := by
  obtain ⟨g1, g2⟩ := hi.alloc hV (.cells cs t) (.arr sz es) sz (by
    intro N' ρ' hkeep hn
    refine .inr ⟨_, cs, t, hn, rfl, heap_alloc_new .., hpos, by simpa using he.1, fun i hi' => (he.2 i hi').1, fun i j hi' hj => ?_⟩
    have := (he.2 i hi').2 j hj
    simp only [Nat.zero_add]
    exact ⟨this.1.keep hkeep, this.2⟩)
  refine ⟨g1, g2, ?_⟩
  have := Rel.msl (w := w.alloc (.cells cs t)) (N := NN F (hset h nx (some (.arr sz es))) (updR ρ nx ⟨w.heap.size, 0, sz⟩)) (ρ := updR ρ nx ⟨w.heap.size, 0, sz⟩) nx 0 len cp cap _ cs t (0, 0) (updR_same ..) h1 h2 (heap_alloc_new ..) (by simpa using h3)
  simpa using this
theorem zeros_rel {N : Nat → Prop} {z : PV} {zv : Value} {k : Nat} (hz : CRel w N ρ z.cells zv.cells.toList) (hk : z.cells.length = k) (n : Nat) :
    ERel w N ρ k (List.replicate n z) ((Array.range (n * k)).map (zv.cells[· % zv.cells.size]!)) := by
  have hsz : zv.cells.size = k := by have := hz.1; simp at this; omega
  refine ⟨by simp, fun i hi => ?_⟩
  have hi' : i < n := by simpa using hi
  have hg : (List.replicate n z).getD i .any = z := by simp [List.getD, List.getElem?_replicate, hi']
  rw [hg]
  refine ⟨hk, fun j hj => ?_⟩
  have hq : i * k + j < n * k := by
    have := Nat.mul_le_mul_right k (show i + 1 ≤ n from hi')
    rw [Nat.succ_mul] at this; omega
  have hmod : (i * k + j) % zv.cells.size = j := by rw [hsz, Nat.mul_comm, Nat.mul_add_mod, Nat.mod_eq_of_lt hj]
  have hv : (((Array.range (n * k)).map (zv.cells[· % zv.cells.size]!)).getD (i * k + j) undef) = zv.cells.getD j undef := by
    have hj' : j < zv.cells.size := by omega
    simp [Array.getD, hq, hmod, hj']
  rw [hv, agetD]
  exact hz.2 j (by omega)
theorem zeros_rel0 {N : Nat → Prop} {z : PV} {k : Nat} (n : Nat) (hk : z.cells.length = k) (h0 : n * k = 0) (cs : Array Value) : ERel w N ρ k (List.replicate n z) cs := by
  refine ⟨by simp [h0], fun i hi => ?_⟩
  have hi' : i < n := by simpa using hi
  have hg : (List.replicate n z).getD i .any = z := by simp [List.getD, List.getElem?_replicate, hi']
  have hk0 : k = 0 := by rcases Nat.mul_eq_zero.1 h0 with h | h <;> omega
  rw [hg]
  exact ⟨hk, fun j hj => by omega⟩
theorem fillE_rel {k : Nat} {N : Nat → Prop} (hf : FrRel w N ρ fr a.tmps) : ∀ (ps : List (Nat × Operand)) (ps' : List (Nat × Opd)) (es : List PV) (cells : Array Value) (r : List PV),
    rElems ps = some ps' → ERel w N ρ k es cells → setAll k es (ps'.map fun (i, x) => (i, x.get fr)) = some r →
    ∃ cells', Instr.fill (fun i => some (i * k, k)) cells (ps.map fun (i, x) => (i, a.eval x)) = some cells' ∧ ERel w N ρ k r cells' ∧ cells'.size = cells.size ∧ r.length = es.length
  | [], ps', es, cells, r, hp, hz, hr => by
    simp only [rElems, Option.some.injEq] at hp
    subst hp
    simp [setAll] at hr
    subst hr
    exact ⟨cells, by simp [Instr.fill], hz, rfl, rfl⟩
  | (i, x) :: ps, ps', es, cells, r, hp, hz, hr => by
    simp only [rElems] at hp
    split at hp
    · rename_i x' l' h2 h3
      cases hp
      simp only [List.map_cons, setAll] at hr
      split at hr
      · rename_i hok
        obtain ⟨g1, g2, g3⟩ := hok
        have hc := (rOpd_rel h2 hf).cells g1
        have hvs : (a.eval x).cells.size = k := by have := hc.1; simp at this; omega
        have hik : i * k + k ≤ es.length * k := by
          have := Nat.mul_le_mul_right k (show i + 1 ≤ es.length from g3)
          rwa [Nat.succ_mul] at this
        have hle := hz.1
        obtain ⟨q1, q2⟩ := fill_step (a.eval x).cells cells (i * k) (by omega)
        have hz' : ERel w N ρ k (es.set i (x'.get fr)) ((a.eval x).cells.zipIdx.foldl (fun cs (c, j) => cs.setIfInBounds (i * k + j) c) cells) := by
          refine ⟨by simp only [List.length_set, q1]; exact hle, fun i' hi' => ?_⟩
          have hi2 : i' < es.length := by simpa using hi'
          rw [getD_set' es i i' _ .any g3]
          by_cases hii : i' = i
          · subst hii
            simp only [if_true]
            refine ⟨g2, fun j hj => ?_⟩
            rw [q2, hvs, if_pos (by omega)]
            have e : i' * k + j - i' * k = j := by omega
            rw [e]
            have := hc.2 j (by omega)
            rw [← agetD (α := Value)] at this; exact this
          · simp only [hii, if_false]
            refine ⟨(hz.2 i' hi2).1, fun j hj => ?_⟩
            rw [q2, hvs, if_neg]
            · exact (hz.2 i' hi2).2 j hj
            · intro ⟨ha, hb⟩
              exact mul_sep (off := 0) hii hj (by omega : 0 + k ≤ k) (by omega) (by omega)
        obtain ⟨cells', e1, e2, e3, e4⟩ := fillE_rel hf ps l' _ _ r h3 hz' hr
        refine ⟨cells', ?_, e2, e3.trans q1, e4.trans (by simp)⟩
        simp only [List.map_cons, Instr.fill, hvs]
        rw [if_neg (by simp; omega)]
        exact e1
      · cases hr
    · cases hp
theorem sim_lits {t : TypeId} {n : Nat} {ps : Array (Nat × Operand)} (hi : Inv w F ρ h nx) (hf : FrRel w (NN F h ρ) ρ fr a.tmps) (ho : o.op = .buildSlice t n ps) (hr : rOp P A o = some op) (hV : 0 < c → ¬ F.ids nx) (hm : mop fr h nx op = some (v, ups, c)) : Sim P w F ρ h nx a o v ups c := by
  unfold rOp at hr; rw [ho] at hr
  simp only at hr
  split at hr
  · rename_i e hu
    split at hr
    · rename_i k z l hk hz hl
      split at hr
      · rename_i hle
        cases hr
        simp only [mop] at hm
        split at hm
        · rename_i es hes
          simp only [Option.some.injEq, Prod.mk.injEq] at hm
          obtain ⟨rfl, rfl, rfl⟩ := hm
          obtain ⟨zv, i, h1, h2, h3, h4, h5, h6, h7⟩ := run_zero hz w
          have hzr := (toPV_rel (w := w) (N := NN F h ρ) (ρ := ρ) 8 zv _ h4).1.cells h5
          have hik : i.size = k := by simp [sizeT, h1] at hk; exact hk
          have hzk : z.cells.length = k := h7.trans hik
          -- the zeros
          obtain ⟨zs, hzs, hE, hzsz⟩ : ∃ zs : Array Value, ((n * k = 0 ∧ zs = #[]) ∨ (n * k ≠ 0 ∧ zs = zv.cells)) ∧
              ERel w (NN F h ρ) ρ k (List.replicate n z) ((Array.range (n * k)).map (zs[· % zs.size]!)) ∧ ((Array.range (n * k)).map (zs[· % zs.size]!)).size = n * k := by
            by_cases h0 : n * k = 0
            · exact ⟨#[], .inl ⟨h0, rfl⟩, zeros_rel0 n hzk h0 _, by simp⟩
            · exact ⟨zv.cells, .inr ⟨h0, rfl⟩, zeros_rel hzr hzk n, by simp⟩
          obtain ⟨cells', e1, e2, e3, e4⟩ := fillE_rel hf ps.toList l _ _ es hl hE hes
          have hn : es.length = n := by simpa using e4
          obtain ⟨g1, g2, g3⟩ := newRow_does hi (hV Nat.one_pos) e e2 n n n (Nat.le_refl _) (Nat.le_refl _) (by rw [e3, hzsz]; exact Nat.le_refl _) hle.2
          refine ⟨w.alloc (.cells cells' e), _, .value (.slice (some ⟨w.heap.size, 0, none⟩) n n), _, ?_, .inl rfl, g1, g2, g3⟩
          have hle' : ¬ n * k > 2 ^ 24 := by have := hle.1; omega
          have e1' : Instr.fill (fun i => some (i * k, k)) ((Array.range (n * k)).map (zs[· % zs.size]!)) (ps.map fun (i, x) => (i, a.eval x)).toList = some cells' := by simpa using e1
          rcases hzs with ⟨h0, rfl⟩ | ⟨h0, rfl⟩
          · simp only [execOp, ho, Instr.buildSlice, Sem.run_bind, run_underlying hu, Result.andThen_ok, run_sizeOf hk, hle', if_false, Sem.run_ite, Sem.run_pure, h0, if_true]
            rw [h0] at e1'
            simp only [e1', newRow, Sem.run_bind, run_newObj, Sem.run_pure, Result.andThen_ok]
            rfl
          · simp only [execOp, ho, Instr.buildSlice, Sem.run_bind, run_underlying hu, Result.andThen_ok, run_sizeOf hk, hle', if_false, Sem.run_ite, Sem.run_pure, h0, h3]
            simp only [e1', newRow, Sem.run_bind, run_newObj, Sem.run_pure, Result.andThen_ok]
            rfl
        · cases hm
      · cases hr
    · cases hr
  · cases hr
end Hp
end
section
namespace Hp
open Go
variable {P : Program} {τ : Tb} {w : World} {F : Fx τ} {ρ : Rho} {h : Heap} {nx : Nat} {A : Ann} {fr : Fr} {a : Act} {o : Oper} {op : POp} {v : PV} {ups : List (Nat × Option PObj)} {c : Nat}
theorem bytes_eq {x y : ByteArray} (hb : (x == y) = true) : x = y := by
  rw [beq_toListBytes, ByteArray.toList_eq, ByteArray.toList_eq] at hb
  have := eq_of_beq hb
  obtain ⟨⟨x⟩⟩ := x
  obtain ⟨⟨y⟩⟩ := y
  simp at this; rw [this]
theorem bytes_refl (x : ByteArray) : (x == x) = true := by rw [beq_toListBytes]; simp
def SK.val : SK → Value → Prop
  | .i, v => ∃ k n, v = .int k n
  | .s, v => ∃ s, v = .string s
  | .b, v => ∃ b, v = .bool b
theorem sc_val {k : SK} {N : Nat → Prop} {p q : PV} {vp vq : Value} (hp : Rel w N ρ p vp) (hq : Rel w N ρ q vq) {b : Bool} (hm : scEq k p q = some b) : k.val vp ∧ k.val vq ∧ (b = true → vp = vq) := by
  unfold scEq at hm
  split at hm
  · rename_i k1 m k2 n
    cases hp; cases hq
    split at hm
    · rename_i he; subst he; cases hm
      exact ⟨⟨_, _, rfl⟩, ⟨_, _, rfl⟩, fun hb => by simp at hb; rw [hb]⟩
    · cases hm
  · cases hp; cases hq; cases hm
    exact ⟨⟨_, rfl⟩, ⟨_, rfl⟩, fun hb => by rw [bytes_eq hb]⟩
  · cases hp; cases hq; cases hm
    exact ⟨⟨_, rfl⟩, ⟨_, rfl⟩, fun hb => by simp at hb; rw [hb]⟩
  · cases hm
theorem val_checkKey {t : TypeId} {k : SK} (hk : k.is P t) {v : Value} (hv : k.val v) (em : Bool) (n : Nat) : (Instr.checkKey em (n + 1) t v).run P w = .ok () w := by
  cases k with
  | i => obtain ⟨k', hk'⟩ := hk; obtain ⟨_, _, rfl⟩ := hv; unfold Instr.checkKey; simp [run_underlying hk']
  | s => obtain ⟨_, rfl⟩ := hv; unfold Instr.checkKey; simp [run_underlying (show P.underlying t = _ from hk)]
  | b => obtain ⟨_, rfl⟩ := hv; unfold Instr.checkKey; simp [run_underlying (show P.underlying t = _ from hk)]
theorem val_sameBits {k : SK} {v : Value} (hv : k.val v) (n : Nat) : Instr.sameBits n v v = true := by
  cases k with
  | i => obtain ⟨_, _, rfl⟩ := hv; cases n <;> simp [Instr.sameBits]
  | s => obtain ⟨_, rfl⟩ := hv; cases n <;> simp [Instr.sameBits, bytes_refl]
  | b => obtain ⟨_, rfl⟩ := hv; cases n <;> simp [Instr.sameBits]
theorem scEqL_get : ∀ {ks : List SK} {x y : List PV} {b : Bool}, scEqL ks x y = some b → x.length = ks.length ∧ y.length = ks.length ∧ ∀ i, i < ks.length → ∃ bi, scEq (ks.getD i .i) (x.getD i .any) (y.getD i .any) = some bi ∧ (b = true → bi = true)
  | [], [], [], b, _ => ⟨rfl, rfl, fun i hi => by simp at hi⟩
  | k :: ks, p :: x, q :: y, b, hb => by
    simp only [scEqL] at hb
    split at hb
    · rename_i r s hr hs
      cases hb
      obtain ⟨h1, h2, h3⟩ := scEqL_get hs
      refine ⟨by simp [h1], by simp [h2], fun i hi => ?_⟩
      cases i with
      | zero => exact ⟨r, by simpa using hr, fun h => by simp at h; exact h.1⟩
      | succ i =>
        obtain ⟨bi, g1, g2⟩ := h3 i (by simpa using hi)
        exact ⟨bi, by simpa [List.getD] using g1, fun h => g2 (by simp at h; exact h.2)⟩
    · cases hb
  | [], [], _ :: _, _, h => by simp [scEqL] at h
  | [], _ :: _, _, _, h => by simp [scEqL] at h
  | _ :: _, [], _, _, h => by simp [scEqL] at h
  | _ :: _, _ :: _, [], _, h => by simp [scEqL] at h
theorem run_forIn_unit {α : Type} (b : α → PUnit → Sem (ForInStep PUnit)) : ∀ (l : List α), (∀ x ∈ l, (b x ⟨⟩).run P w = .ok (.yield ⟨⟩) w) → (forIn l PUnit.unit b : Sem PUnit).run P w = .ok ⟨⟩ w
  | [], _ => rfl
  | x :: l, hl => by
    rw [List.forIn_cons, Sem.run_bind, hl x (by simp)]
    exact run_forIn_unit b l fun y hy => hl y (by simp [hy])
theorem scalFields_at {P : Program} : ∀ {fs : List Field} {i : Nat} {ks : List SK}, scalFields P i fs = some ks → ∀ f ∈ fs, ∃ k, f.offset = k ∧ i ≤ k ∧ k < i + ks.length ∧ (ks.getD (k - i) .i).is P f.type
  | [], _, _, _, f, hf => by simp at hf
  | g :: fs, i, ks, hk, f, hf => by
    simp only [scalFields] at hk
    split at hk
    · rename_i k ks' h1 h2
      split at hk
      · rename_i hn
        cases hk
        simp at hn
        rcases List.mem_cons.1 hf with rfl | hf
        · exact ⟨i, hn.2, Nat.le_refl _, by simp, by simpa using scalT_is h1⟩
        · obtain ⟨k', g1, g2, g3, g4⟩ := scalFields_at h2 f hf
          refine ⟨k', g1, by omega, by simp; omega, ?_⟩
          have e : k' - i = (k' - (i + 1)) + 1 := by omega
          rw [e]; simpa [List.getD] using g4
      · cases hk
    · cases hk
theorem scalFields_len {P : Program} : ∀ {fs : List Field} {i : Nat} {ks : List SK}, scalFields P i fs = some ks → ks.length = fs.length
  | [], _, _, hk => by simp [scalFields] at hk; subst hk; rfl
  | g :: fs, i, ks, hk => by
    simp only [scalFields] at hk
    split at hk
    · rename_i h1 h2
      split at hk
      · cases hk; simp [scalFields_len h2]
      · cases hk
    · cases hk
theorem run_part_sc {t : TypeId} {k : SK} (hk : k.is P t) (vs : Array Value) {i : Nat} (hl : i < vs.size) : (part t vs i).run P w = .ok (vs.getD i undef) w := by
  have : (Go.isAgg t).run P w = .ok false w := by
    refine run_isAgg ?_ w
    unfold isAggT
    cases k with
    | i => obtain ⟨k', hk'⟩ := hk; rw [hk']
    | s => rw [show P.underlying t = _ from hk]
    | b => rw [show P.underlying t = _ from hk]
  simp [part, this, Array.getElem?_eq_getElem hl, Array.getD, hl]
/-- a key that compares can be a key -/
theorem key_ok {t : TypeId} {kk : EqK} (hk : kk.is P t) {N : Nat → Prop} {p q : PV} {vp vq : Value} (hp : Rel w N ρ p vp) (hq : Rel w N ρ q vq) {b : Bool} (hm : keyEq kk p q = some b) :
    (∀ em n, (Instr.checkKey em (n + 1 + 1) t vp).run P w = .ok () w) ∧ (b = true → ∀ n, Instr.sameBits (n + 1) vq vp = true) := by
  unfold keyEq at hm
  split at hm
  · rename_i k
    obtain ⟨h1, h2, h3⟩ := sc_val hp hq hm
    exact ⟨fun em n => val_checkKey hk h1 em (n + 1), fun hb n => by rw [h3 hb]; exact val_sameBits h2 _⟩
  · rename_i ks x y
    obtain ⟨fs, g1, g2, g3, g4⟩ := hk
    obtain ⟨e1, e2, e3⟩ := scEqL_get hm
    cases hp with
    | agg _ vx sx _ rx =>
      cases hq with
      | agg _ vy sy _ ry =>
        refine ⟨fun em n => ?_, fun hb n => ?_⟩
        · unfold Instr.checkKey
          simp only [Sem.run_bind, run_underlying g1, Result.andThen_ok]
          rw [← Array.forIn_toList]
          rw [run_forIn_unit (P := P) (w := w) _ fs.toList fun f hf => ?_]
          · rfl
          obtain ⟨k, q1, q2, q3, q4⟩ := scalFields_at g4 f hf
          have hkl : k < ks.length := by omega
          obtain ⟨bi, w1, _⟩ := e3 k hkl
          obtain ⟨z1, _, _⟩ := sc_val (rx k (by omega)) (ry k (by omega)) w1
          have := val_checkKey (P := P) (w := w) (by simpa using q4) z1 em n
          simp only [Sem.run_ite]
          split
          · have hpt := run_part_sc (P := P) (w := w) (t := f.type) (k := ks.getD k .i) (by simpa using q4) vx (i := k) (by omega)
            simp only [q1, Sem.run_bind, hpt, Result.andThen_ok, this, Sem.run_pure]
          · rfl
        · simp only [Instr.sameBits, Bool.and_eq_true, beq_iff_eq, List.all_eq_true]
          refine ⟨by omega, fun z hz => ?_⟩
          obtain ⟨j, hj, rfl⟩ := List.getElem_of_mem hz
          have hjl : j < ks.length := by simp at hj; omega
          obtain ⟨bi, w1, w2⟩ := e3 j hjl
          obtain ⟨z1, z2, z3⟩ := sc_val (rx j (by omega)) (ry j (by omega)) w1
          have := z3 (w2 hb)
          simp only [List.getElem_zip]
          have jx : j < vx.size := by omega
          have jy : j < vy.size := by omega
          have ex : vx.getD j undef = vx.toList[j]'(by simpa using jx) := by simp [Array.getD, jx]
          have ey : vy.getD j undef = vy.toList[j]'(by simpa using jy) := by simp [Array.getD, jy]
          rw [← ex, ← ey, this]
          exact val_sameBits z2 _
  · cases hm
/-- entries one by one -/
def MRel (w : World) (N : Nat → Prop) (ρ : Rho) (es : List (PV × PV × Nat)) (ms : List MapEntry) : Prop :=
  ms.length = es.length ∧ ∀ (i : Nat) (k v : PV) (b : Nat), es[i]? = some (k, v, b) → ∃ me : MapEntry, ms[i]? = some me ∧ Rel w N ρ k me.key ∧ Rel w N ρ v me.val ∧ me.born = b
theorem MRel.tail {N : Nat → Prop} {e : PV × PV × Nat} {es : List (PV × PV × Nat)} {m : MapEntry} {ms : List MapEntry} (hm : MRel w N ρ (e :: es) (m :: ms)) : MRel w N ρ es ms :=
  ⟨by have := hm.1; simpa using this, fun i k v b hi => by
    obtain ⟨me, h1, h2⟩ := hm.2 (i + 1) k v b (by simpa using hi)
    exact ⟨me, by simpa using h1, h2⟩⟩
theorem findE_some {kk : EqK} {p : PV} : ∀ {es : List (PV × PV × Nat)} {i : Nat} {j : Nat} {v : PV} {b : Nat}, findE kk p es i = some (some (j, v, b)) → i ≤ j ∧ ∃ k', es[j - i]? = some (k', v, b) ∧ keyEq kk p k' = some true
  | [], _, _, _, _, h => by simp [findE] at h
  | (k', v', b') :: es, i, j, v, b, h => by
    simp only [findE] at h
    split at h
    · rename_i he; simp only [Option.some.injEq, Prod.mk.injEq] at h; obtain ⟨rfl, rfl, rfl⟩ := h; exact ⟨Nat.le_refl _, k', by simp, he⟩
    · obtain ⟨h1, k2, h2, h3⟩ := findE_some h
      refine ⟨by omega, k2, ?_, h3⟩
      have e : j - i = (j - (i + 1)) + 1 := by omega
      rw [e]; simpa using h2
    · cases h
/-- what one looks for, found or not, as the machine finds it -/
theorem find_run {t : TypeId} {kk : EqK} (hk : kk.is P t) {N : Nat → Prop} {p : PV} {vp : Value} (hp : Rel w N ρ p vp) : ∀ (es : List (PV × PV × Nat)) (ms : List MapEntry) (i : Nat) (r : Option (Nat × PV × Nat)), MRel w N ρ es ms → findE kk p es i = some r →
    ∃ r', ((match P.underlying t with
        | some d => (match Instr.findNow d vp ms i with | some x => pure x | none => Instr.findAsking t vp ms i)
        | none => Instr.findAsking t vp ms i) : Sem (Option (Nat × Value))).run P w = .ok r' w ∧
      (r = none → r' = none) ∧ ∀ j v b, r = some (j, v, b) → ∃ me : MapEntry, ms[j - i]? = some me ∧ r' = some (j, me.val)
  | [], ms, i, r, hm, hr => by
    have : ms = [] := List.length_eq_zero_iff.1 hm.1
    subst this
    simp only [findE, Option.some.injEq] at hr
    subst hr
    refine ⟨none, ?_, fun _ => rfl, fun j v b h => by cases h⟩
    cases P.underlying t <;> simp [Instr.findNow, Instr.findAsking]
  | (k', v', b') :: es, [], i, r, hm, hr => by have := hm.1; simp at this
  | (k', v', b') :: es, m :: ms, i, r, hm, hr => by
    obtain ⟨me, g1, g2, g3, g4⟩ := hm.2 0 k' v' b' rfl
    simp at g1
    subst g1
    simp only [findE] at hr
    -- one comparison
    cases hkb : keyEq kk p k' with
    | none => simp [hkb] at hr
    | some b =>
      have heq : (Op.equal t vp m.key).run P w = .ok b w := by
        refine peq_run hk hp g2 ?_
        unfold keyEq at hkb
        split at hkb
        · exact hkb
        · exact hkb
        · cases hkb
      have hnow : ∀ d, P.underlying t = some d → (Instr.sameNow d vp m.key = some b) ∨ (Instr.sameNow d vp m.key = none ∧ ∃ ks, kk = .st ks) := by
        intro d hd
        unfold keyEq at hkb
        split at hkb
        · rename_i k
          unfold scEq at hkb
          split at hkb
          · obtain ⟨k2, hk2⟩ := hk; rw [hk2] at hd; cases hd
            cases hp; cases hm2 : m.key <;> rw [hm2] at g2 <;> cases g2
            exact .inl hkb
          · rw [show P.underlying t = _ from hk] at hd; cases hd
            cases hp; cases hm2 : m.key <;> rw [hm2] at g2 <;> cases g2
            exact .inl hkb
          · rw [show P.underlying t = _ from hk] at hd; cases hd
            cases hp; cases hm2 : m.key <;> rw [hm2] at g2 <;> cases g2
            exact .inl hkb
          · cases hkb
        · rename_i ks x y
          obtain ⟨fs, q1, _⟩ := hk
          rw [q1] at hd; cases hd
          exact .inr ⟨rfl, ks, rfl⟩
        · cases hkb
      obtain ⟨d, hd⟩ : ∃ d, P.underlying t = some d := by
        cases kk with
        | sc k => cases k with
          | i => obtain ⟨k2, hk2⟩ := hk; exact ⟨_, hk2⟩
          | s => exact ⟨_, hk⟩
          | b => exact ⟨_, hk⟩
        | ptr => obtain ⟨e, he⟩ := hk; exact ⟨_, he⟩
        | fn => obtain ⟨_, _, _, he⟩ := hk; exact ⟨_, he⟩
        | mp => obtain ⟨_, _, he⟩ := hk; exact ⟨_, he⟩
        | st ks => obtain ⟨fs, q1, _⟩ := hk; exact ⟨_, q1⟩
        | ns ks => obtain ⟨fs, q1, _⟩ := hk; exact ⟨_, q1⟩
      simp only [hkb] at hr
      cases b with
      | true =>
        simp only [Option.some.injEq] at hr
        subst hr
        refine ⟨some (i, m.val), ?_, (fun h => by cases h), fun j v b h => ?_⟩
        · simp only [hd]
          rcases hnow d hd with hs | ⟨hs, _⟩
          · simp [Instr.findNow, hs]
          · simp [Instr.findNow, hs, Instr.findAsking, heq]
        · simp only [Option.some.injEq, Prod.mk.injEq] at h
          obtain ⟨rfl, rfl, rfl⟩ := h
          exact ⟨m, by simp, rfl⟩
      | false =>
        simp only at hr
        obtain ⟨r', e1, e2, e3⟩ := find_run hk hp es ms (i + 1) r hm.tail hr
        refine ⟨r', ?_, e2, fun j v b h => ?_⟩
        · simp only [hd] at e1 ⊢
          rcases hnow d hd with hs | ⟨hs, ks, hst⟩
          · simp only [Instr.findNow, hs]
            cases hf : Instr.findNow d vp ms (i + 1) with
            | some x => rw [hf] at e1; exact e1
            | none =>
              rw [hf] at e1
              simp only [Instr.findAsking, Sem.run_bind, heq, Result.andThen_ok, Sem.run_ite]
              simpa using e1
          · subst hst
            obtain ⟨fs, q1, _⟩ := hk
            rw [q1] at hd; cases hd
            have hno : Instr.findNow (.struct fs) vp (m :: ms) i = none := by simp [Instr.findNow, hs]
            rw [hno]
            simp only [Instr.findAsking, Sem.run_bind, heq, Result.andThen_ok, Sem.run_ite]
            cases ms with
            | nil => simpa [Instr.findNow, Instr.findAsking] using e1
            | cons m2 ms2 =>
              have : Instr.findNow (.struct fs) vp (m2 :: ms2) (i + 1) = none := by simp [Instr.findNow, Instr.sameNow]
              rw [this] at e1
              simpa using e1
        · subst h
          obtain ⟨h1, _⟩ := findE_some hr
          obtain ⟨me, q1, q2⟩ := e3 j v b rfl
          have e : j - i = (j - (i + 1)) + 1 := by omega
          exact ⟨me, by rw [e]; simpa using q1, q2⟩
theorem findKey_run {t : TypeId} {kk : EqK} (hk : kk.is P t) {N : Nat → Prop} {p : PV} {vp : Value} (hp : Rel w N ρ p vp) {es : List (PV × PV × Nat)} {ms : List MapEntry} {r : Option (Nat × PV × Nat)} (hm : MRel w N ρ es ms) (hr : findE kk p es 0 = some r) :
    ∃ r', (Instr.findKey t vp ms).run P w = .ok r' w ∧ (r = none → r' = none) ∧ ∀ j v b, r = some (j, v, b) → ∃ me : MapEntry, ms[j]? = some me ∧ r' = some (j, me.val) := by
  obtain ⟨r', e1, e2, e3⟩ := find_run hk hp es ms 0 r hm hr
  refine ⟨r', ?_, e2, fun j v b h => by simpa using e3 j v b h⟩
  unfold Instr.findKey
  cases hd : P.underlying t with
  | some d =>
    rw [hd] at e1
    simp only [Sem.run_bind, run_underlying hd, Result.andThen_ok]
    exact e1
  | none =>
    cases kk with
    | sc k => cases k with
      | i => obtain ⟨k2, hk2⟩ := hk; rw [hk2] at hd; cases hd
      | s => rw [show P.underlying t = _ from hk] at hd; cases hd
      | b => rw [show P.underlying t = _ from hk] at hd; cases hd
    | ptr => obtain ⟨e, he⟩ := hk; rw [he] at hd; cases hd
    | fn => obtain ⟨_, _, _, he⟩ := hk; rw [he] at hd; cases hd
    | mp => obtain ⟨_, _, he⟩ := hk; rw [he] at hd; cases hd
    | st ks => obtain ⟨fs, q1, _⟩ := hk; rw [q1] at hd; cases hd
    | ns ks => obtain ⟨fs, q1, _⟩ := hk; rw [q1] at hd; cases hd
end Hp
end
section
namespace Hp
open Go
variable {P : Program} {τ : Tb} {w : World} {F : Fx τ} {ρ : Rho} {h : Heap} {nx : Nat} {A : Ann} {fr : Fr} {a : Act} {o : Oper} {op : POp} {v : PV} {ups : List (Nat × Option PObj)} {c : Nat}
theorem Inv.mapAt (hi : Inv w F ρ h nx) {id : Nat} {fz : Bool} {es : List (PV × PV × Nat)} {clk : Nat} (hg : h.get id = some ⟨fz, .map es clk⟩) {l : Loc} (hl : ρ id = some l) :
    ∃ m : Array MapEntry, w.heap[l.blk]? = some (.map m clk) ∧ MRel w (NN F h ρ) ρ es m.toList := by
  obtain ⟨l', m, h1, h2, h3, h4⟩ := hi.obj id _ hg
  rw [hl] at h1; cases h1
  exact ⟨m, h2, by simpa using h3, fun i k v b hi => by
    obtain ⟨me, q1, q2⟩ := h4 i k v b hi
    exact ⟨me, by simpa using q1, q2⟩⟩
theorem run_getObj_map {r : Nat} {m : Array MapEntry} {clk : Nat} (hr : w.heap[r]? = some (.map m clk)) : (getObj r).run P w = .ok (.map m clk) w := by simp [getObj, Sem.run, hr]
theorem run_setObj_map {r : Nat} {m : Array MapEntry} {clk : Nat} (hr : w.heap[r]? = some (.map m clk)) (o : Obj) : (setObj r o).run P w = .ok () (setBlk w r o) := by simp [setObj, Sem.run, hr, setBlk]
/-- a map changed -/
theorem Inv.setMap (hi : Inv w F ρ h nx) {id : Nat} {es es' : List (PV × PV × Nat)} {clk clk' : Nat} (hg : h.get id = some ⟨false, .map es clk⟩) {l : Loc} (hl : ρ id = some l) {m : Array MapEntry} (hb : w.heap[l.blk]? = some (.map m clk)) (m' : Array MapEntry)
    (hm : ∀ N', Keep w (NN F h ρ) ρ (setBlk w l.blk (.map m' clk')) N' ρ → MRel (setBlk w l.blk (.map m' clk')) N' ρ es' m'.toList) :
    Inv (setBlk w l.blk (.map m' clk')) F ρ (hset h id (some (.map es' clk'))) nx ∧ Grow w h ρ (setBlk w l.blk (.map m' clk')) (hset h id (some (.map es' clk'))) ρ := by
  refine hi.set hg rfl hl _ _ (fun c e f hc => by rw [hb] at hc; cases hc) fun N' hk => ?_
  obtain ⟨h1, h2⟩ := hm N' hk
  exact ⟨l, m', hl, setBlk_same w _ (lt_of_heap hb), by simpa using h1, fun i k v b hi' => by
    obtain ⟨me, q1, q2⟩ := h2 i k v b hi'
    exact ⟨me, by simpa using q1, q2⟩⟩
theorem MRel.keep {w' : World} {N N' : Nat → Prop} {ρ' : Rho} (hk : Keep w N ρ w' N' ρ') {es : List (PV × PV × Nat)} {ms : List MapEntry} (hm : MRel w N ρ es ms) : MRel w' N' ρ' es ms :=
  ⟨hm.1, fun i k v b hi => by
    obtain ⟨me, q1, q2, q3, q4⟩ := hm.2 i k v b hi
    exact ⟨me, q1, q2.keep hk, q3.keep hk, q4⟩⟩
theorem MRel.set {N : Nat → Prop} {es : List (PV × PV × Nat)} {m : Array MapEntry} (hm : MRel w N ρ es m.toList) {i b : Nat} {k v : PV} {f : MapEntry → MapEntry} {me : MapEntry} (hme : m.toList[i]? = some me) (hk : Rel w N ρ k (f me).key) (hv : Rel w N ρ v (f me).val) (hb : (f me).born = b) :
    MRel w N ρ (es.set i (k, v, b)) (m.modify i f).toList := by
  have hlen := hm.1
  have hil : i < m.toList.length := (List.getElem?_eq_some_iff.1 hme).1
  refine ⟨by simpa using hlen, fun j k' v' b' hj => ?_⟩
  rw [List.getElem?_set] at hj
  by_cases hij : i = j
  · subst hij
    simp only [if_true] at hj
    split at hj
    · cases hj
      refine ⟨f me, ?_, hk, hv, hb⟩
      rw [Array.getElem?_toList, Array.getElem?_modify]
      have : m[i]? = some me := by simpa using hme
      simp [this]
    · cases hj
  · simp only [hij, if_false] at hj
    obtain ⟨me', q1, q2⟩ := hm.2 j k' v' b' hj
    refine ⟨me', ?_, q2⟩
    rw [Array.getElem?_toList, Array.getElem?_modify]
    have : m[j]? = some me' := by simpa using q1
    simp [this, hij]
theorem MRel.push {N : Nat → Prop} {es : List (PV × PV × Nat)} {m : Array MapEntry} (hm : MRel w N ρ es m.toList) {k v : PV} {me : MapEntry} (hk : Rel w N ρ k me.key) (hv : Rel w N ρ v me.val) :
    MRel w N ρ (es ++ [(k, v, me.born)]) (m.push me).toList := by
  have hlen := hm.1
  refine ⟨by simpa using hlen, fun j k' v' b' hj => ?_⟩
  rw [Array.toList_push]
  by_cases hjl : j < es.length
  · rw [List.getElem?_append_left hjl] at hj
    obtain ⟨me', q1, q2⟩ := hm.2 j k' v' b' hj
    exact ⟨me', by rw [List.getElem?_append_left (by omega)]; exact q1, q2⟩
  · rw [List.getElem?_append_right (by omega)] at hj
    by_cases hj0 : j - es.length = 0
    · rw [hj0] at hj
      simp only [List.getElem?_cons_zero, Option.some.injEq, Prod.mk.injEq] at hj
      obtain ⟨rfl, rfl, rfl⟩ := hj
      refine ⟨me, ?_, hk, hv, rfl⟩
      rw [List.getElem?_append_right (by omega), hlen, hj0]; rfl
    · have : 1 ≤ j - es.length := by omega
      simp [List.getElem?_eq_none (show [(k, v, me.born)].length ≤ j - es.length by simpa using this)] at hj
theorem isNone_key {kk : EqK} {p : PV} (hn : ¬ (keyEq kk p p).isNone = true) : ∃ b, keyEq kk p p = some b := by
  cases hk : keyEq kk p p with
  | none => simp [hk] at hn
  | some b => exact ⟨b, rfl⟩
theorem sim_mkmap {t : TypeId} (hi : Inv w F ρ h nx) (ho : o.op = .makeMap t none) (hr : rOp P A o = some op) (hV : 0 < c → ¬ F.ids nx) (hm : mop fr h nx op = some (v, ups, c)) : Sim P w F ρ h nx a o v ups c := by
  unfold rOp at hr; rw [ho] at hr
  cases hr
  simp only [mop, Option.some.injEq, Prod.mk.injEq] at hm
  obtain ⟨rfl, rfl, rfl⟩ := hm
  obtain ⟨g1, g2⟩ := hi.alloc (hV Nat.one_pos) (.map #[] 0) (.map [] 0) 0 (fun N' ρ' hk hn => ⟨_, #[], hn, heap_alloc_new .., rfl, fun i k v b hi => by simp at hi⟩)
  refine ⟨w.alloc (.map #[] 0), _, .value (.map (some w.heap.size)), .map (some w.heap.size), ?_, .inl rfl, g1, g2, .map nx _ (updR_same ..)⟩
  simp [execOp, ho, Instr.makeMap]
theorem sim_look {t : TypeId} {m k : Operand} {ok : Bool} (hi : Inv w F ρ h nx) (hf : FrRel w (NN F h ρ) ρ fr a.tmps) (ho : o.op = .lookup t m k ok) (hr : rOp P A o = some op) (hm : mop fr h nx op = some (v, ups, c)) : Sim P w F ρ h nx a o v ups c := by
  unfold rOp at hr; rw [ho] at hr
  simp only at hr
  split at hr
  · rename_i kt e m' k' hu hmo hko
    split at hr
    · rename_i kk z hkk hz
      cases hr
      have hk := keyT_is hkk
      have rm := rOpd_rel hmo hf
      have rk := rOpd_rel hko hf
      obtain ⟨zv, i, z1, z2, z3, z4, z5, z6, z7⟩ := run_zero hz w
      have hzr := (toPV_rel (w := w) (N := NN F h ρ) (ρ := ρ) 8 zv _ z4).1
      simp only [mop] at hm
      split at hm
      · cases hm
      · rename_i hkey
        obtain ⟨bk, hbk⟩ := isNone_key hkey
        have hck := (key_ok hk rk rk hbk).1
        have hck1 : ∀ em, (Instr.checkKey em 10000 kt (a.eval k)).run P w = .ok () w := fun em => hck em 9998
        have fin : ∀ (val : Value) (pv : PV) (found : Bool), Rel w (NN F h ρ) ρ pv val → v = (if ok then .tup [pv, .bool found] else pv) → ups = [] → c = 0 →
            (Instr.lookup t (a.eval m) (a.eval k) ok).run P w = .ok (if ok then .tuple #[val, .bool found] else val) w → Sim P w F ρ h nx a o v ups c := by
          rintro val pv found hrel rfl rfl rfl hrun
          refine Does.quiet hi (val := if ok then .tuple #[val, .bool found] else val) (by simp [execOp, ho, hrun]) ?_
          cases ok
          · exact hrel
          · refine .tup _ _ rfl fun j hj => ?_
            have : j = 0 ∨ j = 1 := by simp at hj; omega
            rcases this with rfl | rfl
            · simpa using hrel
            · simpa using Rel.bool found
        split at hm
        · rename_i hv
          simp only [Option.some.injEq, Prod.mk.injEq] at hm
          obtain ⟨rfl, rfl, rfl⟩ := hm
          rw [hv] at rm
          generalize he : a.eval m = vm at rm
          cases rm
          refine fin zv z false hzr rfl rfl rfl ?_
          obtain ⟨r', e1, e2, e3⟩ := findKey_run (P := P) hk rk (es := []) (ms := []) (r := none) ⟨rfl, fun i k v b h => by simp at h⟩ (by simp [findE])
          have := e2 rfl
          subst this
          cases ok <;> simp [Instr.lookup, run_underlying hu, he, hck1, e1, z3]
        · rename_i id hv
          rw [hv] at rm
          generalize he : a.eval m = vm at rm
          cases rm with
          | map _ l hl =>
            split at hm
            · rename_i fz es clk hg
              obtain ⟨mm, hb, hmr⟩ := hi.mapAt hg hl
              split at hm
              · rename_i i pv b hfd
                simp only [Option.some.injEq, Prod.mk.injEq] at hm
                obtain ⟨rfl, rfl, rfl⟩ := hm
                obtain ⟨r', e1, e2, e3⟩ := findKey_run (P := P) hk rk hmr hfd
                obtain ⟨me, q1, q2⟩ := e3 i pv b rfl
                subst q2
                obtain ⟨_, k2, f1, f2⟩ := findE_some hfd
                obtain ⟨me', g1, g2, g3, g4⟩ := hmr.2 i k2 pv b (by simpa using f1)
                rw [q1] at g1; cases g1
                refine fin me.val pv true g3 rfl rfl rfl ?_
                cases ok <;> simp [Instr.lookup, run_underlying hu, he, run_getObj_map hb, hck1, e1]
              · rename_i hfd
                simp only [Option.some.injEq, Prod.mk.injEq] at hm
                obtain ⟨rfl, rfl, rfl⟩ := hm
                obtain ⟨r', e1, e2, e3⟩ := findKey_run (P := P) hk rk hmr hfd
                have := e2 rfl
                subst this
                refine fin zv z false hzr rfl rfl rfl ?_
                cases ok <;> simp [Instr.lookup, run_underlying hu, he, run_getObj_map hb, hck1, e1, z3]
              · cases hm
            · cases hm
        · cases hm
    · cases hr
  · cases hr
end Hp
end
section
namespace Hp
open Go
variable {P : Program} {τ : Tb} {w : World} {F : Fx τ} {ρ : Rho} {h : Heap} {nx : Nat} {A : Ann} {fr : Fr} {a : Act} {o : Oper} {op : POp} {v : PV} {ups : List (Nat × Option PObj)} {c : Nat}
theorem run_keyStays {kk : EqK} {t : TypeId} (hk : kk.is P t) {N : Nat → Prop} {p q : PV} {vp vq : Value} (hp : Rel w N ρ p vp) (hq : Rel w N ρ q vq) (hm : keyEq kk p q = some true) : (Instr.keyThatStays vq vp).run P w = .ok vp w := by
  have := (key_ok hk hp hq hm).2 rfl 9999
  simp [Instr.keyThatStays, this]
theorem entry_at {es : List (PV × PV × Nat)} {m : Array MapEntry} {N : Nat → Prop} (hm : MRel w N ρ es m.toList) {i : Nat} {k v : PV} {b : Nat} (hi : es[i]? = some (k, v, b)) : ∃ me : MapEntry, m[i]? = some me ∧ m.toList[i]? = some me ∧ Rel w N ρ k me.key ∧ Rel w N ρ v me.val ∧ me.born = b := by
  obtain ⟨me, q1, q2⟩ := hm.2 i k v b hi
  exact ⟨me, by simpa using q1, q1, q2⟩
theorem sim_mupd {t : TypeId} {m k x : Operand} (hi : Inv w F ρ h nx) (hf : FrRel w (NN F h ρ) ρ fr a.tmps) (ho : o.op = .mapUpdate t m k x ∨ o.op = .insert t m k x) (hr : rOp P A o = some op) (hm : mop fr h nx op = some (v, ups, c)) : Sim P w F ρ h nx a o v ups c := by
  have hr' : (match P.underlying t, rOpd m, rOpd k, rOpd x with
    | some (.map kt _), some m, some k, some x => (keyT P kt).map fun kk => POp.mupd kk m k x
    | _, _, _, _ => none) = some op := by rcases ho with ho | ho <;> (unfold rOp at hr; rw [ho] at hr; exact hr)
  have hrun : (execOp a.eval o).run P w = (do Instr.mapUpdate t (a.eval m) (a.eval k) (a.eval x); pure .skip : Sem Next).run P w := by rcases ho with ho | ho <;> simp [execOp, ho]
  split at hr'
  · rename_i kt e m' k' x' hu hmo hko hxo
    obtain ⟨kk, hkk, rfl⟩ := optMap hr'
    have hk := keyT_is hkk
    have rm := rOpd_rel hmo hf
    have rk := rOpd_rel hko hf
    have rx := rOpd_rel hxo hf
    simp only [mop] at hm
    split at hm
    · cases hm
    · rename_i hkey
      obtain ⟨bk, hbk⟩ := isNone_key hkey
      have hck1 : ∀ em, (Instr.checkKey em 10000 kt (a.eval k)).run P w = .ok () w := fun em => (key_ok hk rk rk hbk).1 em 9998
      split at hm
      · rename_i id hv
        rw [hv] at rm
        generalize he : a.eval m = vm at rm
        cases rm with
        | map _ l hl =>
          split at hm
          · rename_i es clk hg
            obtain ⟨mm, hb, hmr⟩ := hi.mapAt hg hl
            have hgo := run_getObj_map (P := P) hb
            have hso := fun o => run_setObj_map (P := P) hb o
            split at hm
            · rename_i i pv b hfd
              simp only [Option.some.injEq, Prod.mk.injEq] at hm
              obtain ⟨rfl, rfl, rfl⟩ := hm
              obtain ⟨r', e1, e2, e3⟩ := findKey_run (P := P) hk rk hmr hfd
              obtain ⟨me, q1, q2⟩ := e3 i pv b rfl
              subst q2
              obtain ⟨_, k2, f1, f2⟩ := findE_some hfd
              obtain ⟨me', g0, g1, g2, g3, g4⟩ := entry_at hmr (i := i) (by simpa using f1)
              rw [q1] at g1; cases g1
              have hst := run_keyStays (P := P) hk rk g2 f2
              obtain ⟨s1, s2⟩ := hi.setMap (es' := es.set i (k'.get fr, x'.get fr, b)) (clk' := clk) hg hl hb (mm.modify i fun e => { e with key := a.eval k, val := a.eval x }) (fun N' hkeep =>
                (MRel.set (hmr.keep hkeep) q1 (rk.keep hkeep) (rx.keep hkeep) g4))
              refine Does.of_run ⟨_, ρ, .skip, undef, ?_, .inr ⟨rfl, rfl⟩, s1, s2, .tup [] #[] rfl (by simp)⟩ hrun
              simp [Instr.mapUpdate, run_underlying hu, he, hgo, hck1, e1, g0, hst, hso]
            · rename_i hfd
              simp only [Option.some.injEq, Prod.mk.injEq] at hm
              obtain ⟨rfl, rfl, rfl⟩ := hm
              obtain ⟨r', e1, e2, e3⟩ := findKey_run (P := P) hk rk hmr hfd
              have := e2 rfl
              subst this
              obtain ⟨s1, s2⟩ := hi.setMap (es' := es ++ [(k'.get fr, x'.get fr, clk)]) (clk' := clk + 1) hg hl hb (mm.push { key := a.eval k, val := a.eval x, born := clk }) (fun N' hkeep =>
                (MRel.push (me := { key := a.eval k, val := a.eval x, born := clk }) (hmr.keep hkeep) (rk.keep hkeep) (rx.keep hkeep)))
              refine Does.of_run ⟨_, ρ, .skip, undef, ?_, .inr ⟨rfl, rfl⟩, s1, s2, .tup [] #[] rfl (by simp)⟩ hrun
              simp [Instr.mapUpdate, run_underlying hu, he, hgo, hck1, e1, hso]
            · cases hm
          · cases hm
      · cases hm
  · cases hr'
theorem sim_ment {t : TypeId} {m k : Operand} (hi : Inv w F ρ h nx) (hf : FrRel w (NN F h ρ) ρ fr a.tmps) (ho : o.op = .mapEntry t m k) (hr : rOp P A o = some op) (hm : mop fr h nx op = some (v, ups, c)) : Sim P w F ρ h nx a o v ups c := by
  unfold rOp at hr; rw [ho] at hr
  simp only at hr
  split at hr
  · rename_i kt e m' k' hu hmo hko
    split at hr
    · rename_i kk z hkk hz
      cases hr
      have hk := keyT_is hkk
      have rm := rOpd_rel hmo hf
      have rk := rOpd_rel hko hf
      obtain ⟨zv, i, z1, z2, z3, z4, z5, z6, z7⟩ := run_zero hz w
      simp only [mop] at hm
      split at hm
      · cases hm
      · rename_i hkey
        obtain ⟨bk, hbk⟩ := isNone_key hkey
        have hck1 : ∀ em, (Instr.checkKey em 10000 kt (a.eval k)).run P w = .ok () w := fun em => (key_ok hk rk rk hbk).1 em 9998
        split at hm
        · rename_i id hv
          rw [hv] at rm
          generalize he : a.eval m = vm at rm
          cases rm with
          | map _ l hl =>
            split at hm
            · rename_i es clk hg
              obtain ⟨mm, hb, hmr⟩ := hi.mapAt hg hl
              have hgo := run_getObj_map (P := P) hb
              have hso := fun o => run_setObj_map (P := P) hb o
              have fin : ∀ (N : Nat → Prop) (w' : World) (pv : PV) (val : Value) (n : Nat), Rel w' N ρ pv val → Rel w' N ρ (.tup [pv, .int .i64 n]) (.tuple #[val, goInt n]) := by
                intro N w' pv val n hrel
                refine .tup _ _ rfl fun j hj => ?_
                have : j = 0 ∨ j = 1 := by simp at hj; omega
                rcases this with rfl | rfl
                · simpa using hrel
                · simpa [goInt] using Rel.int .i64 (n : Int)
              split at hm
              · rename_i i pv b hfd
                simp only [Option.some.injEq, Prod.mk.injEq] at hm
                obtain ⟨rfl, rfl, rfl⟩ := hm
                obtain ⟨r', e1, e2, e3⟩ := findKey_run (P := P) hk rk hmr hfd
                obtain ⟨me, q1, q2⟩ := e3 i pv b rfl
                subst q2
                obtain ⟨_, k2, f1, f2⟩ := findE_some hfd
                obtain ⟨me', g0, g1, g2, g3, g4⟩ := entry_at hmr (i := i) (by simpa using f1)
                rw [q1] at g1; cases g1
                have hst := run_keyStays (P := P) hk rk g2 f2
                obtain ⟨s1, s2⟩ := hi.setMap (es' := es.set i (k'.get fr, pv, b)) (clk' := clk) hg hl hb (mm.modify i fun e => { e with key := a.eval k }) (fun N' hkeep =>
                  (MRel.set (hmr.keep hkeep) q1 (rk.keep hkeep) (g3.keep hkeep) g4))
                refine ⟨_, ρ, .value (.tuple #[me.val, goInt b]), _, ?_, .inl rfl, s1, s2, fin _ _ _ _ _ (s2.rel g3)⟩
                simp [execOp, ho, Instr.mapEntry, run_underlying hu, he, hgo, hck1, e1, g0, hst, hso, g4]
              · rename_i hfd
                simp only [Option.some.injEq, Prod.mk.injEq] at hm
                obtain ⟨rfl, rfl, rfl⟩ := hm
                obtain ⟨r', e1, e2, e3⟩ := findKey_run (P := P) hk rk hmr hfd
                have := e2 rfl
                subst this
                have hzr : ∀ (w' : World) (N' : Nat → Prop), Rel w' N' ρ z zv := fun w' N' => (toPV_rel (w := w') (N := N') (ρ := ρ) 8 zv _ z4).1
                obtain ⟨s1, s2⟩ := hi.setMap (es' := es ++ [(k'.get fr, z, clk)]) (clk' := clk + 1) hg hl hb (mm.push { key := a.eval k, val := zv, born := clk }) (fun N' hkeep =>
                  (MRel.push (me := { key := a.eval k, val := zv, born := clk }) (hmr.keep hkeep) (rk.keep hkeep) (hzr _ _)))
                refine ⟨_, ρ, .value (.tuple #[zv, goInt clk]), _, ?_, .inl rfl, s1, s2, fin _ _ _ _ _ (hzr _ _)⟩
                simp [execOp, ho, Instr.mapEntry, run_underlying hu, he, hgo, hck1, e1, z3, hso]
              · cases hm
            · cases hm
        · cases hm
    · cases hr
  · cases hr
theorem findB_run (bn : Int) : ∀ (es : List (PV × PV × Nat)) (ms : List MapEntry) (i0 i : Nat) {N : Nat → Prop}, MRel w N ρ es ms → findB bn es i0 = some i → i0 ≤ i ∧ ms.findIdx? (fun e => (e.born : Int) == bn) = some (i - i0)
  | [], _, _, _, _, _, h => by simp [findB] at h
  | (k, v, b) :: es, [], _, _, _, hm, _ => by have := hm.1; simp at this
  | (k, v, b) :: es, m :: ms, i0, i, N, hm, h => by
    obtain ⟨me, g1, _, _, g4⟩ := hm.2 0 k v b rfl
    simp at g1; subst g1
    simp only [findB] at h
    rw [List.findIdx?_cons]
    split at h
    · rename_i he
      cases h
      refine ⟨Nat.le_refl _, ?_⟩
      simp [g4, he]
    · rename_i he
      obtain ⟨h1, h2⟩ := findB_run bn es ms (i0 + 1) i hm.tail h
      refine ⟨by omega, ?_⟩
      have hne : ((m.born : Int) == bn) = false := by rw [g4]; simp [he]
      have e : i - i0 = (i - (i0 + 1)) + 1 := by omega
      simp only [hne, h2, e]; rfl
theorem sim_mest {t : TypeId} {m s x : Operand} (hi : Inv w F ρ h nx) (hf : FrRel w (NN F h ρ) ρ fr a.tmps) (ho : o.op = .entryStore t m s x) (hr : rOp P A o = some op) (hm : mop fr h nx op = some (v, ups, c)) : Sim P w F ρ h nx a o v ups c := by
  unfold rOp at hr; rw [ho] at hr
  simp only at hr
  split at hr
  · rename_i m' s' x' hmo hso' hxo
    cases hr
    have rm := rOpd_rel hmo hf
    have rs := rOpd_rel hso' hf
    have rx := rOpd_rel hxo hf
    simp only [mop] at hm
    split at hm
    · rename_i id kb bn hv hv'
      rw [hv] at rm; rw [hv'] at rs
      generalize he : a.eval m = vm at rm
      generalize he' : a.eval s = vs at rs
      cases rs
      cases rm with
      | map _ l hl =>
        split at hm
        · rename_i es clk hg
          obtain ⟨mm, hb, hmr⟩ := hi.mapAt hg hl
          have hgo := run_getObj_map (P := P) hb
          have hso := fun o => run_setObj_map (P := P) hb o
          split at hm
          · rename_i i hfd
            split at hm
            · rename_i k2 v2 b' hei
              simp only [Option.some.injEq, Prod.mk.injEq] at hm
              obtain ⟨rfl, rfl, rfl⟩ := hm
              obtain ⟨_, hidx⟩ := findB_run bn es mm.toList 0 i hmr hfd
              obtain ⟨me, g0, g1, g2, g3, g4⟩ := entry_at hmr hei
              obtain ⟨s1, s2⟩ := hi.setMap (es' := es.set i (k2, x'.get fr, b')) (clk' := clk) hg hl hb (mm.modify i fun e => { e with val := a.eval x }) (fun N' hkeep =>
                (MRel.set (hmr.keep hkeep) g1 (g2.keep hkeep) (rx.keep hkeep) g4))
              refine ⟨_, ρ, .skip, undef, ?_, .inr ⟨rfl, rfl⟩, s1, s2, .tup [] #[] rfl (by simp)⟩
              have hidx' : mm.findIdx? (fun e => (e.born : Int) == bn) = some i := by obtain ⟨mm⟩ := mm; simpa using hidx
              simp [execOp, ho, Instr.entryStore, he, he', hgo, asInt, run_asIntOf, hidx', hso]
            · cases hm
          · cases hm
        · cases hm
    · cases hm
  · cases hr
end Hp
end
section
namespace Hp
open Go
variable {P : Program} {τ : Tb} {w : World} {F : Fx τ} {ρ : Rho} {h : Heap} {nx : Nat} {A : Ann} {fr : Fr} {a : Act} {o : Oper} {op : POp} {v : PV} {ups : List (Nat × Option PObj)} {c : Nat}
theorem ERel.keep {w' : World} {N N' : Nat → Prop} {ρ' : Rho} (hk : Keep w N ρ w' N' ρ') {k : Nat} {es : List PV} {cs : Array Value} (he : ERel w N ρ k es cs) : ERel w' N' ρ' k es cs :=
  ⟨he.1, fun i hi => ⟨(he.2 i hi).1, fun j hj => ⟨((he.2 i hi).2 j hj).1.keep hk, ((he.2 i hi).2 j hj).2⟩⟩⟩
theorem ERel.nil {N : Nat → Prop} (k : Nat) (cs : Array Value) : ERel w N ρ k [] cs := ⟨by simp, fun i hi => by simp at hi⟩
theorem getD_append_l {α : Type} (x y : List α) {i : Nat} (d : α) (hi : i < x.length) : (x ++ y).getD i d = x.getD i d := by simp [List.getD, List.getElem?_append_left hi]
theorem getD_append_r {α : Type} (x y : List α) {i : Nat} (d : α) (hi : x.length ≤ i) : (x ++ y).getD i d = y.getD (i - x.length) d := by simp [List.getD, List.getElem?_append_right hi]
theorem ERel.append {N : Nat → Prop} {k : Nat} {es es' : List PV} {c1 c2 c3 : Array Value} (h1 : ERel w N ρ k es c1) (hs : c1.size = es.length * k) (h2 : ERel w N ρ k es' c2) (hs2 : c2.size = es'.length * k) :
    ERel w N ρ k (es ++ es') (c1 ++ c2 ++ c3) := by
  refine ⟨by simp [Nat.add_mul]; omega, fun i hi => ?_⟩
  by_cases hil : i < es.length
  · rw [getD_append_l _ _ _ hil]
    refine ⟨(h1.2 i hil).1, fun j hj => ?_⟩
    have hq : i * k + j < c1.size := by
      have := Nat.mul_le_mul_right k (show i + 1 ≤ es.length from hil)
      rw [Nat.succ_mul] at this; omega
    have e : (c1 ++ c2 ++ c3).getD (i * k + j) undef = c1.getD (i * k + j) undef := by
      rw [agetD, agetD]; simp only [Array.toList_append]
      rw [getD_append_l _ _ _ (by simp; omega), getD_append_l _ _ _ (by simpa using hq)]
    rw [e]; exact (h1.2 i hil).2 j hj
  · rw [getD_append_r _ _ _ (by omega)]
    have hi2 : i - es.length < es'.length := by simp at hi; omega
    refine ⟨(h2.2 _ hi2).1, fun j hj => ?_⟩
    have hmul : i * k = es.length * k + (i - es.length) * k := by rw [← Nat.add_mul]; congr 1; omega
    have hq : (i - es.length) * k + j < c2.size := by
      have := Nat.mul_le_mul_right k (show i - es.length + 1 ≤ es'.length from hi2)
      rw [Nat.succ_mul] at this; omega
    have e : (c1 ++ c2 ++ c3).getD (i * k + j) undef = c2.getD ((i - es.length) * k + j) undef := by
      rw [agetD, agetD]; simp only [Array.toList_append]
      rw [getD_append_l _ _ _ (by simp; omega), getD_append_r _ _ _ (by simp; omega)]
      congr 1; simp; omega
    rw [e]; exact (h2.2 _ hi2).2 j hj
/-- a slice's length and its first cells -/
theorem elems_run (hi : Inv w F ρ h nx) {k : Nat} {p : PV} {va : Value} {es : List PV} (he : elems h k p = some es) (hr : Rel w (NN F h ρ) ρ p va) :
    ∃ base cap, va = .slice base es.length cap ∧ ∀ n, n ≤ es.length → ∃ cs : Array Value, (Builtin.firstCells k n va).run P w = .ok cs w ∧ cs.size = n * k ∧ ERel w (NN F h ρ) ρ k (es.take n) cs := by
  unfold elems at he
  have fin : ∀ (b o : Nat) (base : Option Addr) (cap : Nat) (es : List PV), base = some ⟨b, o, none⟩ → (∀ i, i < es.length → (es.getD i .any).cells.length = k) →
      (∀ i j, i < es.length → j < k → ∃ cv, w.cell? ⟨b, o + i * k + j, none⟩ = some cv ∧ Rel w (NN F h ρ) ρ ((es.getD i .any).cells.getD j .any) cv ∧ cv.oneCell' = true) → ∀ n, n ≤ es.length →
      ∃ cs : Array Value, (Builtin.firstCells k n (.slice base es.length cap)).run P w = .ok cs w ∧ cs.size = n * k ∧ ERel w (NN F h ρ) ρ k (es.take n) cs := by
    rintro b o base cap es rfl hs hc n hn
    have hcell : ∀ q, q < n * k → w.cell? ⟨b, o + q, none⟩ = some ((w.cell? ⟨b, o + q, none⟩).getD undef) := by
      intro q hq
      have hk : 0 < k := by
        rcases Nat.eq_zero_or_pos k with h0 | h0
        · subst h0; simp at hq
        · exact h0
      have hd : q / k < n := (Nat.div_lt_iff_lt_mul hk).2 hq
      obtain ⟨cv, h1, _⟩ := hc (q / k) (q % k) (by omega) (Nat.mod_lt _ hk)
      have e : o + q / k * k + q % k = o + q := by have := Nat.div_add_mod q k; rw [Nat.mul_comm] at this; omega
      rw [e] at h1; rw [h1]; rfl
    have hl := run_loadCells (P := P) w ⟨b, o, none⟩ (n * k) (fun q => (w.cell? ⟨b, o + q, none⟩).getD undef) (fun q hq => by rw [Addr_add]; exact hcell q hq)
    refine ⟨_, by simp only [Builtin.firstCells]; exact hl, by simp, ?_, ?_⟩
    · simp [Nat.min_eq_left hn]
    · intro i hi'
      have hin : i < n := by simp at hi'; omega
      have hg : (es.take n).getD i .any = es.getD i .any := by simp [List.getD, List.getElem?_take, hin]
      rw [hg]
      refine ⟨hs i (by omega), fun j hj => ?_⟩
      have hq : i * k + j < n * k := by
        have := Nat.mul_le_mul_right k (show i + 1 ≤ n from hin)
        rw [Nat.succ_mul] at this; omega
      obtain ⟨cv, h1, h2, h3⟩ := hc i j (by omega) hj
      have hv : (((List.range (n * k)).map fun q => (w.cell? ⟨b, o + q, none⟩).getD undef).toArray).getD (i * k + j) undef = cv := by
        rw [agetD]; simp [List.getD, List.getElem?_range, hq]
        rw [← Nat.add_assoc, h1]; rfl
      rw [hv]; exact ⟨h2, h3⟩
  have zero : ∀ (base : Option Addr) (cap : Nat), ∀ n, n ≤ 0 → ∃ cs : Array Value, (Builtin.firstCells k n (.slice base 0 cap)).run P w = .ok cs w ∧ cs.size = n * k ∧ ERel w (NN F h ρ) ρ k (([] : List PV).take n) cs := by
    intro base cap n hn
    have : n = 0 := by omega
    subst this
    refine ⟨#[], ?_, by simp, by simpa using ERel.nil k #[]⟩
    cases base with
    | none => simp [Builtin.firstCells]
    | some b => simp [Builtin.firstCells, loadCells, loadCellsFrom]
  split at he
  · rename_i full sz es'
    split at he
    · rename_i hk
      cases he
      cases hr with
      | isl0 _ _ ad cap _ => exact ⟨ad, cap, rfl, by simpa using zero ad cap⟩
      | isl _ _ _ b o cap g g1 g2 hb hN hs hc h3 hr =>
        refine ⟨_, cap, rfl, ?_⟩
        by_cases h0 : es = []
        · subst h0; simpa using zero (some ⟨b, o, none⟩) cap
        · have hks : k = sz := by simp [h0] at hk; exact hk
          subst hks
          exact fin b o _ cap es rfl hs fun i j hi' hj => ⟨g i j, hc i j hi' hj, hr i j hi' hj, h3 i j hi' hj⟩
    · cases he
  · rename_i id off len cp
    split at he
    · rename_i h0
      cases he
      subst h0
      cases hr with
      | msl0 _ _ ad => exact ⟨ad, 0, rfl, by simpa using zero ad 0⟩
      | msl _ _ _ _ cap l c te f hl h1 h2 hb hsz => exact ⟨_, cap, rfl, by simpa using zero _ cap⟩
    · rename_i hlen
      split at he
      · rename_i fz sz es' hh
        split at he
        · rename_i hks
          obtain ⟨rfl, hle⟩ := hks
          cases he
          cases hr with
          | msl0 => omega
          | msl _ _ _ _ cap l c te f hl h1 h2 hb hsz =>
            have hne : es' ≠ [] := by intro h0; subst h0; simp at hle; omega
            obtain ⟨l', c', te', g1, g2, g3, gp, g4, g5, g6⟩ := hi.arr hh hne
            rw [hl] at g1; cases g1
            subst g2
            have hlen' : ((es'.drop off).take len).length = len := by simp; omega
            refine ⟨some ⟨l.blk, l.base + off * l.sz, none⟩, cap, by rw [hlen'], ?_⟩
            rw [hlen']
            have := fin l.blk (l.base + off * l.sz) (some ⟨l.blk, l.base + off * l.sz, none⟩) cap ((es'.drop off).take len) rfl
              (fun i hi' => by rw [hlen'] at hi'; rw [drop_take_getD _ _ _ _ _ hi']; exact g5 _ (by omega))
              (fun i j hi' hj => by
                rw [hlen'] at hi'
                rw [drop_take_getD _ _ _ _ _ hi']
                have hq := index_lt g4 (show off + i < es'.length by omega) hj
                have e : l.base + off * l.sz + i * l.sz + j = l.base + (off + i) * l.sz + j := by rw [Nat.add_mul]; omega
                rw [e]
                exact ⟨_, cell_at g3 hq, (g6 (off + i) j (by omega) hj).1, (g6 (off + i) j (by omega) hj).2⟩)
            rw [hlen'] at this
            exact this
        · cases he
      · cases he
  · cases he
end Hp
end
section
namespace Hp
open Go
variable {P : Program} {τ : Tb} {w : World} {F : Fx τ} {ρ : Rho} {h : Heap} {nx : Nat} {A : Ann} {fr : Fr} {a : Act} {o : Oper} {op : POp} {v : PV} {ups : List (Nat × Option PObj)} {c : Nat}
theorem Inv.drew (hi : Inv w F ρ h nx) : Inv w.drew F ρ h nx :=
  hi.of_parts (Grow.drew w h ρ _) (fun _ x hx => .inl ⟨x, hx, rfl, rfl, fun _ _ => rfl⟩) hi.fz hi.inj hi.idh hi.idr hi.blk (Nat.le_refl _)
theorem Grow.ofDrew (w : World) (h : Heap) (ρ : Rho) : Grow w h ρ w.drew h ρ := Grow.drew w h ρ _
/-- append that needs a new row -/
theorem append_grow {t u ty e : TypeId} {i : TypeInfo} {z : Value} (ht : P.underlying t = some (.slice e)) {e' : TypeId} (hu : P.underlying u = some (.slice e')) (hi : P.info? e = some i) (hz : i.zero = some z)
    (hb0 : i.bytes ≠ 0) {b b2 : Option Addr} {sLen sCap n c2 : Nat} (hg : sCap < sLen + n) (hfit : Builtin.nextslicecap (sLen + n) sCap * i.bytes ≤ 281474976710656) {c1 c3 : Array Value}
    (h1 : (Builtin.firstCells i.size sLen (.slice b sLen sCap)).run P w.drew = .ok c1 w.drew) (h2 : (Builtin.firstCells i.size n (.slice b2 n c2)).run P w.drew = .ok c3 w.drew) :
    (Builtin.append_ #[t, u] ty #[.slice b sLen sCap, .slice b2 n c2]).run P w =
      .ok (.slice (some ⟨w.heap.size, 0, none⟩) (sLen + n) (grownCap w (sLen + n) sCap e))
        (w.drew.alloc (.cells (c1 ++ c3 ++ Builtin.zeroCells z.cells (grownCap w (sLen + n) sCap e - (sLen + n))) e)) := by
  have hn : ¬ (sLen + n ≤ sCap) := by omega
  have h48' : ¬ (281474976710656 < Builtin.nextslicecap (sLen + n) sCap * i.bytes) := by omega
  simp [Builtin.append_, run_underlying ht, run_underlying hu, Go.sizeOf, typeInfo, zeroValue, hi, hz, Builtin.lenOf, hn, hb0, h48', Question.forced, h1, h2, newRow, grownCap]
/-- append with room -/
theorem append_room {t u ty e : TypeId} {i : TypeInfo} (ht : P.underlying t = some (.slice e)) {e' : TypeId} (hu : P.underlying u = some (.slice e')) (hi : P.info? e = some i)
    {b b2 : Option Addr} {sLen sCap n c2 : Nat} (hg : sLen + n ≤ sCap) {c3 : Array Value} (h2 : (Builtin.firstCells i.size n (.slice b2 n c2)).run P w = .ok c3 w) :
    (Builtin.append_ #[t, u] ty #[.slice b sLen sCap, .slice b2 n c2]).run P w =
      ((do if let some a := b then storeCells (a.add (sLen * i.size)) c3.toList
           pure (.slice b (sLen + n) sCap) : Sem Value).run P w) := by
  simp [Builtin.append_, run_underlying ht, run_underlying hu, Go.sizeOf, typeInfo, hi, Builtin.lenOf, hg, h2]
  cases b <;> rfl
theorem grow_fits {need old bytes : Nat} (h : old < need) (hb : okBytes ((2 * need + 1000) * bytes) = true) : Builtin.nextslicecap need old * bytes ≤ 281474976710656 := by
  simp only [okBytes, decide_eq_true_eq] at hb
  have h1 := Nat.mul_le_mul_right bytes (nextslicecap_le h)
  have h2 : 2 * need * bytes ≤ (2 * need + 1000) * bytes := Nat.mul_le_mul_right _ (by omega)
  omega
theorem firstCells_size {k n : Nat} {b : Option Addr} {cap : Nat} {es : List PV} {cs : Array Value} (hs : cs.size = n * k) (hn : es.length = n) : cs.size = es.length * k := by rw [hs, hn]
/-- a row that has grown -/
theorem grown_does (hi : Inv w F ρ h nx) (hV : ¬ F.ids nx) {t u ty e : TypeId} {i : TypeInfo} {zv : Value} {z : PV} (ht : P.underlying t = some (.slice e)) {e' : TypeId} (hu : P.underlying u = some (.slice e')) (hinfo : P.info? e = some i) (hz : i.zero = some zv)
    (hzc : zv.cells.size = i.size) (hpos : 0 < i.size) (hb0 : i.bytes ≠ 0) {b b2 : Option Addr} {sCap c2 : Nat} {es new : List PV} (hg : sCap < es.length + new.length)
    (hfit : Builtin.nextslicecap (es.length + new.length) sCap * i.bytes ≤ 281474976710656) {cs1 cs2 : Array Value}
    (h1 : (Builtin.firstCells i.size es.length (.slice b es.length sCap)).run P w.drew = .ok cs1 w.drew) (s1 : cs1.size = es.length * i.size) (r1 : ERel w.drew (NN F h ρ) ρ i.size es cs1)
    (h2 : (Builtin.firstCells i.size new.length (.slice b2 new.length c2)).run P w.drew = .ok cs2 w.drew) (s2 : cs2.size = new.length * i.size) (r2 : ERel w.drew (NN F h ρ) ρ i.size new cs2) :
    Does P w F ρ h (do pure (.value (← Builtin.append_ #[t, u] ty #[.slice b es.length sCap, .slice b2 new.length c2]))) (.msl nx 0 (es.length + new.length) (es.length + new.length))
      (hset h nx (some (.arr i.size (es ++ new)))) (nx + 1) := by
  have hcap := grownCap_ge w (es.length + new.length) sCap e
  have hr := append_grow (ty := ty) ht hu hinfo hz hb0 hg hfit h1 h2
  have hE := r1.append (c3 := Builtin.zeroCells zv.cells (grownCap w (es.length + new.length) sCap e - (es.length + new.length))) s1 r2 s2
  obtain ⟨q1, q2, q3⟩ := newRow_does hi.drew hV e hE (es.length + new.length) (es.length + new.length) (grownCap w (es.length + new.length) sCap e) hcap hcap (by
    simp only [Array.size_append, size_zeroCells, hzc, s1, s2]
    have : grownCap w (es.length + new.length) sCap e * i.size = (es.length + new.length + (grownCap w (es.length + new.length) sCap e - (es.length + new.length))) * i.size := by congr 1; omega
    rw [this, Nat.add_mul, Nat.add_mul]; exact Nat.le_refl _) hpos
  exact ⟨_, _, _, _, by rw [Sem.run_bind, hr]; rfl, .inl rfl, q1, (Grow.ofDrew w h ρ).trans q2, q3⟩
end Hp
end
section
namespace Hp
open Go
variable {P : Program} {τ : Tb} {w : World} {F : Fx τ} {ρ : Rho} {h : Heap} {nx : Nat} {A : Ann} {fr : Fr} {a : Act} {o : Oper} {op : POp} {v : PV} {ups : List (Nat × Option PObj)} {c : Nat}
theorem Does.from {h1 h' : Heap} {s : Sem Next} {nx' : Nat} (hg : Grow w h ρ w h1 ρ) (hd : Does P w F ρ h1 s v h' nx') : Does P w F ρ h s v h' nx' := by
  obtain ⟨w', ρ', nxt, val, q1, q2, q3, q4, q5⟩ := hd
  exact ⟨w', ρ', nxt, val, q1, q2, q3, hg.trans q4, q5⟩
theorem Rel.drew {N : Nat → Prop} {p : PV} {v : Value} (hr : Rel w N ρ p v) : Rel w.drew N ρ p v := Rel.world (w := w) (w' := w.drew) rfl hr
theorem ERel.allOne {N : Nat → Prop} {k : Nat} {es : List PV} {cs : Array Value} (he : ERel w N ρ k es cs) (hs : cs.size = es.length * k) (hk : 0 < k) : ∀ v ∈ cs.toList, v.oneCell' = true := by
  intro v hv
  obtain ⟨q, hq, rfl⟩ := List.getElem_of_mem hv
  have hq' : q < es.length * k := by simpa [hs] using hq
  have hd : q / k < es.length := (Nat.div_lt_iff_lt_mul hk).2 hq'
  have := ((he.2 (q / k) hd).2 (q % k) (Nat.mod_lt _ hk)).2
  have e : q / k * k + q % k = q := by have := Nat.div_add_mod q k; rwa [Nat.mul_comm] at this
  rw [e, agetD, List.getD, List.getElem?_eq_getElem hq] at this
  simpa using this
theorem splice_getD2 (es new : List PV) (p i : Nat) (hp : p + new.length ≤ es.length) : (es.take p ++ new ++ es.drop (p + new.length)).getD i .any = if p ≤ i ∧ i < p + new.length then new.getD (i - p) .any else es.getD i .any := by
  have hlen : (es.take p).length = p := by simp; omega
  simp only [List.getD, List.append_assoc]
  by_cases h1 : i < p
  · rw [if_neg (by omega), List.getElem?_append_left (by omega), List.getElem?_take, if_pos h1]
  · rw [List.getElem?_append_right (by omega), hlen]
    by_cases h2 : i < p + new.length
    · rw [if_pos (by omega), List.getElem?_append_left (by omega)]
    · rw [if_neg (by omega), List.getElem?_append_right (by omega), List.getElem?_drop]
      have : p + new.length + (i - p - new.length) = i := by omega
      rw [this]
/-- where the cell of an element lies among written elements -/
theorem cell_split {b p n i j sz : Nat} (hj : j < sz) : (b + p * sz ≤ b + i * sz + j ∧ b + i * sz + j < b + p * sz + n * sz) ↔ (p ≤ i ∧ i < p + n) := by
  constructor
  · intro ⟨h1, h2⟩
    constructor
    · rcases Nat.lt_or_ge i p with hlt | hge
      · have := Nat.mul_le_mul_right sz (show i + 1 ≤ p from hlt)
        rw [Nat.succ_mul] at this; omega
      · exact hge
    · rcases Nat.lt_or_ge i (p + n) with hlt | hge
      · exact hlt
      · have := Nat.mul_le_mul_right sz hge
        rw [Nat.add_mul] at this; omega
  · intro ⟨h1, h2⟩
    have g1 := Nat.mul_le_mul_right sz h1
    have g2 := Nat.mul_le_mul_right sz (show i + 1 ≤ p + n from h2)
    rw [Nat.succ_mul, Nat.add_mul] at g2
    omega
/-- elements written over elements -/
theorem rows_write (hi : Inv w F ρ h nx) {id sz : Nat} {es : List PV} (ha : harr h id = some (false, sz, es)) (hne : es ≠ []) {l : Loc} {c : Array Value} {te : TypeId}
    (hl : ρ id = some l) (hb : w.heap[l.blk]? = some (.cells c te (0, 0))) {p : Nat} {new : List PV} {cs : Array Value} (hr : ERel w (NN F h ρ) ρ sz new cs) (hs : cs.size = new.length * sz) (hp : p + new.length ≤ es.length) :
    (storeCells ⟨l.blk, l.base + p * sz, none⟩ cs.toList).run P w = .ok () (setBlk w l.blk (.cells (ovw c (l.base + p * sz) cs.toList) te (0, 0))) ∧
    (ovw c (l.base + p * sz) cs.toList).size = c.size ∧
    Inv (setBlk w l.blk (.cells (ovw c (l.base + p * sz) cs.toList) te (0, 0))) F ρ (hset h id (some (.arr sz (es.take p ++ new ++ es.drop (p + new.length))))) nx ∧
    Grow w h ρ (setBlk w l.blk (.cells (ovw c (l.base + p * sz) cs.toList) te (0, 0))) (hset h id (some (.arr sz (es.take p ++ new ++ es.drop (p + new.length))))) ρ := by
  obtain ⟨l', c0, te0, h1, h2, h3, hpos, h4, h5, h6⟩ := hi.arr ha hne
  rw [hl] at h1; cases h1
  rw [hb] at h3; cases h3
  have hmul := Nat.mul_le_mul_right sz hp
  rw [Nat.add_mul] at hmul
  have hlen : cs.toList.length = new.length * sz := by simpa using hs
  have hin : l.base + p * sz + cs.toList.length ≤ c.size := by rw [hlen]; omega
  refine ⟨run_storeCells_blk hb _ _ hin (hr.allOne hs hpos), ovw_size _ _ _ hin, ?_⟩
  refine hi.write ha hne hl hb _ (ovw_size _ _ _ hin) _ (by simp; omega) fun N' hkeep i hi' => ?_
  have hi2 : i < es.length := by simp at hi'; omega
  rw [splice_getD2 _ _ _ _ hp]
  by_cases hin' : p ≤ i ∧ i < p + new.length
  · rw [if_pos hin']
    have hlt : i - p < new.length := by omega
    refine ⟨(hr.2 _ hlt).1, fun j hj => ?_⟩
    rw [ovw_getD _ _ _ hin, hlen, if_pos ((cell_split hj).2 hin')]
    have e : l.base + i * sz + j - (l.base + p * sz) = (i - p) * sz + j := by
      have : i * sz = p * sz + (i - p) * sz := by rw [← Nat.add_mul]; congr 1; omega
      omega
    rw [e]
    have := (hr.2 _ hlt).2 j hj
    rw [agetD] at this
    exact ⟨this.1.keep hkeep, this.2⟩
  · rw [if_neg hin']
    refine ⟨h5 i hi2, fun j hj => ?_⟩
    rw [ovw_getD _ _ _ hin, hlen, if_neg fun hh => hin' ((cell_split hj).1 hh)]
    have := h6 i j hi2 hj
    exact ⟨this.1.keep hkeep, this.2⟩
/-- a slice's value, its length, its room -/
theorem slice_cap {N : Nat → Prop} {p : PV} {va : Value} {base : Option Addr} {n cap : Nat} (hr : Rel w N ρ p va) (hv : va = .slice base n cap) :
    (∀ full sz es, p = .isl full sz es → n = es.length ∧ (full = true → cap = es.length)) := by
  rintro full sz es rfl
  cases hr with
  | isl0 _ _ ad cap' hf => cases hv; exact ⟨rfl, hf⟩
  | isl _ _ _ b o cap' g h1 h2 => cases hv; exact ⟨rfl, h2⟩
theorem sim_append {t u ty : TypeId} {x y : Operand} (hi : Inv w F ρ h nx) (hf : FrRel w (NN F h ρ) ρ fr a.tmps) {x' y' : Opd} (hx : rOpd x = some x') (hy : rOpd y = some y') {e e' : TypeId}
    (ht : P.underlying t = some (.slice e)) (hu : P.underlying u = some (.slice e')) {i : TypeInfo} (hinfo : P.info? e = some i) {z : PV} (hz : zeroT P e = some z) (hb : ¬ (i.bytes = 0 ∨ i.size = 0))
    (hV : 0 < c → ¬ F.ids nx) (hm : mop fr h nx (.app i.bytes z x' y') = some (v, ups, c)) : Does P w F ρ h (do pure (.value (← Builtin.append_ #[t, u] ty #[a.eval x, a.eval y]))) v (hsets h ups) (nx + c) := by
  have rx := rOpd_rel hx hf
  have ry := rOpd_rel hy hf
  generalize hvx : a.eval x = vx at rx ⊢
  generalize hvy : a.eval y = vy at ry ⊢
  obtain ⟨zv, i', z1, z2, z3, z4, z5, z6, z7⟩ := run_zero (P := P) hz w
  rw [hinfo] at z1; cases z1
  have hb0 : i.bytes ≠ 0 := fun h => hb (.inl h)
  have hpos : 0 < i.size := Nat.pos_of_ne_zero fun h => hb (.inr h)
  simp only [mop] at hm
  split at hm
  case h_2 => cases hm
  rename_i new hnew
  rw [z7] at hnew
  obtain ⟨b2, c2, hvy2, hfc2⟩ := elems_run (P := P) hi hnew ry
  obtain ⟨b2', c2', hvy2', hfc2'⟩ := elems_run (P := P) hi.drew hnew ry.drew
  rw [hvy2] at hvy2'; cases hvy2'
  subst hvy2
  obtain ⟨cs2, k1, k2, k3⟩ := hfc2 new.length (Nat.le_refl _)
  obtain ⟨cs2', k1', k2', k3'⟩ := hfc2' new.length (Nat.le_refl _)
  rw [List.take_length] at k3 k3'
  -- nothing is appended
  have empty : new = [] → ∀ {base : Option Addr} {n cap : Nat}, vx = .slice base n cap → n ≤ cap → Does P w F ρ h (do pure (.value (← Builtin.append_ #[t, u] ty #[vx, .slice b2 new.length c2]))) (x'.get fr) h nx := by
    rintro rfl base n cap rfl hle
    have hc : cs2 = #[] := Array.eq_empty_of_size_eq_zero (by simpa using k2)
    have := append_room (P := P) (t := t) (u := u) (ty := ty) (b := base) (sLen := n) (sCap := cap) (b2 := b2) (n := 0) (c2 := c2) ht hu hinfo (by omega) (by simpa using k1)
    refine Does.quiet hi (val := .slice base n cap) ?_ rx
    simp only [List.length_nil]
    rw [Sem.run_bind, this]
    subst hc
    cases base <;> simp [storeCells]
  unfold appendTo at hm
  split at hm
  · rename_i full sz es hxv
    split at hm
    · rename_i h0
      simp only [Option.some.injEq, Prod.mk.injEq] at hm
      obtain ⟨rfl, rfl, rfl⟩ := hm
      have h0 : new = [] := by simpa using h0
      rw [hxv] at rx
      have hr2 := rx
      cases hr2 with
      | isl0 => exact empty h0 rfl (Nat.zero_le _)
      | isl _ _ _ b o cap g h1 => exact empty h0 rfl h1
    · rename_i h0
      have hnpos : 0 < new.length := by
        rcases Nat.eq_zero_or_pos new.length with h | h
        · exact absurd (by simpa using h) h0
        · exact h
      by_cases hcond : full = true ∧ (es.isEmpty = true ∨ sz = z.cells.length) ∧ okBytes ((if es.isEmpty = true then new.length else 2 * (es.length + new.length) + 1000) * i.bytes) = true
      · rw [if_pos hcond] at hm
        simp only [Option.some.injEq, Prod.mk.injEq] at hm
        obtain ⟨rfl, rfl, rfl⟩ := hm
        obtain ⟨hfull, hsz, hok⟩ := hcond
        subst hfull
        rw [hxv] at rx
        have he1 : elems h i.size (.isl true sz es) = some es := by
          simp only [elems]
          rw [if_pos]
          rcases hsz with h | h
          · simp [h]
          · simp [h, z7]
        obtain ⟨b1, c1, hv1, hf1⟩ := elems_run (P := P) hi.drew he1 rx.drew
        obtain ⟨cs1, j1, j2, j3⟩ := hf1 es.length (Nat.le_refl _)
        rw [List.take_length] at j3
        have hcap := (slice_cap rx hv1 true sz es rfl).2 rfl
        subst hcap
        subst hv1
        have hfit : Builtin.nextslicecap (es.length + new.length) es.length * i.bytes ≤ 281474976710656 := by
          split at hok
          · rename_i he
            have he : es = [] := by simpa using he
            subst he
            simp only [List.length_nil, Nat.zero_add]
            rw [nextslicecap_zero hnpos]
            simpa [okBytes] using hok
          · exact grow_fits (by omega) hok
        have := grown_does (z := z) (ty := ty) hi (hV Nat.one_pos) ht hu hinfo z2 z6 hpos hb0 (by omega) hfit j1 j2 j3 k1' k2' k3'
        rw [z7]
        exact this
      · rw [if_neg hcond] at hm; cases hm
  · rename_i id off len cp hxv
    split at hm
    · rename_i h0
      simp only [Option.some.injEq, Prod.mk.injEq] at hm
      obtain ⟨rfl, rfl, rfl⟩ := hm
      have h0 : new = [] := by simpa using h0
      rw [hxv] at rx
      have hr2 := rx
      cases hr2 with
      | msl0 => exact empty h0 rfl (Nat.zero_le _)
      | msl _ _ _ _ cap l c te f hl h1 h2 => exact empty h0 rfl h1
    · rename_i h0
      have hnpos : 0 < new.length := by
        rcases Nat.eq_zero_or_pos new.length with h | h
        · exact absurd (by simpa using h) h0
        · exact h
      split at hm
      case h_2 => cases hm
      rename_i sz es hh
      rw [hxv] at rx
      split at hm
      · rename_i hcond
        obtain ⟨hlc, hoc, hsz⟩ := hcond
        simp only [Option.some.injEq, Prod.mk.injEq] at hm
        obtain ⟨rfl, rfl, rfl⟩ := hm
        rw [z7] at hsz
        subst hsz
        cases rx with
        | msl0 => omega
        | msl _ _ _ _ cap l c te f hl h1 h2 hbk hsz =>
          have hne : es ≠ [] := by intro h0; subst h0; simp at hoc; omega
          obtain ⟨l', c', te', g1, g2, g3, gp, g4, g5, g6⟩ := hi.arr hh hne
          rw [hl] at g1; cases g1
          rw [hbk] at g3; cases g3
          have hst := rows_write (P := P) hi hh hne hl hbk (p := off + len) k3 k2 (by omega)
          obtain ⟨s1, s2, s3, s4⟩ := hst
          have har := append_room (P := P) (ty := ty) (b := some ⟨l.blk, l.base + off * l.sz, none⟩) (sLen := len) (sCap := cap) ht hu hinfo (show len + new.length ≤ cap by omega) k1
          refine ⟨_, ρ, .value (.slice (some ⟨l.blk, l.base + off * l.sz, none⟩) (len + new.length) cap), _, ?_, .inl rfl, s3, s4, ?_⟩
          · rw [Sem.run_bind, har]
            have e : (⟨l.blk, l.base + off * l.sz, none⟩ : Addr).add (len * i.size) = ⟨l.blk, l.base + (off + len) * i.size, none⟩ := by
              rw [Addr_add, g2, Nat.add_mul]; congr 1; omega
            simp only [e, Sem.run_bind, s1, Result.andThen_ok, Sem.run_pure]
          · exact .msl _ _ _ _ cap l _ te (0, 0) hl (by omega) (by omega) (setBlk_same w _ (lt_of_heap hbk)) (by rw [s2]; exact hsz)
      · split at hm
        case isFalse => cases hm
        rename_i hcond
        obtain ⟨hle, hsz, hok⟩ := hcond
        simp only [Option.some.injEq, Prod.mk.injEq] at hm
        obtain ⟨rfl, rfl, rfl⟩ := hm
        rw [z7] at hsz ⊢
        simp only [hsets]
        have hlen1 : ((es.drop off).take len).length = len := by simp; omega
        have he1 : elems h i.size (.msl id off len cp) = some ((es.drop off).take len) := by
          simp only [elems, hh]
          split
          · rename_i h0; subst h0; simp
          · rename_i h0
            rw [if_pos]
            rcases hsz with ⟨h1, _⟩ | h1
            · have : es = [] := by simpa using h1
              subst this; simp at hle; omega
            · exact ⟨h1.symm, hle⟩
        have realloc : ∀ {b1 : Option Addr} {c1 : Nat}, vx = .slice b1 len c1 → c1 < len + new.length → Does P w F ρ h (do pure (.value (← Builtin.append_ #[t, u] ty #[vx, .slice b2 new.length c2]))) (.msl nx 0 (len + new.length) (len + new.length))
            (hset (hset h id none) nx (some (.arr i.size ((es.drop off).take len ++ new)))) (nx + 1) := by
          rintro b1 c1 rfl hlt
          obtain ⟨b1', c1', hv1, hf1⟩ := elems_run (P := P) hi.drew he1 rx.drew
          obtain ⟨cs1, j1, j2, j3⟩ := hf1 _ (Nat.le_refl _)
          rw [List.take_length] at j3
          rw [hlen1] at hv1
          cases hv1
          have hs : Value.slice b1 len c1 = Value.slice b1 ((es.drop off).take len).length c1 := by rw [hlen1]
          rw [hs] at j1
          obtain ⟨m1, m2⟩ := hi.kill id
          obtain ⟨m1', m2'⟩ := hi.drew.kill id
          have := grown_does (z := z) (ty := ty) (es := (es.drop off).take len) (b := b1) (sCap := c1) (b2 := b2) (c2 := c2) m1 (hV Nat.one_pos) ht hu hinfo z2 z6 hpos hb0 (by rw [hlen1]; exact hlt)
            (by rw [hlen1]; exact grow_fits (by omega) hok) j1 j2 (j3.keep (m2'.toKeep F)) k1' k2' (k3'.keep (m2'.toKeep F))
          rw [hlen1] at this
          exact this.from m2
        have rx2 := rx
        cases rx with
        | msl0 => exact realloc rfl (by omega)
        | msl _ _ _ _ cap l c te f hl h1 h2 hbk hcsz =>
          by_cases hroom : len + new.length ≤ cap
          · -- in place after all
            have hobj := hi.obj id _ (harr_some hh)
            rcases hobj with ⟨_, hnone⟩ | ⟨l', c', te', g1, g2, g3, gp, g4, g5, g6⟩
            · rw [hl] at hnone; cases hnone
            rw [hl] at g1; cases g1
            rw [hbk] at g3; cases g3
            have hszi : sz = i.size := by
              rcases hsz with ⟨_, h⟩ | h
              · omega
              · exact h
            subst hszi
            have har := append_room (P := P) (ty := ty) (b := some ⟨l.blk, l.base + off * l.sz, none⟩) (sLen := len) (sCap := cap) ht hu hinfo hroom k1
            have hlen2 : cs2.toList.length = new.length * i.size := by simpa using k2
            have hmul := Nat.mul_le_mul_right i.size (show off + (len + new.length) ≤ off + cap by omega)
            rw [g2] at hcsz
            have hin : l.base + (off + len) * i.size + cs2.toList.length ≤ c.size := by
              rw [hlen2]
              have : (off + (len + new.length)) * i.size = (off + len) * i.size + new.length * i.size := by rw [← Nat.add_mul]; congr 1; omega
              omega
            have hst := run_storeCells_blk (P := P) hbk (l.base + (off + len) * i.size) cs2.toList hin (k3.allOne k2 hpos)
            obtain ⟨s1, s2⟩ := hi.rebind (hV Nat.one_pos) (harr_some hh) rfl hl (l' := ⟨l.blk, l.base + off * i.size, i.size⟩) rfl (.cells (ovw c (l.base + (off + len) * i.size) cs2.toList) te (0, 0)) (.arr i.size ((es.drop off).take len ++ new))
              (fun c1 e1 f1 hc1 => by rw [hbk] at hc1; cases hc1; exact ⟨_, _, rfl, ovw_size _ _ _ hin⟩) (fun N' ρ' hkeep hn => by
                refine .inr ⟨_, _, te, hn, rfl, setBlk_same w _ (lt_of_heap hbk), hpos, ?_, ?_, ?_⟩
                · rw [ovw_size _ _ _ hin]
                  simp only [List.length_append, hlen1]
                  have : (off + (len + new.length)) * i.size = off * i.size + (len + new.length) * i.size := Nat.add_mul ..
                  omega
                · intro q hq
                  by_cases hql : q < len
                  · rw [getD_append_l _ _ _ (by omega), drop_take_getD _ _ _ _ _ hql]; exact g5 _ (by omega)
                  · rw [getD_append_r _ _ _ (by omega)]
                    exact (k3.2 _ (by simp at hq; omega)).1
                · intro q j hq hj
                  have e1 : l.base + off * i.size + q * i.size + j = l.base + (off + q) * i.size + j := by rw [Nat.add_mul]; omega
                  simp only [e1]
                  rw [ovw_getD _ _ _ hin, hlen2]
                  by_cases hql : q < len
                  · rw [getD_append_l _ _ _ (by omega), drop_take_getD _ _ _ _ _ hql, if_neg fun hh => by have := (cell_split hj).1 hh; omega]
                    have := g6 (off + q) j (by omega) hj
                    exact ⟨this.1.keep hkeep, this.2⟩
                  · have hq2 : q - len < new.length := by simp at hq; omega
                    rw [getD_append_r _ _ _ (by omega), hlen1, if_pos ((cell_split hj).2 (by omega))]
                    have e2 : l.base + (off + q) * i.size + j - (l.base + (off + len) * i.size) = (q - len) * i.size + j := by
                      have : (off + q) * i.size = (off + len) * i.size + (q - len) * i.size := by rw [← Nat.add_mul]; congr 1; omega
                      omega
                    rw [e2]
                    have := (k3.2 _ hq2).2 j hj
                    rw [agetD] at this
                    exact ⟨this.1.keep hkeep, this.2⟩)
            refine ⟨_, _, .value (.slice (some ⟨l.blk, l.base + off * l.sz, none⟩) (len + new.length) cap), _, ?_, .inl rfl, s1, s2, ?_⟩
            · rw [Sem.run_bind, har]
              have e : (⟨l.blk, l.base + off * l.sz, none⟩ : Addr).add (len * i.size) = ⟨l.blk, l.base + (off + len) * i.size, none⟩ := by
                rw [Addr_add, g2, Nat.add_mul]; congr 1; omega
              simp only [e, Sem.run_bind, hst, Result.andThen_ok, Sem.run_pure]
            · rw [g2]
              have := Rel.msl (w := setBlk w l.blk (.cells (ovw c (l.base + (off + len) * i.size) cs2.toList) te (0, 0))) (N := NN F (hset (hset h id none) nx (some (.arr i.size ((es.drop off).take len ++ new)))) (updR ρ nx ⟨l.blk, l.base + off * i.size, i.size⟩))
                nx 0 (len + new.length) (len + new.length) cap _ _ te (0, 0) (updR_same ρ nx ⟨l.blk, l.base + off * i.size, i.size⟩) hroom hroom (setBlk_same w _ (lt_of_heap hbk)) (by
                  rw [ovw_size _ _ _ hin]
                  simp only [Nat.zero_add]
                  have : (off + cap) * i.size = off * i.size + cap * i.size := Nat.add_mul ..
                  omega)
              simpa using this
          · exact realloc rfl (by omega)
  · cases hm
end Hp
end
section
namespace Hp
open Go
variable {P : Program} {τ : Tb} {w : World} {F : Fx τ} {ρ : Rho} {h : Heap} {nx : Nat} {A : Ann} {fr : Fr} {a : Act} {o : Oper} {op : POp} {v : PV} {ups : List (Nat × Option PObj)} {c : Nat}
theorem sim_copy {t u ty : TypeId} {x y : Operand} (hi : Inv w F ρ h nx) (hf : FrRel w (NN F h ρ) ρ fr a.tmps) {x' y' : Opd} (hx : rOpd x = some x') (hy : rOpd y = some y') {e : TypeId}
    (ht : P.underlying t = some (.slice e)) {k : Nat} (hk : sizeT P e = some k)
    (hm : mop fr h nx (.copy k x' y') = some (v, ups, c)) : Does P w F ρ h (do pure (.value (← Builtin.copy_ #[t, u] ty #[a.eval x, a.eval y]))) v (hsets h ups) (nx + c) := by
  have rx := rOpd_rel hx hf
  have ry := rOpd_rel hy hf
  generalize hvx : a.eval x = vx at rx ⊢
  generalize hvy : a.eval y = vy at ry ⊢
  simp only [mop] at hm
  split at hm
  case h_2 => cases hm
  rename_i src hsrc
  obtain ⟨b2, c2, hvy2, hfc2⟩ := elems_run (P := P) hi hsrc ry
  subst hvy2
  unfold copyTo at hm
  split at hm
  case h_2 => cases hm
  rename_i id off len cp hxv
  rw [hxv] at rx
  have run0 : ∀ (b1 : Option Addr) (len c1 : Nat) (cs : Array Value), (Builtin.firstCells k (Nat.min src.length len) (.slice b2 src.length c2)).run P w = .ok cs w →
      (Builtin.copy_ #[t, u] ty #[.slice b1 len c1, .slice b2 src.length c2]).run P w = ((do (match b1 with | some a => storeCells a cs.toList | none => pure ()); pure (goInt (Nat.min src.length len)) : Sem Value).run P w) := by
    intro b1 len c1 cs hcs
    simp [Builtin.copy_, run_underlying ht, run_sizeOf hk, Builtin.lenOf, hcs]
    cases b1 <;> simp
  split at hm
  · rename_i h0
    subst h0
    simp only [Option.some.injEq, Prod.mk.injEq] at hm
    obtain ⟨rfl, rfl, rfl⟩ := hm
    obtain ⟨cs, k1, k2, _⟩ := hfc2 0 (Nat.zero_le _)
    have hc : cs = #[] := Array.eq_empty_of_size_eq_zero (by simpa using k2)
    subst hc
    have go : ∀ {b1 : Option Addr} {c1 : Nat}, Does P w F ρ h (do pure (.value (← Builtin.copy_ #[t, u] ty #[.slice b1 0 c1, .slice b2 src.length c2]))) (.int .i64 0) (hsets h []) (nx + 0) := by
      intro b1 c1
      have hr := run0 b1 0 c1 #[] (by simpa using k1)
      refine Does.quiet hi (val := .int .i64 0) ?_ (.int ..)
      rw [Sem.run_bind, hr]
      cases b1 <;> simp [storeCells, goInt]
    cases rx with
    | msl0 => exact go
    | msl => exact go
  · rename_i h0
    split at hm
    case h_2 => cases hm
    rename_i sz es hh
    split at hm
    case isFalse => cases hm
    rename_i hcond
    obtain ⟨hle, rfl⟩ := hcond
    simp only [Option.some.injEq, Prod.mk.injEq] at hm
    obtain ⟨rfl, rfl, rfl⟩ := hm
    cases rx with
    | msl0 => omega
    | msl _ _ _ _ cap l c te f hl h1 h2 hbk hsz =>
      have hne : es ≠ [] := by intro h0; subst h0; simp at hle; omega
      obtain ⟨l', c', te', g1, g2, g3, gp, g4, g5, g6⟩ := hi.arr hh hne
      rw [hl] at g1; cases g1
      rw [hbk] at g3; cases g3
      obtain ⟨cs, k1, k2, k3⟩ := hfc2 (min src.length len) (Nat.min_le_left ..)
      have hlen : (src.take (min src.length len)).length = min src.length len := by simp
      obtain ⟨s1, s2, s3, s4⟩ := rows_write (P := P) hi hh hne hl hbk (p := off) k3 (by rw [hlen]; exact k2) (by omega)
      rw [hlen] at s3 s4
      refine ⟨_, ρ, .value (goInt (Nat.min src.length len)), _, ?_, .inl rfl, s3, s4, .int ..⟩
      rw [Sem.run_bind, run0 _ len cap cs k1, g2]
      simp only [Sem.run_bind, s1, Result.andThen_ok, Sem.run_pure]
theorem sim_clear {t ty : TypeId} {x : Operand} (hi : Inv w F ρ h nx) (hf : FrRel w (NN F h ρ) ρ fr a.tmps) {x' : Opd} (hx : rOpd x = some x') {e : TypeId}
    (ht : P.underlying t = some (.slice e)) {z : PV} (hz : zeroT P e = some z)
    (hm : mop fr h nx (.clear z x') = some (v, ups, c)) : Does P w F ρ h (do pure (.value (← Builtin.clear_ #[t] ty #[a.eval x]))) v (hsets h ups) (nx + c) := by
  have rx := rOpd_rel hx hf
  generalize hvx : a.eval x = vx at rx ⊢
  obtain ⟨zv, i, z1, z2, z3, z4, z5, z6, z7⟩ := run_zero (P := P) hz w
  have go0 : ∀ (b1 : Option Addr) (c1 : Nat), Does P w F ρ h (do pure (.value (← Builtin.clear_ #[t] ty #[.slice b1 0 c1]))) (.tup []) h nx := by
    intro b1 c1
    refine Does.quiet hi (val := .tuple #[]) ?_ (.tup [] #[] rfl (by simp))
    cases b1 <;> simp [Builtin.clear_, run_underlying ht]
  simp only [mop] at hm
  split at hm
  · rename_i full sz hxv
    simp only [Option.some.injEq, Prod.mk.injEq] at hm
    obtain ⟨rfl, rfl, rfl⟩ := hm
    rw [hxv] at rx
    cases rx with
    | isl0 => exact go0 _ _
    | isl => exact go0 _ _
  · rename_i id off cp hxv
    simp only [Option.some.injEq, Prod.mk.injEq] at hm
    obtain ⟨rfl, rfl, rfl⟩ := hm
    rw [hxv] at rx
    cases rx with
    | msl0 => exact go0 _ _
    | msl => exact go0 _ _
  · rename_i id off len cp hne0 hxv
    rw [hxv] at rx
    split at hm
    case h_2 => cases hm
    rename_i sz es hh
    split at hm
    case isFalse => cases hm
    rename_i hcond
    obtain ⟨hle, hszk⟩ := hcond
    simp only [Option.some.injEq, Prod.mk.injEq] at hm
    obtain ⟨rfl, rfl, rfl⟩ := hm
    cases rx with
    | msl0 => exact (hne0 rfl).elim
    | msl _ _ _ _ cap l c te f hl h1 h2 hbk hsz =>
      have hlen0 : len ≠ 0 := by rintro rfl; exact hne0 rfl
      have hne : es ≠ [] := by intro h0; subst h0; simp at hle; omega
      obtain ⟨l', c', te', g1, g2, g3, gp, g4, g5, g6⟩ := hi.arr hh hne
      rw [hl] at g1; cases g1
      rw [hbk] at g3; cases g3
      have hzr : Rel w (NN F h ρ) ρ z zv := (toPV_rel 8 zv _ z4).1
      have hE := zeros_rel (hzr.cells z5) hszk.symm len
      obtain ⟨s1, s2, s3, s4⟩ := rows_write (P := P) hi hh hne hl hbk (p := off) hE (by simp) (by simp; omega)
      simp only [List.length_replicate] at s3 s4
      refine ⟨_, ρ, .value (.tuple #[]), _, ?_, .inl rfl, s3, s4, .tup [] #[] rfl (by simp)⟩
      have hz6 : zv.cells.size = sz := z6.trans (z7.symm.trans hszk.symm)
      have hzs : (Builtin.zeroCells zv.cells len).toList = ((Array.range (len * sz)).map (zv.cells[· % zv.cells.size]!)).toList := by simp [Builtin.zeroCells, hz6]
      cases len with
      | zero => exact absurd rfl hlen0
      | succ len =>
        rw [Sem.run_bind]
        simp only [Builtin.clear_, run_underlying ht, Sem.run_bind, Result.andThen_ok, List.getElem?_toArray, List.getElem?_cons_zero, z3, hzs, g2, s1, Sem.run_pure]
  · cases hm
theorem sim_clearm {t ty : TypeId} {x : Operand} (hi : Inv w F ρ h nx) (hf : FrRel w (NN F h ρ) ρ fr a.tmps) {x' : Opd} (hx : rOpd x = some x') {kt e : TypeId}
    (ht : P.underlying t = some (.map kt e)) (hm : mop fr h nx (.clearm x') = some (v, ups, c)) : Does P w F ρ h (do pure (.value (← Builtin.clear_ #[t] ty #[a.eval x]))) v (hsets h ups) (nx + c) := by
  have rx := rOpd_rel hx hf
  generalize hvx : a.eval x = vx at rx ⊢
  simp only [mop] at hm
  split at hm
  · rename_i hxv
    simp only [Option.some.injEq, Prod.mk.injEq] at hm
    obtain ⟨rfl, rfl, rfl⟩ := hm
    rw [hxv] at rx
    cases rx
    refine Does.quiet hi (val := .tuple #[]) ?_ (.tup [] #[] rfl (by simp))
    simp [Builtin.clear_, run_underlying ht]
  · rename_i id hxv
    rw [hxv] at rx
    cases rx with
    | map _ l hl =>
      split at hm
      · rename_i es clk hg
        simp only [Option.some.injEq, Prod.mk.injEq] at hm
        obtain ⟨rfl, rfl, rfl⟩ := hm
        obtain ⟨m, hb, hmr⟩ := hi.mapAt hg hl
        obtain ⟨s1, s2⟩ := hi.setMap (es' := []) (clk' := clk) hg hl hb #[] (fun N' hk => ⟨rfl, fun i k v b h => by simp at h⟩)
        refine ⟨_, ρ, .value (.tuple #[]), _, ?_, .inl rfl, s1, s2, .tup [] #[] rfl (by simp)⟩
        simp [Builtin.clear_, run_underlying ht, run_getObj_map hb, run_setObj_map hb]
      · cases hm
  · cases hm
theorem sim_clen {t ty : TypeId} {x : Operand} (hi : Inv w F ρ h nx) {n : Nat} {e : TypeId}
    (ht : P.underlying t = some (.array n e)) (hm : mop fr h nx (.clen n) = some (v, ups, c)) : Does P w F ρ h (do pure (.value (← Builtin.len_ #[t] ty #[a.eval x]))) v (hsets h ups) (nx + c) := by
  simp only [mop, Option.some.injEq, Prod.mk.injEq] at hm
  obtain ⟨rfl, rfl, rfl⟩ := hm
  exact Does.quiet hi (val := .int .i64 n) (by simp [Builtin.len_, run_underlying ht, goInt]) (.int ..)
theorem sim_mkslice {t : TypeId} {x y : Operand} (hi : Inv w F ρ h nx) (hf : FrRel w (NN F h ρ) ρ fr a.tmps) (ho : o.op = .makeSlice t x y) (hr : rOp P A o = some op) (hV : 0 < c → ¬ F.ids nx) (hm : mop fr h nx op = some (v, ups, c)) : Sim P w F ρ h nx a o v ups c := by
  unfold rOp at hr; rw [ho] at hr
  simp only at hr
  split at hr
  case h_2 => cases hr
  rename_i e ht
  split at hr
  case h_2 => cases hr
  rename_i i z x' y' hinfo hz hx hy
  split at hr
  case isFalse => cases hr
  rename_i hpos
  cases hr
  have rx := rOpd_rel hx hf
  have ry := rOpd_rel hy hf
  obtain ⟨zv, i', z1, z2, z3, z4, z5, z6, z7⟩ := run_zero (P := P) hz w
  rw [hinfo] at z1; cases z1
  simp only [mop] at hm
  split at hm
  case h_2 => cases hm
  rename_i n cp hn hc
  split at hm
  case isFalse => cases hm
  rename_i hcond
  obtain ⟨h1, h2, h3⟩ := hcond
  simp only [Option.some.injEq, Prod.mk.injEq] at hm
  obtain ⟨rfl, rfl, rfl⟩ := hm
  obtain ⟨k1, e1⟩ := natOf_rel rx hn
  obtain ⟨k2, e2⟩ := natOf_rel ry hc
  have hzr : Rel w (NN F h ρ) ρ z zv := (toPV_rel 8 zv _ z4).1
  have hE := zeros_rel (hzr.cells z5) z7 cp
  obtain ⟨q1, q2, q3⟩ := newRow_does hi (hV Nat.one_pos) e hE n cp cp h1 (Nat.le_refl _) (by simp) hpos
  have hwn : IntKind.i64.wrap (n : Int) = n := by rw [IntKind.wrap_i64]; omega
  have hwc : IntKind.i64.wrap (cp : Int) = cp := by rw [IntKind.wrap_i64]; omega
  have hz6 : zv.cells.size = i.size := z6
  have hcells : cp * i.size ≠ 0 ∨ cp * i.size = 0 := by omega
  refine ⟨_, _, .value (.slice (some ⟨w.heap.size, 0, none⟩) n cp), _, ?_, .inl rfl, q1, q2, q3⟩
  have hb : ¬ (281474976710656 < i.bytes * cp) := by rw [Nat.mul_comm]; omega
  have hb' : ¬ ((281474976710656 : Int) < (i.bytes : Int) * (cp : Int)) := by
    rw [← Int.natCast_mul]; omega
  have hn1 : ¬ ((n : Int) < 0) := by omega
  have hc1 : ¬ ((cp : Int) < 0) := by omega
  have hnc : ¬ ((cp : Int) < (n : Int)) := by omega
  by_cases h0 : cp * i.size = 0
  · have hcp : cp = 0 := by rcases Nat.mul_eq_zero.1 h0 with h | h; exact h; omega
    subst hcp
    have hn0 : n = 0 := by omega
    subst hn0
    simp [execOp, ho, Instr.makeSlice, run_underlying ht, e1.2, e2.2, asInt, run_asIntOf, typeInfo, hinfo, Go.sizeOf, newRow, IntKind.wrap_i64]
    congr 2
    have : Array.range 0 = #[] := by apply Array.eq_empty_of_size_eq_zero; simp
    simp [this]
  · simp [execOp, ho, Instr.makeSlice, run_underlying ht, e1.2, e2.2, asInt, run_asIntOf, typeInfo, hinfo, hwn, hwc, hb', hn1, hc1, hnc, Go.sizeOf, newRow, h0, z3]
end Hp
end
section
namespace Hp
open Go
variable {P : Program} {τ : Tb} {w : World} {F : Fx τ} {ρ : Rho} {h : Heap} {nx : Nat} {A : Ann} {fr : Fr} {a : Act} {o : Oper} {op : POp} {v : PV} {ups : List (Nat × Option PObj)} {c : Nat}
/-- what runs a call, a deferred call or a panic -/
def special : POp → Bool
  | .panic _ | .call .. | .callv .. | .dfr .. => true
  | _ => false
theorem mop_special {fr : Fr} {h : Heap} {nx : Nat} {op : POp} (hs : special op = true) : mop fr h nx op = none := by
  cases op <;> first | rfl | (simp [special] at hs)
theorem run_builtin (b : Builtin) (c : Call) (hb : c.callee = .builtin b) (ev : Operand → Value) (ty : TypeId) : ∃ cs : Array Bool,
    (do let d ← resolve ev c ty; invoke d.target d.args : Sem Next).run P w = (builtin b c.argTypes ty cs (c.args.map ev)).run P w := by
  exact ⟨_, by simp only [resolve, hb, invoke, pure_bind]; rfl⟩
theorem map2 {α β : Type} (f : α → β) (x y : α) : #[x, y].map f = #[f x, f y] := by simp
theorem map1 {α β : Type} (f : α → β) (x : α) : #[x].map f = #[f x] := by simp
theorem arr2 {α : Type} {x : Array α} {p q : α} (h : x.toList = [p, q]) : x = #[p, q] := by obtain ⟨x⟩ := x; simp at h; rw [h]
theorem arr1 {α : Type} {x : Array α} {p : α} (h : x.toList = [p]) : x = #[p] := by obtain ⟨x⟩ := x; simp at h; rw [h]
theorem sim_builtin {cl : Call} {b : Builtin} (hi : Inv w F ρ h nx) (hf : FrRel w (NN F h ρ) ρ fr a.tmps) (ho : o.op = .call cl) (hb : cl.callee = .builtin b) (hr : rOp P A o = some op) (hV : 0 < c → ¬ F.ids nx) (hm : mop fr h nx op = some (v, ups, c)) :
    Sim P w F ρ h nx a o v ups c := by
  obtain ⟨cs, he⟩ := run_builtin (P := P) (w := w) b cl hb a.eval o.type
  have he : (execOp a.eval o).run P w = (builtin b cl.argTypes o.type cs (cl.args.map a.eval)).run P w := by
    have : execOp a.eval o = (do let d ← resolve a.eval cl o.type; invoke d.target d.args) := by unfold execOp; rw [ho]
    rw [this]; exact he
  unfold rOp at hr; rw [ho] at hr
  simp only [hb] at hr
  refine Does.of_run ?_ he
  cases b with
  | append =>
    simp only at hr
    split at hr
    case h_2 => cases hr
    rename_i t u x y ht hx
    split at hr
    case h_2 => cases hr
    rename_i e e' x' y' hte hue hxo hyo
    split at hr
    case h_2 => cases hr
    rename_i i z hinfo hz
    split at hr
    · cases hr
    · rename_i hb0
      cases hr
      rw [arr2 ht, arr2 hx, map2]
      exact sim_append hi hf hxo hyo hte hue hinfo hz hb0 hV hm
  | len =>
    simp only at hr
    split at hr
    case h_2 => cases hr
    rename_i t x ht hx
    rw [arr1 ht, arr1 hx, map1]
    split at hr
    · rename_i hu hxo; cases hr; exact sim_len hi hf hxo (.inl ⟨rfl, hu⟩) hm
    · rename_i hu hxo; cases hr; exact sim_len hi hf hxo (.inr (.inl ⟨rfl, _, hu⟩)) hm
    · rename_i hu hxo; cases hr; exact sim_len hi hf hxo (.inr (.inr ⟨rfl, _, _, hu⟩)) hm
    · rename_i hu; cases hr; exact sim_clen hi hu hm
    · cases hr
  | copy =>
    simp only at hr
    split at hr
    case h_2 => cases hr
    rename_i t u x y ht hx
    rw [arr2 ht, arr2 hx, map2]
    split at hr
    case h_2 => cases hr
    rename_i e e' x' y' hte hue hxo hyo
    obtain ⟨k, hk, rfl⟩ := optMap hr
    exact sim_copy hi hf hxo hyo hte hk hm
  | clear =>
    simp only at hr
    split at hr
    case h_2 => cases hr
    rename_i t x ht hx
    rw [arr1 ht, arr1 hx, map1]
    split at hr
    · rename_i hu hxo
      obtain ⟨z, hz, rfl⟩ := optMap hr
      exact sim_clear hi hf hxo hu hz hm
    · rename_i hu hxo; cases hr; exact sim_clearm hi hf hxo hu hm
    · cases hr
  | max =>
    simp only at hr
    split at hr
    case h_2 => cases hr
    rename_i x y hx
    rw [arr2 hx, map2]
    split at hr
    · rename_i hxo hyo; cases hr; exact sim_max hi hf hxo hyo cl.argTypes o.type true hm
    · cases hr
  | min =>
    simp only at hr
    split at hr
    case h_2 => cases hr
    rename_i x y hx
    rw [arr2 hx, map2]
    split at hr
    · rename_i hxo hyo; cases hr; exact sim_max hi hf hxo hyo cl.argTypes o.type false hm
    · cases hr
  | _ => simp at hr
/-- what an operation of memory and numbers does -/
theorem mop_sim (hi : Inv w F ρ h nx) (hf : FrRel w (NN F h ρ) ρ fr a.tmps) (hr : rOp P A o = some op) (hV : 0 < c → ¬ F.ids nx) (hm : mop fr h nx op = some (v, ups, c)) : Sim P w F ρ h nx a o v ups c := by
  cases ho : o.op with
  | move x => exact sim_move hi hf (.inl ho) hr hm
  | assign x => exact sim_move hi hf (.inr ho) hr hm
  | pick c a b => exact sim_pick hi hf ho hr hm
  | alloc t => exact sim_alloc hi ho hr hV hm
  | box t x => exact sim_box hi hf ho hr hV hm
  | build t ps => exact sim_build hi hf ho hr hm
  | buildSlice t n ps => exact sim_lits hi hf ho hr hV hm
  | load t x => exact sim_load hi hf ho hr hm
  | store t x y => exact sim_store hi hf ho hr hm
  | nilCheck x => exact sim_nilCheck hi hf ho hr hm
  | binOp bo t x y ty => exact sim_bin hi hf ho hr hm
  | unOp u t x => exact sim_un hi hf ho hr hm
  | convert s d x => exact sim_conv hi hf ho hr hm
  | fieldAddr t x f => exact sim_faddr hi hf ho hr hm
  | indexAddr t x i => exact sim_iaddr hi hf ho hr hm
  | index t x i => exact sim_sidx hi hf ho hr hm
  | slice t x lo h m => exact sim_slice hi hf ho hr hm
  | makeMap t r =>
    cases r with
    | none => exact sim_mkmap hi ho hr hV hm
    | some _ => unfold rOp at hr; rw [ho] at hr; cases hr
  | lookup t m k ok => exact sim_look hi hf ho hr hm
  | mapUpdate t m k x => exact sim_mupd hi hf (.inl ho) hr hm
  | insert t m k x => exact sim_mupd hi hf (.inr ho) hr hm
  | mapEntry t m k => exact sim_ment hi hf ho hr hm
  | entryStore t m s x => exact sim_mest hi hf ho hr hm
  | extract x i => exact sim_extract hi hf ho hr hm
  | field s x i => exact sim_field hi hf ho hr hm
  | makeFunc f x y =>
    cases f with
    | func f => exact sim_mkfn hi hf ho hr hm
    | _ => unfold rOp at hr; rw [ho] at hr; cases hr
  | makeInterface t x => exact sim_mkifc hi hf ho hr hm
  | makeSlice t l c => exact sim_mkslice hi hf ho hr hV hm
  | panic x =>
    unfold rOp at hr; rw [ho] at hr
    obtain ⟨y, _, rfl⟩ := optMap hr
    cases hm
  | call cl =>
    cases hc : cl.callee with
    | builtin b => exact sim_builtin hi hf ho hc hr hV hm
    | invoke r n => unfold rOp at hr; rw [ho] at hr; simp only [hc] at hr; cases hr
    | value f =>
      unfold rOp at hr; rw [ho] at hr
      simp only [hc] at hr
      have : special op = true := by
        split at hr
        · rename_i f hc'
          split at hr
          · obtain ⟨y, _, rfl⟩ := optMap hr; rfl
          · cases hr
        · split at hr
          · cases hr; rfl
          · cases hr
        all_goals first | (rename_i h; cases h) | cases hr
      rw [mop_special this] at hm; cases hm
  | defer cl =>
    unfold rOp at hr; rw [ho] at hr
    simp only at hr
    have : special op = true := by
      split at hr
      · split at hr
        · obtain ⟨y, _, rfl⟩ := optMap hr; rfl
        · cases hr
      · cases hr
    rw [mop_special this] at hm; cases hm
  | _ => unfold rOp at hr; rw [ho] at hr; cases hr
end Hp
end
section
namespace Hp
open Go
variable {P : Program} {τ : Tb} {w : World} {F : Fx τ} {ρ : Rho} {h : Heap} {nx : Nat}
theorem reifyL_get {f : PV → Option PV} : ∀ {l r : List PV}, reifyL f l = some r → r.length = l.length ∧ ∀ i, i < l.length → reifyV f (l.getD i .any) = some (r.getD i .any)
  | [], r, h => by simp [reifyL] at h; subst h; exact ⟨rfl, fun i hi => by simp at hi⟩
  | v :: l, r, h => by
    simp only [reifyL] at h
    split at h
    · rename_i v' l' hv hl
      cases h
      obtain ⟨h1, h2⟩ := reifyL_get hl
      refine ⟨by simp [h1], fun i hi => ?_⟩
      cases i with
      | zero => simpa using hv
      | succ i => have := h2 i (by simpa using hi); simpa [List.getD] using this
    · cases h
/-- what stands for what leads into the own heap is one cell -/
def OneF (f : PV → Option PV) : Prop := ∀ p r, f p = some r → isAgg r = false
theorem deref_one (h : Heap) (n : Nat) : OneF (deref h n) := by
  intro p r hr
  cases n with
  | zero => simp [deref] at hr
  | succ n =>
    unfold deref at hr
    split at hr
    · cases hr
    · split at hr
      · split at hr
        · obtain ⟨_, _, rfl⟩ := optMap hr; rfl
        · cases hr
      · cases hr
    · split at hr
      · split at hr
        · obtain ⟨_, _, rfl⟩ := optMap hr; rfl
        · cases hr
      · cases hr
    · cases hr
theorem reify_cells {f : PV → Option PV} (hf : OneF f) {p r : PV} (h : reifyV f p = some r) : reifyL f p.cells = some r.cells := by
  have one : ∀ {p r : PV}, isAgg p = false → isAgg r = false → reifyV f p = some r → reifyL f p.cells = some r.cells := by
    intro p r hp hr h
    have hc : ∀ p : PV, isAgg p = false → p.cells = [p] := by intro p hp; cases p <;> first | rfl | simp [isAgg] at hp
    rw [hc p hp, hc r hr]; simp [reifyL, h]
  cases p with
  | agg cs =>
    simp only [reifyV] at h
    obtain ⟨cs', h1, rfl⟩ := optMap h
    exact h1
  | tup cs => have h0 := h; simp only [reifyV] at h; obtain ⟨cs', h1, rfl⟩ := optMap h; exact one rfl rfl h0
  | iptr cs => have h0 := h; simp only [reifyV] at h; obtain ⟨cs', h1, rfl⟩ := optMap h; exact one rfl rfl h0
  | isl a b cs => have h0 := h; simp only [reifyV] at h; obtain ⟨cs', h1, rfl⟩ := optMap h; exact one rfl rfl h0
  | ifc t v => have h0 := h; simp only [reifyV] at h; obtain ⟨cs', h1, rfl⟩ := optMap h; exact one rfl rfl h0
  | mptr a b c => exact one rfl (hf _ _ (by simpa [reifyV] using h)) h
  | msl a b c d => exact one rfl (hf _ _ (by simpa [reifyV] using h)) h
  | fn g a b =>
    have h0 := h
    simp only [reifyV] at h
    split at h
    · cases h; exact one rfl rfl h0
    · cases h
  | _ => have h0 := h; simp only [reifyV, Option.some.injEq] at h; subst h; exact one rfl rfl h0
theorem reifyL_take {f : PV → Option PV} : ∀ {l r : List PV} (k : Nat), reifyL f l = some r → reifyL f (l.drop k) = some (r.drop k)
  | l, r, 0, h => by simpa using h
  | [], r, k + 1, h => by simp [reifyL] at h; subst h; simp [reifyL]
  | v :: l, r, k + 1, h => by
    simp only [reifyL] at h
    split at h
    · rename_i v' l' hv hl; cases h; simpa using reifyL_take k hl
    · cases h
theorem leadsL_mem {f : PV → List Nat} : ∀ {l : List PV} {i : Nat} {id : Nat}, i < l.length → id ∈ leads f (l.getD i .any) → id ∈ leadsL f l
  | [], _, _, hi, _ => by simp at hi
  | v :: l, 0, _, _, h => by simp only [leadsL, List.mem_append]; exact .inl (by simpa using h)
  | v :: l, i + 1, _, hi, h => by
    simp only [leadsL, List.mem_append]
    exact .inr (leadsL_mem (i := i) (by simpa using hi) (by simpa [List.getD] using h))
/-- N' leaves alone what the ids of L lead to -/
structure Sub (w : World) (F : Fx τ) (h : Heap) (ρ : Rho) (L : List Nat) (N' : Nat → Prop) : Prop where
  sub : ∀ b, b < w.heap.size → ¬ NN F h ρ b → ¬ N' b
  led : ∀ id, id ∈ L → ∀ x l, h.get id = some x → ρ id = some l → ¬ N' l.blk
theorem Sub.mono {L L' : List Nat} {N' : Nat → Prop} (hs : Sub w F h ρ L N') (hl : ∀ id, id ∈ L' → id ∈ L) : Sub w F h ρ L' N' := ⟨hs.sub, fun id hid => hs.led id (hl id hid)⟩
theorem leads_cell {f : PV → List Nat} {p : PV} {j id : Nat} (hj : j < p.cells.length) (h : id ∈ leads f (p.cells.getD j .any)) : id ∈ leads f p := by
  cases p with
  | agg cs => simp only [leads]; exact leadsL_mem (by simpa [PV.cells] using hj) (by simpa [PV.cells] using h)
  | _ => have : j = 0 := by { simp [PV.cells] at hj; exact hj }
         subst this; simpa [PV.cells] using h
def isRef : PV → Bool
  | .mptr .. | .msl .. => true
  | _ => false
theorem reify_step {f : PV → Option PV} {g : PV → List Nat} (hf : OneF f)
    (Hm : ∀ p r v N' ρ', isRef p = true → Rel w (NN F h ρ) ρ p v → f p = some r → Sub w F h ρ (g p) N' → Rel w N' ρ' r v) {p : PV} {v : Value} (hr : Rel w (NN F h ρ) ρ p v) :
    ∀ (r : PV) (N' : Nat → Prop) (ρ' : Rho), reifyV f p = some r → Sub w F h ρ (leads g p) N' → Rel w N' ρ' r v := by
  induction hr with
  | any v => intro r N' ρ' h _; simp only [reifyV, Option.some.injEq] at h; subst h; exact .any _
  | bool v => intro r N' ρ' h _; simp only [reifyV, Option.some.injEq] at h; subst h; exact .bool _
  | int k v => intro r N' ρ' h _; simp only [reifyV, Option.some.injEq] at h; subst h; exact .int _ _
  | str v => intro r N' ρ' h _; simp only [reifyV, Option.some.injEq] at h; subst h; exact .str _
  | nilp => intro r N' ρ' h _; simp only [reifyV, Option.some.injEq] at h; subst h; exact .nilp
  | nilf => intro r N' ρ' h _; simp only [reifyV, Option.some.injEq] at h; subst h; exact .nilf
  | nili => intro r N' ρ' h _; simp only [reifyV, Option.some.injEq] at h; subst h; exact .nili
  | nilm => intro r N' ρ' h _; simp only [reifyV, Option.some.injEq] at h; subst h; exact .nilm
  | map id l hl => intro r N' ρ' h _; simp only [reifyV, Option.some.injEq] at h; subst h; exact .any _
  | agg cs vs hs h1 _ ih =>
    intro r N' ρ' h hs'
    simp only [reifyV] at h
    obtain ⟨cs', e, rfl⟩ := optMap h
    obtain ⟨e1, e2⟩ := reifyL_get e
    exact .agg cs' vs (hs.trans e1.symm) (fun i hi' => h1 i (by omega)) fun i hi' => ih i (by omega) _ _ _ (e2 i (by omega)) (hs'.mono fun id hid => leadsL_mem (by omega) hid)
  | tup cs vs hs _ ih =>
    intro r N' ρ' h hs'
    simp only [reifyV] at h
    obtain ⟨cs', e, rfl⟩ := optMap h
    obtain ⟨e1, e2⟩ := reifyL_get e
    exact .tup cs' vs (hs.trans e1.symm) fun i hi' => ih i (by omega) _ _ _ (e2 i (by omega)) (hs'.mono fun id hid => leadsL_mem (by omega) hid)
  | iptr b o cs gv hb hn hc h1 _ ih =>
    intro r N' ρ' h hs'
    simp only [reifyV] at h
    obtain ⟨cs', e, rfl⟩ := optMap h
    obtain ⟨e1, e2⟩ := reifyL_get e
    exact .iptr b o cs' gv hb (hs'.sub b hb hn) (fun i hi' => hc i (by omega)) (fun i hi' => h1 i (by omega)) fun i hi' => ih i (by omega) _ _ _ (e2 i (by omega)) (hs'.mono fun id hid => leadsL_mem (by omega) hid)
  | isl0 full sz a cap hc =>
    intro r N' ρ' h hs'
    simp only [reifyV, reifyL, Option.map_some, Option.some.injEq] at h
    subst h; exact .isl0 full sz a cap hc
  | isl full sz es b o cap gv h1 h2 hb hn hsz hc h3 _ ih =>
    intro r N' ρ' h hs'
    simp only [reifyV] at h
    obtain ⟨es', e, rfl⟩ := optMap h
    obtain ⟨e1, e2⟩ := reifyL_get e
    have hcell : ∀ i, i < es.length → (es'.getD i .any).cells.length = (es.getD i .any).cells.length ∧ ∀ j, j < (es.getD i .any).cells.length → reifyV f ((es.getD i .any).cells.getD j .any) = some ((es'.getD i .any).cells.getD j .any) :=
      fun i hi' => reifyL_get (reify_cells hf (e2 i hi'))
    rw [← e1]
    exact .isl full sz es' b o cap gv (by omega) (fun hf' => by rw [e1]; exact h2 hf') hb (hs'.sub b hb hn) (fun i hi' => (hcell i (by omega)).1.trans (hsz i (by omega))) (fun i j hi' hj => hc i j (by omega) hj) (fun i j hi' hj => h3 i j (by omega) hj)
      fun i j hi' hj => ih i j (by omega) hj _ _ _ ((hcell i (by omega)).2 j (by rw [hsz i (by omega)]; exact hj))
        (hs'.mono fun id hid => leadsL_mem (i := i) (by omega) (leads_cell (by rw [hsz i (by omega)]; exact hj) hid))
  | mptr id ix off l hl => intro r N' ρ' h hs'; exact Hm _ _ _ _ _ rfl (.mptr id ix off l hl) (by simpa [reifyV] using h) (by simpa [leads] using hs')
  | msl0 id off a => intro r N' ρ' h hs'; exact Hm _ _ _ _ _ rfl (.msl0 id off a) (by simpa [reifyV] using h) (by simpa [leads] using hs')
  | msl id off len cp cap l c e f' hl h1 h2 hb hsz => intro r N' ρ' h hs'; exact Hm _ _ _ _ _ rfl (.msl id off len cp cap l c e f' hl h1 h2 hb hsz) (by simpa [reifyV] using h) (by simpa [leads] using hs')
  | fn fid a b va vb ha hb _ _ iha ihb =>
    intro r N' ρ' h hs'
    simp only [reifyV] at h
    split at h
    · rename_i a' b' ea eb
      cases h
      obtain ⟨e1, e2⟩ := reifyL_get ea
      obtain ⟨e3, e4⟩ := reifyL_get eb
      simp only [leads] at hs'
      exact .fn fid a' b' va vb (ha.trans e1.symm) (hb.trans e3.symm) (fun i hi' => iha i (by omega) _ _ _ (e2 i (by omega)) (hs'.mono fun id hid => List.mem_append.2 (.inl (leadsL_mem (by omega) hid))))
        fun i hi' => ihb i (by omega) _ _ _ (e4 i (by omega)) (hs'.mono fun id hid => List.mem_append.2 (.inr (leadsL_mem (by omega) hid)))
    · cases h
  | ifc t p v _ ih =>
    intro r N' ρ' h hs'
    simp only [reifyV] at h
    obtain ⟨p', e, rfl⟩ := optMap h
    exact .ifc t p' v (ih _ _ _ e (by simpa [leads] using hs'))
theorem deref_rel (hi : Inv w F ρ h nx) : ∀ (n : Nat) (p r : PV) (v : Value) (N' : Nat → Prop) (ρ' : Rho), isRef p = true → Rel w (NN F h ρ) ρ p v → deref h n p = some r → Sub w F h ρ (leadsTo h n p) N' → Rel w N' ρ' r v := by
  intro n
  induction n with
  | zero => intro p r v N' ρ' _ _ h; simp [deref] at h
  | succ n ihn =>
    intro p r v N' ρ' hp hr hd hs
    have step := fun {p : PV} {v : Value} (hr : Rel w (NN F h ρ) ρ p v) => reify_step (deref_one h n) (fun p r v N' ρ' => ihn p r v N' ρ') hr
    cases hr with
    | mptr id ix off l hl =>
      simp only [deref] at hd
      split at hd
      case h_2 => cases hd
      rename_i fz sz es ha
      split at hd
      case h_2 => cases hd
      rename_i e he
      obtain ⟨cs', e0, rfl⟩ := optMap hd
      obtain ⟨e1, e2⟩ := reifyL_get e0
      have hix : ix < es.length := by
        rcases Nat.lt_or_ge ix es.length with h | h
        · exact h
        · simp [List.getElem?_eq_none h] at he
      have hne : es ≠ [] := by intro h0; subst h0; simp at hix
      obtain ⟨l', c, te, h1, h2, h3, hpos, h4, h5, h6⟩ := hi.arr ha hne
      rw [hl] at h1; cases h1
      have hee : es.getD ix .any = e := getD_of_some he
      have hlen := h5 ix hix
      rw [hee] at hlen
      have hN : ¬ N' l.blk := hs.led id (by simp [leadsTo]) _ l (harr_some ha) hl
      refine .iptr l.blk (l.base + ix * l.sz + off) cs' (fun i => c.getD (l.base + ix * l.sz + off + i) undef) (lt_of_heap h3) hN (fun i hi' => ?_) (fun i hi' => ?_) fun i hi' => ?_
      all_goals
        have hoi : off + i < sz := by simp at e1; omega
        have hq := index_lt h4 hix hoi
        have hx := h6 ix (off + i) hix hoi
        have ea : l.base + ix * l.sz + off + i = l.base + ix * sz + (off + i) := by rw [h2]; omega
      · rw [ea]; exact cell_at h3 hq
      · rw [ea]; exact hx.2
      · rw [ea]
        have e3 := e2 i (by omega)
        rw [getD_drop'] at e3
        rw [hee] at hx
        refine step hx.1 _ _ _ e3 (hs.mono fun id' hid' => ?_)
        simp only [leadsTo, ha, he, List.mem_cons]
        exact .inr (leadsL_mem (i := i) (by omega) (by rw [getD_drop']; exact hid'))
    | msl0 id off a =>
      simp only [deref] at hd
      split at hd
      case h_2 => cases hd
      split at hd
      · obtain ⟨es', e0, rfl⟩ := optMap hd
        simp [reifyL] at e0
        subst e0
        exact .isl0 _ _ _ _ fun h => by cases h
      · cases hd
    | msl id off len cp cap l c te f hl g1 g2 hb hsz =>
      simp only [deref] at hd
      split at hd
      case h_2 => cases hd
      rename_i fz sz es ha
      split at hd
      case isFalse => cases hd
      rename_i hle
      obtain ⟨es', e0, rfl⟩ := optMap hd
      obtain ⟨e1, e2⟩ := reifyL_get e0
      have hlen1 : ((es.drop off).take len).length = len := by simp; omega
      rw [hlen1] at e1 e2
      by_cases h0 : len = 0
      · subst h0
        have : es' = [] := List.eq_nil_of_length_eq_zero e1
        subst this
        exact .isl0 _ _ _ _ fun h => by cases h
      have hne : es ≠ [] := by intro h0; subst h0; simp at hle; omega
      obtain ⟨l', c', te', h1, h2, h3, hpos, h4, h5, h6⟩ := hi.arr ha hne
      rw [hl] at h1; cases h1
      rw [hb] at h3; cases h3
      have hN : ¬ N' l.blk := hs.led id (by simp [leadsTo]) _ l (harr_some ha) hl
      have hel : ∀ i, i < len → (es'.getD i .any).cells.length = (es.getD (off + i) .any).cells.length ∧ ∀ j, j < (es.getD (off + i) .any).cells.length → reifyV (deref h n) ((es.getD (off + i) .any).cells.getD j .any) = some ((es'.getD i .any).cells.getD j .any) := by
        intro i hi'
        have := e2 i hi'
        rw [drop_take_getD _ _ _ _ _ hi'] at this
        exact reifyL_get (reify_cells (deref_one h n) this)
      have key := Rel.isl (w := w) (N := N') (ρ := ρ') false sz es' l.blk (l.base + off * l.sz) cap (fun i j => c.getD (l.base + (off + i) * sz + j) undef) (by omega) (fun h => by cases h) (lt_of_heap hb) hN
        (fun i hi' => (hel i (by omega)).1.trans (h5 _ (by omega)))
        (fun i j hi' hj => by
          have hq := index_lt h4 (show off + i < es.length by omega) hj
          have e : l.base + off * l.sz + i * sz + j = l.base + (off + i) * sz + j := by rw [h2, Nat.add_mul]; omega
          rw [e]; exact cell_at hb hq)
        (fun i j hi' hj => (h6 (off + i) j (by omega) hj).2)
        (fun i j hi' hj => by
          have hj' : j < (es.getD (off + i) .any).cells.length := by rw [h5 _ (by omega)]; exact hj
          refine step (h6 (off + i) j (by omega) hj).1 _ _ _ ((hel i (by omega)).2 j hj') (hs.mono fun id' hid' => ?_)
          simp only [leadsTo, ha, List.mem_cons]
          exact .inr (leadsL_mem (i := i) (by omega) (by rw [drop_take_getD _ _ _ _ _ (by omega)]; exact leads_cell hj' hid')))
      rw [e1] at key
      exact key
    | _ => simp [isRef] at hp
/-- a value read as data -/
theorem reify_rel (hi : Inv w F ρ h nx) {n : Nat} {p r : PV} {v : Value} (hr : Rel w (NN F h ρ) ρ p v) (hd : reifyV (deref h n) p = some r) {N' : Nat → Prop} {ρ' : Rho} (hs : Sub w F h ρ (leads (leadsTo h n) p) N') : Rel w N' ρ' r v :=
  reify_step (deref_one h n) (fun p r v N' ρ' => deref_rel hi n p r v N' ρ') hr r N' ρ' hd hs
end Hp
end
