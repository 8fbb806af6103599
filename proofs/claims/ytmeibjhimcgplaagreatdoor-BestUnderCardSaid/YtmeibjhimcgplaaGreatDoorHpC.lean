/- Common ground: a pure interpreter for the program, and what it computes. -/
import Derived.Test.YtmeibjhimcgplaaGreatDoorHpA1
import Derived.Test.YtmeibjhimcgplaaGreatDoorHpB
set_option linter.all false
section
namespace Hp
open Go
abbrev AL := List (Nat × PV)
def alGet : AL → Nat → Option PV
  | [], _ => none
  | (d, v) :: l, t => match Nat.beq t d with
    | true => some v
    | false => alGet l t
def FrIs (al : AL) (fr : Fr) : Prop := ∀ t v, alGet al t = some v → Fr.at fr t = v
def opdGet (al : AL) : Opd → Option PV
  | .t t => alGet al t
  | .c v => some v
def opdGets (al : AL) : List Opd → Option (List PV)
  | [] => some []
  | x :: l => match opdGet al x, opdGets al l with
    | some v, some vs => some (v :: vs)
    | _, _ => none
abbrev BL := List (Nat × HO)
structure HP (h : Heap) (nx : Nat) (B : BL) : Prop where
  get : ∀ p ∈ B, h.get p.1 = some p.2
  lt : ∀ p ∈ B, p.1 < nx
  nd : (B.map (·.1)).Nodup
def keys (B : BL) : List Nat := B.map (·.1)
/-- what else there is stays -/
structure Stay (h : Heap) (nx : Nat) (B : BL) (h' : Heap) (nx' : Nat) (B' : BL) : Prop where
  le : nx ≤ nx'
  keep : ∀ id, id < nx → id ∉ keys B → h'.get id = h.get id
  new : ∀ id, id ∈ keys B' → id ∈ keys B ∨ nx ≤ id
abbrev DF := List (FuncId × List PV)
theorem Stay.refl (h : Heap) (nx : Nat) (B : BL) : Stay h nx B h nx B := ⟨Nat.le_refl _, fun _ _ _ => rfl, fun _ h => .inl h⟩
theorem Stay.trans {h h' h'' : Heap} {nx nx' nx'' : Nat} {B B' B'' : BL} (a : Stay h nx B h' nx' B') (b : Stay h' nx' B' h'' nx'' B'') : Stay h nx B h'' nx'' B'' where
  le := Nat.le_trans a.le b.le
  keep id hl hk := by
    rw [b.keep id (Nat.lt_of_lt_of_le hl a.le) fun hk' => ?_, a.keep id hl hk]
    rcases a.new id hk' with h | h
    · exact hk h
    · omega
  new id hk := by
    rcases b.new id hk with h | h
    · exact a.new id h
    · exact .inr (Nat.le_trans a.le h)
/-- what a run comes to -/
def W (R : S → PExit → S → Prop) (al : AL) (B : BL) (df : DF) (K : PExit → AL → BL → DF → Prop) : Prop :=
  ∀ fr h nx, FrIs al fr → HP h nx B → ∃ e fr' h' nx' al' B' df', R ⟨fr, h, nx, df⟩ e ⟨fr', h', nx', df'⟩ ∧ FrIs al' fr' ∧ HP h' nx' B' ∧ Stay h nx B h' nx' B' ∧ K e al' B' df'
def RunsC (E : Env) (c : PC) (s : S) (e : PExit) (s' : S) : Prop := ∃ N, ∀ n, N ≤ n → exec (callN E n) E.ext n c s = some (e, s')
def RunsO (E : Env) (l : List PG) (s : S) (e : PExit) (s' : S) : Prop := ∃ N, ∀ n, N ≤ n → ops (callN E n) E.ext l s = some (e, s')
def RunsL (E : Env) (c : PC) (live : List Nat) (s : S) (e : PExit) (s' : S) : Prop := ∃ N M, ∀ n m, N ≤ n → M ≤ m → iter (exec (callN E n) E.ext n c) live m s = some (e, s')
abbrev WC (E : Env) (c : PC) := W (RunsC E c)
abbrev WO (E : Env) (l : List PG) := W (RunsO E l)
/-! ### what is known can be less -/
def AlSub (al : AL) (al' : AL) : Prop := ∀ t v, alGet al t = some v → alGet al' t = some v
theorem FrIs.sub {al al' : AL} {fr : Fr} (h : FrIs al' fr) (hs : AlSub al al') : FrIs al fr := fun t v hv => h t v (hs t v hv)
theorem AlSub.nil {al : AL} : AlSub [] al := fun t v h => by cases h
theorem AlSub.cons {d : Nat} {v : PV} {al al' : AL} (hv : alGet al' d = some v) (hs : AlSub al al') : AlSub ((d, v) :: al) al' := by
  intro t u hu
  simp only [alGet] at hu
  split at hu
  · rename_i hb
    cases hu
    rw [Nat.eq_of_beq_eq_true hb]; exact hv
  · exact hs t u hu
theorem AlSub.refl (al : AL) : AlSub al al := fun _ _ h => h
/-- what is known of the heap: fewer things -/
def BSub (B B' : BL) : Prop := (∀ p ∈ B, p ∈ B') ∧ (keys B).Nodup
theorem HP.sub {h : Heap} {nx : Nat} {B B' : BL} (hp : HP h nx B') (hs : BSub B B') : HP h nx B :=
  ⟨fun p hp' => hp.get p (hs.1 p hp'), fun p hp' => hp.lt p (hs.1 p hp'), hs.2⟩
theorem BSub.keys {B B' : BL} (hs : BSub B B') {id : Nat} (hk : id ∈ keys B) : id ∈ Hp.keys B' := by
  simp only [Hp.keys, List.mem_map] at hk ⊢
  obtain ⟨p, hp, rfl⟩ := hk
  exact ⟨p, hs.1 p hp, rfl⟩
theorem Stay.less {h h' : Heap} {nx nx' : Nat} {B B' C : BL} (a : Stay h nx B h' nx' B') (hs : BSub C B') : Stay h nx B h' nx' C :=
  ⟨a.le, a.keep, fun id hk => a.new id (hs.keys hk)⟩
theorem W.mono {R : S → PExit → S → Prop} {al : AL} {B : BL} {df : DF} {K K' : PExit → AL → BL → DF → Prop} (h : W R al B df K) (hk : ∀ e al' B' df', K e al' B' df' → K' e al' B' df') : W R al B df K' := by
  intro fr hh nx hf hp
  obtain ⟨e, fr', h', nx', al', B', df', h1, h2, h3, h4, h5⟩ := h fr hh nx hf hp
  exact ⟨e, fr', h', nx', al', B', df', h1, h2, h3, h4, hk _ _ _ _ h5⟩
/-- start from less -/
theorem W.less {R : S → PExit → S → Prop} {al al' : AL} {B B' : BL} {df : DF} {K : PExit → AL → BL → DF → Prop} (h : W R al B df K) (ha : AlSub al al') (hb : BSub B B') : W R al' B' df K := by
  intro fr hh nx hf hp
  obtain ⟨e, fr', h', nx', al2, B2, df', h1, h2, h3, h4, h5⟩ := h fr hh nx (hf.sub ha) (hp.sub hb)
  exact ⟨e, fr', h', nx', al2, B2, df', h1, h2, h3, ⟨h4.le, fun id hl hk => h4.keep id hl fun hk' => hk (hb.keys hk'), fun id hk => (h4.new id hk).imp (fun h => hb.keys h) fun h => h⟩, h5⟩
/-- other things that stay by -/
theorem W.frame {R : S → PExit → S → Prop} {al : AL} {B C : BL} {df : DF} {K : PExit → AL → BL → DF → Prop} (h : W R al B df K) : W R al (B ++ C) df fun e al' B' df' => ∃ B0, K e al' B0 df' ∧ B' = B0 ++ C := by
  intro fr hh nx hf hp
  have hnd := hp.nd
  rw [List.map_append, List.nodup_append] at hnd
  obtain ⟨n1, n2, n3⟩ := hnd
  have hpB : HP hh nx B := ⟨fun p hp' => hp.get p (List.mem_append_left _ hp'), fun p hp' => hp.lt p (List.mem_append_left _ hp'), n1⟩
  obtain ⟨e, fr', h', nx', al2, B2, df', h1, h2, h3, h4, h5⟩ := h fr hh nx hf hpB
  have hC : ∀ p ∈ C, p.1 ∉ keys B := fun p hp' hk => n3 _ hk _ (List.mem_map_of_mem hp') rfl
  refine ⟨e, fr', h', nx', al2, B2 ++ C, df', h1, h2, ⟨fun p hp' => ?_, fun p hp' => ?_, ?_⟩, ⟨h4.le, fun id hl hk => ?_, fun id hk => ?_⟩, B2, h5, rfl⟩
  · rcases List.mem_append.1 hp' with hm | hm
    · exact h3.get p hm
    · rw [h4.keep p.1 (hp.lt p (List.mem_append_right _ hm)) (hC p hm)]; exact hp.get p (List.mem_append_right _ hm)
  · rcases List.mem_append.1 hp' with hm | hm
    · exact h3.lt p hm
    · exact Nat.lt_of_lt_of_le (hp.lt p (List.mem_append_right _ hm)) h4.le
  · rw [List.map_append, List.nodup_append]
    refine ⟨h3.nd, n2, fun a ha b hb hab => ?_⟩
    subst hab
    rcases h4.new a ha with hk | hk
    · exact n3 a hk a hb rfl
    · obtain ⟨p, hp', rfl⟩ := List.mem_map.1 hb
      have := hp.lt p (List.mem_append_right _ hp')
      omega
  · exact h4.keep id hl fun hk' => hk (by simp only [keys, List.map_append, List.mem_append] at hk' ⊢; exact .inl hk')
  · simp only [keys, List.map_append, List.mem_append] at hk ⊢
    rcases hk with hk | hk
    · exact (h4.new id hk).imp (fun h => .inl h) fun h => h
    · exact .inl (.inr hk)
/-! ### control -/
variable {E : Env} {al : AL} {B : BL} {df : DF} {K : PExit → AL → BL → DF → Prop}
theorem W_skip (hk : K .normal al B df) : WC E .skip al B df K := fun fr h nx hf hp => ⟨_, _, _, _, al, B, df, ⟨0, fun _ _ => rfl⟩, hf, hp, .refl .., hk⟩
theorem W_ret (hk : K .ret al B df) : WC E .ret al B df K := fun fr h nx hf hp => ⟨_, _, _, _, al, B, df, ⟨0, fun _ _ => rfl⟩, hf, hp, .refl .., hk⟩
theorem W_exit {id : Nat} (hk : K (.exit id) al B df) : WC E (.exit id) al B df K := fun fr h nx hf hp => ⟨_, _, _, _, al, B, df, ⟨0, fun _ _ => rfl⟩, hf, hp, .refl .., hk⟩
theorem W_region {l : List PG} (hk : WO E l al B df K) : WC E (.region l) al B df K := hk
/-- behind the first part -/
def seqK (E : Env) (b : PC) (K : PExit → AL → BL → DF → Prop) : PExit → AL → BL → DF → Prop
  | .normal, al, B, df => WC E b al B df K
  | e, al, B, df => K e al B df
theorem W_seq {a b : PC} (hk : WC E a al B df (seqK E b K)) : WC E (.seq a b) al B df K := by
  intro fr h nx hf hp
  obtain ⟨e, fr1, h1, nx1, al1, B1, df1, ⟨N, r⟩, f1, p1, o1, k1⟩ := hk fr h nx hf hp
  cases e with
  | normal =>
    obtain ⟨e2, fr2, h2, nx2, al2, B2, df2, ⟨M, r2⟩, f2, p2, o2, k2⟩ := k1 fr1 h1 nx1 f1 p1
    refine ⟨e2, fr2, h2, nx2, al2, B2, df2, ⟨max N M, fun n hn => ?_⟩, f2, p2, o1.trans o2, k2⟩
    simp only [exec, r n (by omega)]; exact r2 n (by omega)
  | exit id => exact ⟨_, fr1, h1, nx1, al1, B1, df1, ⟨N, fun n hn => by simp only [exec, r n hn]⟩, f1, p1, o1, k1⟩
  | ret => exact ⟨_, fr1, h1, nx1, al1, B1, df1, ⟨N, fun n hn => by simp only [exec, r n hn]⟩, f1, p1, o1, k1⟩
  | pan v => exact ⟨_, fr1, h1, nx1, al1, B1, df1, ⟨N, fun n hn => by simp only [exec, r n hn]⟩, f1, p1, o1, k1⟩
theorem W_cond {x : Opd} {a b : PC} {c : Bool} (hx : opdGet al x = some (.bool c)) (ha : c = true → WC E a al B df K) (hb : c = false → WC E b al B df K) : WC E (.cond x a b) al B df K := by
  intro fr h nx hf hp
  have hxv : x.get fr = .bool c := by cases x with
    | t t => exact hf t _ hx
    | c v => simp only [opdGet, Option.some.injEq] at hx; exact hx
  cases c with
  | true =>
    obtain ⟨e2, fr2, h2, nx2, al2, B2, df2, ⟨M, r2⟩, f2⟩ := ha rfl fr h nx hf hp
    exact ⟨e2, fr2, h2, nx2, al2, B2, df2, ⟨M, fun n hn => by simp only [exec, hxv, if_true]; exact r2 n hn⟩, f2⟩
  | false =>
    obtain ⟨e2, fr2, h2, nx2, al2, B2, df2, ⟨M, r2⟩, f2⟩ := hb rfl fr h nx hf hp
    exact ⟨e2, fr2, h2, nx2, al2, B2, df2, ⟨M, fun n hn => by simp only [exec, hxv, Bool.false_eq_true, if_false]; exact r2 n hn⟩, f2⟩
def blockK (id : Nat) (K : PExit → AL → BL → DF → Prop) : PExit → AL → BL → DF → Prop
  | .exit id', al, B, df => match Nat.beq id' id with
    | true => K .normal al B df
    | false => K (.exit id') al B df
  | e, al, B, df => K e al B df
theorem W_block {id : Nat} {a : PC} (hk : WC E a al B df (blockK id K)) : WC E (.block id a) al B df K := by
  intro fr h nx hf hp
  obtain ⟨e, fr1, h1, nx1, al1, B1, df1, ⟨N, r⟩, f1, p1, o1, k1⟩ := hk fr h nx hf hp
  cases e with
  | exit id' =>
    by_cases hb : id' = id
    · subst hb
      have hbb : Nat.beq id' id' = true := by simp
      simp only [blockK, hbb] at k1
      exact ⟨_, fr1, h1, nx1, al1, B1, df1, ⟨N, fun n hn => by simp only [exec, r n hn, if_true]⟩, f1, p1, o1, k1⟩
    · have hb' : Nat.beq id' id = false := by cases hbb : Nat.beq id' id with
        | true => exact absurd (Nat.eq_of_beq_eq_true hbb) hb
        | false => rfl
      simp only [blockK, hb'] at k1
      exact ⟨_, fr1, h1, nx1, al1, B1, df1, ⟨N, fun n hn => by simp only [exec, r n hn, hb, if_false]⟩, f1, p1, o1, k1⟩
  | normal => exact ⟨_, fr1, h1, nx1, al1, B1, df1, ⟨N, fun n hn => by simp only [exec, r n hn]⟩, f1, p1, o1, k1⟩
  | ret => exact ⟨_, fr1, h1, nx1, al1, B1, df1, ⟨N, fun n hn => by simp only [exec, r n hn]⟩, f1, p1, o1, k1⟩
  | pan v => exact ⟨_, fr1, h1, nx1, al1, B1, df1, ⟨N, fun n hn => by simp only [exec, r n hn]⟩, f1, p1, o1, k1⟩
/-- what lives of a frame -/
def alLive (al : AL) : List Nat → AL
  | [] => []
  | t :: l => match alGet al t with
    | some v => (t, v) :: alLive al l
    | none => alLive al l
theorem foldl_at : ∀ (l : List (Nat × PV)) (fr : Fr) (t : Nat), (∀ p ∈ l, p.1 ≠ t) → Fr.at (l.foldl (fun fr (d, v) => Fr.set fr d v) fr) t = Fr.at fr t
  | [], _, _, _ => rfl
  | (d, v) :: l, fr, t, h => by
    simp only [List.foldl_cons]
    rw [foldl_at l _ t fun p hp => h p (List.mem_cons_of_mem _ hp), Fr.at_set, if_neg fun he => h (d, v) (List.mem_cons_self ..) he.symm]
theorem forget_at_go (g : Nat → PV) (t : Nat) : ∀ (live : List Nat) (fr : Fr), t ∈ live → Fr.at ((live.map fun t => (t, g t)).foldl (fun fr (d, v) => Fr.set fr d v) fr) t = g t
  | [], _, h => by cases h
  | a :: live, fr, h => by
    simp only [List.map_cons, List.foldl_cons]
    by_cases hm : t ∈ live
    · exact forget_at_go g t live _ hm
    · have ha : t = a := by rcases List.mem_cons.1 h with h | h; exact h; exact absurd h hm
      subst ha
      rw [foldl_at _ _ _ fun p hp => ?_, Fr.at_set, if_pos rfl]
      obtain ⟨b, hb, rfl⟩ := List.mem_map.1 hp
      exact fun he => hm (he ▸ hb)
theorem forgetW_at {live : List Nat} {fr : Fr} {t : Nat} (h : t ∈ live) : Fr.at (forget live fr) t = Fr.at fr t := forget_at_go (fun t => Fr.at fr t) t live .e h
theorem alLive_get {al : AL} : ∀ {live : List Nat} {t : Nat} {v : PV}, alGet (alLive al live) t = some v → t ∈ live ∧ alGet al t = some v
  | [], t, v, h => by simp [alLive, alGet] at h
  | a :: live, t, v, h => by
    simp only [alLive] at h
    split at h
    · rename_i u hu
      simp only [alGet] at h
      split at h
      · rename_i hb
        cases h
        rw [Nat.eq_of_beq_eq_true hb]
        exact ⟨List.mem_cons_self .., hu⟩
      · exact ⟨List.mem_cons_of_mem _ (alLive_get h).1, (alLive_get h).2⟩
    · exact ⟨List.mem_cons_of_mem _ (alLive_get h).1, (alLive_get h).2⟩
theorem FrIs.live {al : AL} {fr : Fr} (h : FrIs al fr) (live : List Nat) : FrIs (alLive al live) (forget live fr) := by
  intro t v hv
  obtain ⟨h1, h2⟩ := alLive_get hv
  rw [forgetW_at h1]; exact h t v h2
/-- the loop at its head: what is known of what lives -/
def WL (E : Env) (c : PC) (live : List Nat) : AL → BL → DF → (PExit → AL → BL → DF → Prop) → Prop := W (RunsL E c live)
theorem W_loop {live : List Nat} {c : PC} (hk : WL E c live (alLive al live) B df K) : WC E (.loop live c) al B df K := by
  intro fr h nx hf hp
  obtain ⟨e, fr1, h1, nx1, al1, B1, df1, ⟨N, M, r⟩, f1, p1, o1, k1⟩ := hk (forget live fr) h nx (hf.live live) hp
  refine ⟨e, fr1, h1, nx1, al1, B1, df1, ⟨max N (M + 1), fun n hn => ?_⟩, f1, p1, o1, k1⟩
  have h0 : ∀ (f : S → Option (PExit × S)) (m : Nat), iter f live (m + 1) ⟨fr, h, nx, df⟩ = iter f live (m + 1) ⟨forget live fr, h, nx, df⟩ := by
    intro f m
    simp only [iter]
    have : forget live (forget live fr) = forget live fr := by
      have he : ∀ (l : List Nat), (∀ t ∈ l, t ∈ live) → (l.map fun t => (t, Fr.at (forget live fr) t)) = l.map fun t => (t, Fr.at fr t) := fun l hl => List.map_congr_left fun t ht => by rw [forgetW_at (hl t ht)]
      show Fr.of _ = Fr.of _
      rw [he live fun _ h => h]
    rw [this]
  simp only [exec]
  obtain ⟨m, rfl⟩ : ∃ m, n = m + 1 := ⟨n - 1, by omega⟩
  rw [h0]
  exact r (m + 1) (m + 1) (by omega) (by omega)
def loopK (E : Env) (c : PC) (live : List Nat) (K : PExit → AL → BL → DF → Prop) : PExit → AL → BL → DF → Prop
  | .normal, al, B, df => WL E c live (alLive al live) B df K
  | e, al, B, df => K e al B df
theorem WL_round {live : List Nat} {c : PC} (hk : WC E c (alLive al live) B df (loopK E c live K)) : WL E c live al B df K := by
  intro fr h nx hf hp
  obtain ⟨e, fr1, h1, nx1, al1, B1, df1, ⟨N, r⟩, f1, p1, o1, k1⟩ := hk (forget live fr) h nx (hf.live live) hp
  have one : ∀ n m, N ≤ n → iter (exec (callN E n) E.ext n c) live (m + 1) ⟨fr, h, nx, df⟩ = (match some (e, (⟨fr1, h1, nx1, df1⟩ : S)) with
    | some (.normal, s') => iter (exec (callN E n) E.ext n c) live m s'
    | r => r) := by
    intro n m hn
    simp only [iter, r n hn]
    cases e <;> rfl
  cases e with
  | normal =>
    obtain ⟨e2, fr2, h2, nx2, al2, B2, df2, ⟨N2, M2, r2⟩, f2, p2, o2, k2⟩ := k1 (forget live fr1) h1 nx1 (f1.live live) p1
    refine ⟨e2, fr2, h2, nx2, al2, B2, df2, ⟨max N N2, M2 + 2, fun n m hn hm => ?_⟩, f2, p2, o1.trans o2, k2⟩
    obtain ⟨m, rfl⟩ : ∃ m', m = m' + 1 + 1 := ⟨m - 2, by omega⟩
    rw [one n _ (by omega)]
    show iter _ live (m + 1) ⟨fr1, h1, nx1, df1⟩ = _
    have h0 : iter (exec (callN E n) E.ext n c) live (m + 1) ⟨fr1, h1, nx1, df1⟩ = iter (exec (callN E n) E.ext n c) live (m + 1) ⟨forget live fr1, h1, nx1, df1⟩ := by
      simp only [iter]
      have : forget live (forget live fr1) = forget live fr1 := by
        have he : ∀ (l : List Nat), (∀ t ∈ l, t ∈ live) → (l.map fun t => (t, Fr.at (forget live fr1) t)) = l.map fun t => (t, Fr.at fr1 t) := fun l hl => List.map_congr_left fun t ht => by rw [forgetW_at (hl t ht)]
        show Fr.of _ = Fr.of _
        rw [he live fun _ h => h]
      rw [this]
    rw [h0]
    exact r2 n (m + 1) (by omega) (by omega)
  | exit id =>
    refine ⟨_, fr1, h1, nx1, al1, B1, df1, ⟨N, 1, fun n m hn hm => ?_⟩, f1, p1, o1, k1⟩
    obtain ⟨m, rfl⟩ : ∃ m', m = m' + 1 := ⟨m - 1, by omega⟩
    rw [one n m hn]
  | ret =>
    refine ⟨_, fr1, h1, nx1, al1, B1, df1, ⟨N, 1, fun n m hn hm => ?_⟩, f1, p1, o1, k1⟩
    obtain ⟨m, rfl⟩ : ∃ m', m = m' + 1 := ⟨m - 1, by omega⟩
    rw [one n m hn]
  | pan v =>
    refine ⟨_, fr1, h1, nx1, al1, B1, df1, ⟨N, 1, fun n m hn hm => ?_⟩, f1, p1, o1, k1⟩
    obtain ⟨m, rfl⟩ : ∃ m', m = m' + 1 := ⟨m - 1, by omega⟩
    rw [one n m hn]
end Hp
end
section
namespace Hp
open Go
variable {E : Env} {al : AL} {B : BL} {df : DF} {K : PExit → AL → BL → DF → Prop} {Kv : PV → BL → Prop}
def OpW (E : Env) (op : POp) (al : AL) (B : BL) (Kv : PV → BL → Prop) : Prop :=
  ∀ fr h nx, FrIs al fr → HP h nx B → ∃ v h' nx' B', (∃ N, ∀ n, N ≤ n → opRun (callN E n) E.ext fr h nx op = some (.val v h' nx')) ∧ HP h' nx' B' ∧ Stay h nx B h' nx' B' ∧ Kv v B'
theorem opd_get {x : Opd} {v : PV} {fr : Fr} (hf : FrIs al fr) (hx : opdGet al x = some v) : x.get fr = v := by
  cases x with
  | t t => exact hf t _ hx
  | c v => simp only [opdGet, Option.some.injEq] at hx; exact hx
theorem opds_get {fr : Fr} (hf : FrIs al fr) : ∀ {l : List Opd} {vs : List PV}, opdGets al l = some vs → l.map (·.get fr) = vs
  | [], vs, h => by simp only [opdGets, Option.some.injEq] at h; subst h; rfl
  | x :: l, vs, h => by
    simp only [opdGets] at h
    split at h
    · rename_i v vs' h1 h2
      cases h
      simp only [List.map_cons, opd_get hf h1, opds_get hf h2]
    · cases h
theorem FrIs.set {fr : Fr} (hf : FrIs al fr) (d : Nat) (v : PV) : FrIs ((d, v) :: al) (Fr.set fr d v) := by
  intro t u hu
  simp only [alGet] at hu
  rw [Fr.at_set]
  split at hu
  · rename_i hb; cases hu; rw [if_pos (Nat.eq_of_beq_eq_true hb)]
  · rename_i hb; rw [if_neg fun he => ?_]
    · exact hf t u hu
    · subst he; simp at hb
theorem WO_nil (hk : K .normal al B df) : WO E [] al B df K := fun fr h nx hf hp => ⟨_, _, _, _, al, B, df, ⟨0, fun _ _ => rfl⟩, hf, hp, .refl .., hk⟩
theorem WO_op {d : Nat} {op : POp} {l : List PG} (hop : OpW E op al B fun v B' => WO E l ((d, v) :: al) B' df K) : WO E (⟨some d, none, op⟩ :: l) al B df K := by
  intro fr h nx hf hp
  obtain ⟨v, h1, nx1, B1, ⟨N, r⟩, p1, o1, k1⟩ := hop fr h nx hf hp
  obtain ⟨e, fr2, h2, nx2, al2, B2, df2, ⟨M, r2⟩, f2, p2, o2, k2⟩ := k1 _ _ _ (hf.set d v) p1
  exact ⟨e, fr2, h2, nx2, al2, B2, df2, ⟨max N M, fun n hn => by simp only [ops, want, r n (by omega), Fr.dst]; exact r2 n (by omega)⟩, f2, p2, o1.trans o2, k2⟩
theorem WO_op0 {op : POp} {l : List PG} (hop : OpW E op al B fun _ B' => WO E l al B' df K) : WO E (⟨none, none, op⟩ :: l) al B df K := by
  intro fr h nx hf hp
  obtain ⟨v, h1, nx1, B1, ⟨N, r⟩, p1, o1, k1⟩ := hop fr h nx hf hp
  obtain ⟨e, fr2, h2, nx2, al2, B2, df2, ⟨M, r2⟩, f2, p2, o2, k2⟩ := k1 _ _ _ hf p1
  exact ⟨e, fr2, h2, nx2, al2, B2, df2, ⟨max N M, fun n hn => by simp only [ops, want, r n (by omega), Fr.dst]; exact r2 n (by omega)⟩, f2, p2, o1.trans o2, k2⟩
theorem WO_take {g : PG} {t : Nat} {b c : Bool} {d : Option Nat} {op : POp} {l : List PG} (hg : alGet al t = some (.bool c)) (hc : c = b) (hk : WO E (⟨d, none, op⟩ :: l) al B df K) (_ : g = ⟨d, some (t, b), op⟩ := by rfl) : WO E (⟨d, some (t, b), op⟩ :: l) al B df K := by
  intro fr h nx hf hp
  obtain ⟨e, fr2, h2, nx2, al2, B2, df2, ⟨M, r2⟩, f2⟩ := hk fr h nx hf hp
  refine ⟨e, fr2, h2, nx2, al2, B2, df2, ⟨M, fun n hn => ?_⟩, f2⟩
  rw [← r2 n hn]
  have := hf t _ hg
  subst hc
  simp only [ops, want, this, beq_self_eq_true]
theorem WO_pass {t : Nat} {b : Bool} {v : PV} {d : Nat} {op : POp} {l : List PG} (hg : alGet al t = some v) (hc : v = .bool (!b) ∨ v = .tup []) (hk : WO E l ((d, .tup []) :: al) B df K) : WO E (⟨some d, some (t, b), op⟩ :: l) al B df K := by
  intro fr h nx hf hp
  obtain ⟨e, fr2, h2, nx2, al2, B2, df2, ⟨M, r2⟩, f2⟩ := hk _ h nx (hf.set d (.tup [])) hp
  refine ⟨e, fr2, h2, nx2, al2, B2, df2, ⟨M, fun n hn => ?_⟩, f2⟩
  rw [← r2 n hn]
  have := hf t _ hg
  rcases hc with rfl | rfl
  · cases b <;> simp [ops, want, this, Fr.dst]
  · simp [ops, want, this, Fr.dst]
theorem WO_pass0 {t : Nat} {b : Bool} {v : PV} {op : POp} {l : List PG} (hg : alGet al t = some v) (hc : v = .bool (!b) ∨ v = .tup []) (hk : WO E l al B df K) : WO E (⟨none, some (t, b), op⟩ :: l) al B df K := by
  intro fr h nx hf hp
  obtain ⟨e, fr2, h2, nx2, al2, B2, df2, ⟨M, r2⟩, f2⟩ := hk _ h nx hf hp
  refine ⟨e, fr2, h2, nx2, al2, B2, df2, ⟨M, fun n hn => ?_⟩, f2⟩
  rw [← r2 n hn]
  have := hf t _ hg
  rcases hc with rfl | rfl
  · cases b <;> simp [ops, want, this, Fr.dst]
  · simp [ops, want, this, Fr.dst]
theorem WO_panic {d : Option Nat} {x : Opd} {t : TypeId} {v : PV} {l : List PG} (hx : opdGet al x = some (.ifc t v)) (hk : K (.pan (.ifc t v)) al B df) : WO E (⟨d, none, .panic x⟩ :: l) al B df K := by
  intro fr h nx hf hp
  refine ⟨_, fr, h, nx, al, B, df, ⟨0, fun n _ => ?_⟩, hf, hp, .refl .., hk⟩
  simp [ops, want, opRun, opd_get hf hx, isIfc]
theorem WO_dfr {d : Nat} {f : FuncId} {args : List Opd} {vs : List PV} {l : List PG} (hx : opdGets al args = some vs) (hk : WO E l ((d, .tup []) :: al) B ((f, vs) :: df) K) : WO E (⟨some d, none, .dfr f args⟩ :: l) al B df K := by
  intro fr h nx hf hp
  obtain ⟨e, fr2, h2, nx2, al2, B2, df2, ⟨M, r2⟩, f2⟩ := hk _ h nx (hf.set d (.tup [])) hp
  exact ⟨e, fr2, h2, nx2, al2, B2, df2, ⟨M, fun n hn => by simp only [ops, want, opRun, opds_get hf hx, Fr.dst]; exact r2 n hn⟩, f2⟩
/-! ### operations of memory and numbers -/
def isM : POp → Bool
  | .panic _ | .dfr .. | .call .. | .callv .. => false
  | _ => true
theorem opRun_isM {call : CallF} {ext : ExtF} {fr : Fr} {h : Heap} {nx : Nat} {op : POp} (hm : isM op = true) : opRun call ext fr h nx op = (mop fr h nx op).map fun (v, ups, c) => .val v (hsets h ups) (nx + c) := by
  cases op <;> first | rfl | cases hm
theorem OpW_v {op : POp} {v : PV} (hm : isM op = true) (hr : ∀ fr h nx, FrIs al fr → HP h nx B → mop fr h nx op = some (v, [], 0)) (hk : Kv v B) : OpW E op al B Kv := by
  intro fr h nx hf hp
  refine ⟨v, h, nx, B, ⟨0, fun n _ => ?_⟩, hp, .refl .., hk⟩
  rw [opRun_isM hm, hr fr h nx hf hp]; rfl
theorem o_mv {x : Opd} {v : PV} (hx : opdGet al x = some v) (hk : Kv v B) : OpW E (.mv x) al B Kv := OpW_v rfl (fun fr h nx hf _ => by simp [mop, opd_get hf hx]) hk
theorem o_pick {c a b : Opd} {t : Bool} {u v : PV} (hc : opdGet al c = some (.bool t)) (ha : opdGet al a = some u) (hb : opdGet al b = some v) (hk : Kv (if t then u else v) B) : OpW E (.pick c a b) al B Kv :=
  OpW_v rfl (fun fr h nx hf _ => by simp [mop, opd_get hf hc, opd_get hf ha, opd_get hf hb]) hk
theorem o_pick_bool {c a b : Opd} {t p q : Bool} (hc : opdGet al c = some (.bool t)) (ha : opdGet al a = some (.bool p)) (hb : opdGet al b = some (.bool q)) (hk : Kv (.bool (if t then p else q)) B) : OpW E (.pick c a b) al B Kv :=
  OpW_v rfl (fun fr h nx hf _ => by cases t <;> simp [mop, opd_get hf hc, opd_get hf ha, opd_get hf hb]) hk
theorem o_bin {op : BinOp} {x y : Opd} {u v r : PV} (hx : opdGet al x = some u) (hy : opdGet al y = some v) (hr : pbin op u v = some r) (hk : Kv r B) : OpW E (.bin op x y) al B Kv :=
  OpW_v rfl (fun fr h nx hf _ => by simp [mop, opd_get hf hx, opd_get hf hy, hr, MR.v]) hk
theorem o_eq {k : EqK} {x y : Opd} {u v : PV} {b : Bool} (hx : opdGet al x = some u) (hy : opdGet al y = some v) (hr : peq k u v = some b) (hk : Kv (.bool b) B) : OpW E (.eq k false x y) al B Kv :=
  OpW_v rfl (fun fr h nx hf _ => by simp [mop, opd_get hf hx, opd_get hf hy, hr, MR.v]) hk
theorem o_ne {k : EqK} {x y : Opd} {u v : PV} {b : Bool} (hx : opdGet al x = some u) (hy : opdGet al y = some v) (hr : peq k u v = some b) (hk : Kv (.bool (!b)) B) : OpW E (.eq k true x y) al B Kv :=
  OpW_v rfl (fun fr h nx hf _ => by simp [mop, opd_get hf hx, opd_get hf hy, hr, MR.v]) hk
theorem o_un {op : UnOp} {x : Opd} {u r : PV} (hx : opdGet al x = some u) (hr : pun op u = some r) (hk : Kv r B) : OpW E (.un op x) al B Kv :=
  OpW_v rfl (fun fr h nx hf _ => by simp [mop, opd_get hf hx, hr, MR.v]) hk
theorem o_conv {k k' : IntKind} {x : Opd} {m : Int} (hx : opdGet al x = some (.int k' m)) (hk : Kv (.int k (k.wrap m)) B) : OpW E (.conv k x) al B Kv :=
  OpW_v rfl (fun fr h nx hf _ => by simp [mop, opd_get hf hx]) hk
theorem o_faddr {off : Nat} {x : Opd} {cs : List PV} (hx : opdGet al x = some (.iptr cs)) (hk : Kv (.iptr (cs.drop off)) B) : OpW E (.faddr off x) al B Kv :=
  OpW_v rfl (fun fr h nx hf _ => by simp [mop, opd_get hf hx]) hk
theorem o_faddrm {off : Nat} {x : Opd} {id ix o : Nat} (hx : opdGet al x = some (.mptr id ix o)) (hk : Kv (.mptr id ix (o + off)) B) : OpW E (.faddr off x) al B Kv :=
  OpW_v rfl (fun fr h nx hf _ => by simp [mop, opd_get hf hx]) hk
theorem o_iaddr {sz i : Nat} {x y : Opd} {u : PV} {fu : Bool} {sz' : Nat} {es : List PV} {e : PV} (hx : opdGet al x = some (.isl fu sz' es)) (hy : opdGet al y = some u) (hi : natOf u = some i) (he : es[i]? = some e) (hs : sz = sz') (hk : Kv (.iptr e.cells) B) : OpW E (.iaddr sz x y) al B Kv :=
  OpW_v rfl (fun fr h nx hf _ => by simp [mop, opd_get hf hx, opd_get hf hy, hi, he, hs, MR.v]) hk
theorem o_aaddr {n sz i : Nat} {x y : Opd} {u : PV} {cs : List PV} (hx : opdGet al x = some (.iptr cs)) (hy : opdGet al y = some u) (hi : natOf u = some i) (hl : i < n) (hk : Kv (.iptr (cs.drop (i * sz))) B) : OpW E (.aaddr n sz x y) al B Kv :=
  OpW_v rfl (fun fr h nx hf _ => by simp [mop, opd_get hf hx, opd_get hf hy, hi, hl]) hk
theorem o_aaddrm {n sz i : Nat} {x y : Opd} {u : PV} {id ix o : Nat} (hx : opdGet al x = some (.mptr id ix o)) (hy : opdGet al y = some u) (hi : natOf u = some i) (hl : i < n) (hk : Kv (.mptr id ix (o + i * sz)) B) : OpW E (.aaddr n sz x y) al B Kv :=
  OpW_v rfl (fun fr h nx hf _ => by simp [mop, opd_get hf hx, opd_get hf hy, hi, hl]) hk
theorem o_nilCheck {x : Opd} {cs : List PV} (hx : opdGet al x = some (.iptr cs)) (hk : Kv (.iptr cs) B) : OpW E (.nilCheck x) al B Kv :=
  OpW_v rfl (fun fr h nx hf _ => by simp [mop, opd_get hf hx]) hk
theorem o_nilCheckm {x : Opd} {id ix o : Nat} (hx : opdGet al x = some (.mptr id ix o)) (hk : Kv (.mptr id ix o) B) : OpW E (.nilCheck x) al B Kv :=
  OpW_v rfl (fun fr h nx hf _ => by simp [mop, opd_get hf hx]) hk
theorem o_build {z : List PV} {ps : List (Nat × Nat × Opd)} {l : List PV} {r : List PV} (hx : opdGets al (ps.map (·.2.2)) = some l) (hr : fillCells z ((ps.map (·.1)).zip ((ps.map (·.2.1)).zip l)) = some r) (hk : Kv (.agg r) B) : OpW E (.build z ps) al B Kv := by
  refine OpW_v rfl (fun fr h nx hf _ => ?_) hk
  have h1 := opds_get hf hx
  have h2 : (ps.map fun (o, k, x) => (o, k, x.get fr)) = (ps.map (·.1)).zip ((ps.map (·.2.1)).zip l) := by
    rw [← h1]
    clear h1 hr hx hk
    induction ps with
    | nil => rfl
    | cons p ps ih => simp only [List.map_cons, List.zip_cons_cons, ← ih]
  simp only [mop, h2, hr, MR.v, Option.map_some]
theorem o_load {k : Nat} {ag : Bool} {x : Opd} {cs : List PV} {v : PV} (hx : opdGet al x = some (.iptr cs)) (hv : ldCells k ag cs = some v) (hk : Kv v B) : OpW E (.load k ag x) al B Kv :=
  OpW_v rfl (fun fr h nx hf _ => by simp [mop, opd_get hf hx, ldv, behind, hv, MR.v]) hk
theorem harr_of {h : Heap} {nx : Nat} (hp : HP h nx B) {i sz : Nat} {fz : Bool} {es : List PV} (hb : (i, (⟨fz, .arr sz es⟩ : HO)) ∈ B) : harr h i = some (fz, sz, es) := by
  have := hp.get _ hb
  simp only at this
  simp [harr, this]
theorem o_loadm {k : Nat} {ag : Bool} {x : Opd} {i ix o sz : Nat} {fz : Bool} {es : List PV} {e v : PV} (hx : opdGet al x = some (.mptr i ix o)) (hb : (i, (⟨fz, .arr sz es⟩ : HO)) ∈ B) (he : es[ix]? = some e) (hv : ldCells k ag (e.cells.drop o) = some v) (hk : Kv v B) : OpW E (.load k ag x) al B Kv :=
  OpW_v rfl (fun fr h nx hf hp => by simp [mop, opd_get hf hx, ldv, behind, harr_of hp hb, he, hv, MR.v]) hk
theorem o_iaddrm {sz ix : Nat} {x y : Opd} {u : PV} {i off len cp sz' : Nat} {fz : Bool} {es : List PV} (hx : opdGet al x = some (.msl i off len cp)) (hb : (i, (⟨fz, .arr sz' es⟩ : HO)) ∈ B) (hy : opdGet al y = some u) (hi : natOf u = some ix) (hl : ix < len) (hs : sz = sz') (hk : Kv (.mptr i (off + ix) 0) B) : OpW E (.iaddr sz x y) al B Kv :=
  OpW_v rfl (fun fr h nx hf hp => by simp [mop, opd_get hf hx, opd_get hf hy, hi, harr_of hp hb, hl, hs]) hk
theorem o_sidx {x y : Opd} {s : ByteArray} {u : PV} {i : Nat} {c : UInt8} (hx : opdGet al x = some (.str s)) (hy : opdGet al y = some u) (hi : natOf u = some i) (hc : s[i]? = some c) (hk : Kv (.int .u8 c.toNat) B) : OpW E (.sidx x y) al B Kv :=
  OpW_v rfl (fun fr h nx hf _ => by simp [mop, opd_get hf hx, opd_get hf hy, hi, hc, MR.v]) hk
def optGet (al : AL) : Option Opd → Option (Option Nat)
  | none => some none
  | some x => match opdGet al x with
    | some v => match natOf v with
      | some n => some (some n)
      | none => none
    | none => none
theorem optGet_nat {fr : Fr} (hf : FrIs al fr) {x : Option Opd} {r : Option Nat} (h : optGet al x = some r) (d : Nat) : optNat fr d x = some (r.getD d) ∧ hiNat fr x = r.map some := by
  cases x with
  | none => simp only [optGet, Option.some.injEq] at h; subst h; exact ⟨rfl, rfl⟩
  | some x =>
    simp only [optGet] at h
    split at h
    · rename_i v hv
      split at h
      · rename_i n hn
        cases h
        simp [optNat, hiNat, opd_get hf hv, hn]
      · cases h
    · cases h
/-- slices of slices -/
theorem o_slice {k : Nat} {x : Opd} {lo hi mx : Option Opd} {fu : Bool} {sz : Nat} {es : List PV} {l h m : Option Nat} {r : PV} (hx : opdGet al x = some (.isl fu sz es)) (hl : optGet al lo = some l) (hh : optGet al hi = some h) (hm : optGet al mx = some m)
    (hr : sliceOf .e k (.isl fu sz es) (some (l.getD 0)) (h.map some) (m.map some) = some r) (hk : Kv r B) : OpW E (.slice k x lo hi mx) al B Kv :=
  OpW_v rfl (fun fr hh' nx hf _ => by
    simp only [mop, opd_get hf hx, (optGet_nat hf hl 0).1, (optGet_nat hf hh 0).2, (optGet_nat hf hm 0).2]
    have : sliceOf hh' k (.isl fu sz es) (some (l.getD 0)) (h.map some) (m.map some) = sliceOf .e k (.isl fu sz es) (some (l.getD 0)) (h.map some) (m.map some) := rfl
    rw [this, hr]; rfl) hk
theorem o_slicem {k : Nat} {x : Opd} {lo hi mx : Option Opd} {i off len cp sz : Nat} {fz : Bool} {es : List PV} {l h m : Option Nat} {r : PV} (hx : opdGet al x = some (.msl i off len cp)) (hb : (i, (⟨fz, .arr sz es⟩ : HO)) ∈ B) (hl : optGet al lo = some l) (hh : optGet al hi = some h) (hm : optGet al mx = some m)
    (hs : k = sz) (hr : (match h, m with
      | none, none => if l.getD 0 ≤ len ∧ len ≤ cp then some (PV.msl i (off + l.getD 0) (len - l.getD 0) (cp - l.getD 0)) else none
      | some u, none => if l.getD 0 ≤ u ∧ u ≤ cp then some (.msl i (off + l.getD 0) (u - l.getD 0) (cp - l.getD 0)) else none
      | some u, some m => if l.getD 0 ≤ u ∧ u ≤ m ∧ m ≤ cp then some (.msl i (off + l.getD 0) (u - l.getD 0) (m - l.getD 0)) else none
      | _, _ => none) = some r) (hk : Kv r B) : OpW E (.slice k x lo hi mx) al B Kv :=
  OpW_v rfl (fun fr hh' nx hf hp => by
    simp only [mop, opd_get hf hx, (optGet_nat hf hl 0).1, (optGet_nat hf hh 0).2, (optGet_nat hf hm 0).2, sliceOf, harr_of hp hb, hs, ne_eq, not_true_eq_false, if_false]
    cases h <;> cases m <;> simp only [Option.map_none, Option.map_some] at hr ⊢ <;> simp [hr, MR.v]) hk
theorem o_ssub {x : Opd} {lo hi : Option Opd} {s : ByteArray} {l h : Option Nat} (hx : opdGet al x = some (.str s)) (hl : optGet al lo = some l) (hh : optGet al hi = some h) (h1 : l.getD 0 ≤ h.getD s.size) (h2 : h.getD s.size ≤ s.size) (hk : Kv (.str (s.extract (l.getD 0) (h.getD s.size))) B) : OpW E (.ssub x lo hi) al B Kv :=
  OpW_v rfl (fun fr _ nx hf _ => by simp [mop, opd_get hf hx, (optGet_nat hf hl 0).1, (optGet_nat hf hh s.size).1, h1, h2]) hk
theorem o_ext {x : Opd} {i : Nat} {vs : List PV} {v : PV} (hx : opdGet al x = some (.tup vs)) (hi : i < 1000000) (hv : vs[i]? = some v) (hk : Kv v B) : OpW E (.ext x i) al B Kv :=
  OpW_v rfl (fun fr h nx hf _ => by simp [mop, opd_get hf hx, hi, hv, MR.v]) hk
theorem o_field {x : Opd} {i : Nat} {cs : List PV} {v : PV} (hx : opdGet al x = some (.agg cs)) (hi : 1000000 ≤ i) (hv : fieldOf cs ((i - 1000000) / 2000) ((i - 1000000) / 2 % 1000) (i % 2) = some v) (hk : Kv v B) : OpW E (.ext x i) al B Kv :=
  OpW_v rfl (fun fr h nx hf _ => by simp [mop, opd_get hf hx, Nat.not_lt.2 hi, hv, MR.v]) hk
theorem o_mkfn {f : FuncId} {a b : List Opd} {va vb : List PV} (ha : opdGets al a = some va) (hb : opdGets al b = some vb) (hk : Kv (.fn f va vb) B) : OpW E (.mkfn f a b) al B Kv :=
  OpW_v rfl (fun fr h nx hf _ => by simp [mop, opds_get hf ha, opds_get hf hb]) hk
theorem o_mkifc {t : TypeId} {x : Opd} {v : PV} (hx : opdGet al x = some v) (hk : Kv (.ifc t v) B) : OpW E (.mkifc t x) al B Kv :=
  OpW_v rfl (fun fr h nx hf _ => by simp [mop, opd_get hf hx]) hk
theorem o_len_str {x : Opd} {s : ByteArray} (hx : opdGet al x = some (.str s)) (hk : Kv (.int .i64 s.size) B) : OpW E (.len 0 x) al B Kv :=
  OpW_v rfl (fun fr h nx hf _ => by simp [mop, opd_get hf hx]) hk
theorem o_len {x : Opd} {fu : Bool} {sz : Nat} {es : List PV} (hx : opdGet al x = some (.isl fu sz es)) (hk : Kv (.int .i64 es.length) B) : OpW E (.len 1 x) al B Kv :=
  OpW_v rfl (fun fr h nx hf _ => by simp [mop, opd_get hf hx]) hk
theorem o_lenm {x : Opd} {i off n cp : Nat} (hx : opdGet al x = some (.msl i off n cp)) (hk : Kv (.int .i64 n) B) : OpW E (.len 1 x) al B Kv :=
  OpW_v rfl (fun fr h nx hf _ => by simp [mop, opd_get hf hx]) hk
theorem o_len_nilm {x : Opd} (hx : opdGet al x = some .nilm) (hk : Kv (.int .i64 (0 : Nat)) B) : OpW E (.len 2 x) al B Kv :=
  OpW_v rfl (fun fr h nx hf _ => by simp [mop, opd_get hf hx]) hk
theorem o_len_map {x : Opd} {i : Nat} {fz : Bool} {es : List (PV × PV × Nat)} {clk : Nat} (hx : opdGet al x = some (.map i)) (hb : (i, (⟨fz, .map es clk⟩ : HO)) ∈ B) (hk : Kv (.int .i64 es.length) B) : OpW E (.len 2 x) al B Kv :=
  OpW_v rfl (fun fr h nx hf hp => by have := hp.get _ hb; simp only at this; simp [mop, opd_get hf hx, this]) hk
theorem o_clen {n : Nat} (hk : Kv (.int .i64 n) B) : OpW E (.clen n) al B Kv := OpW_v rfl (fun fr h nx hf _ => by simp [mop]) hk
theorem o_maxi {x y : Opd} {k k' : IntKind} {a b : Int} (hx : opdGet al x = some (.int k a)) (hy : opdGet al y = some (.int k' b)) (hk : Kv (.int k (if b > a then b else a)) B) : OpW E (.maxi x y) al B Kv :=
  OpW_v rfl (fun fr h nx hf _ => by simp [mop, opd_get hf hx, opd_get hf hy]) hk
theorem o_mini {x y : Opd} {k k' : IntKind} {a b : Int} (hx : opdGet al x = some (.int k a)) (hy : opdGet al y = some (.int k' b)) (hk : Kv (.int k (if b < a then b else a)) B) : OpW E (.mini x y) al B Kv :=
  OpW_v rfl (fun fr h nx hf _ => by simp [mop, opd_get hf hx, opd_get hf hy]) hk
theorem o_look_nil {kk : EqK} {zero : PV} {m k : Opd} {kv : PV} {b : Bool} (hm : opdGet al m = some .nilm) (hkk : opdGet al k = some kv) (he : keyEq kk kv kv = some b) (hk : Kv zero B) : OpW E (.look kk false zero m k) al B Kv :=
  OpW_v rfl (fun fr h nx hf _ => by simp [mop, opd_get hf hm, opd_get hf hkk, he]) hk
theorem o_look {kk : EqK} {ok : Bool} {zero : PV} {m k : Opd} {kv : PV} {b fz : Bool} {i : Nat} {es : List (PV × PV × Nat)} {clk : Nat} {r : Option (Nat × PV × Nat)} (hm : opdGet al m = some (.map i)) (hb : (i, (⟨fz, .map es clk⟩ : HO)) ∈ B) (hkk : opdGet al k = some kv) (he : keyEq kk kv kv = some b)
    (hr : findE kk kv es 0 = some r) (hk : Kv (match r with
      | some (_, v, _) => if ok then .tup [v, .bool true] else v
      | none => if ok then .tup [zero, .bool false] else zero) B) : OpW E (.look kk ok zero m k) al B Kv :=
  OpW_v rfl (fun fr h nx hf hp => by
    have := hp.get _ hb
    simp only at this
    rcases r with _ | ⟨_, v, _⟩ <;> cases ok <;> simp [mop, opd_get hf hm, opd_get hf hkk, he, this, hr, MR.v]) hk
/-! ### what changes the own heap -/
theorem HP.alloc {h : Heap} {nx : Nat} (hp : HP h nx B) (o : PObj) : HP (hset h nx (some o)) (nx + 1) ((nx, ⟨false, o⟩) :: B) where
  get p hp' := by
    rcases List.mem_cons.1 hp' with rfl | hm
    · exact Tr.get_put_same ..
    · rw [hset, Tr.get_put_ne _ _ _ _ (Nat.ne_of_lt (hp.lt p hm))]; exact hp.get p hm
  lt p hp' := by
    rcases List.mem_cons.1 hp' with rfl | hm
    · exact Nat.lt_succ_self _
    · exact Nat.lt_succ_of_lt (hp.lt p hm)
  nd := by
    simp only [List.map_cons, List.nodup_cons]
    refine ⟨fun hm => ?_, hp.nd⟩
    obtain ⟨p, h1, h2⟩ := List.mem_map.1 hm
    have := hp.lt p h1
    omega
theorem Stay.alloc (h : Heap) (nx : Nat) (o : PObj) : Stay h nx B (hset h nx (some o)) (nx + 1) ((nx, ⟨false, o⟩) :: B) where
  le := Nat.le_succ _
  keep id hl _ := Tr.get_put_ne _ _ _ _ (Nat.ne_of_lt hl)
  new id hk := by
    simp only [keys, List.map_cons, List.mem_cons] at hk
    rcases hk with rfl | hk
    · exact .inr (Nat.le_refl _)
    · exact .inl hk
theorem OpW_new {op : POp} {mk : Nat → PV} {o : PObj} (hm : isM op = true) (hr : ∀ fr h nx, FrIs al fr → HP h nx B → mop fr h nx op = some (mk nx, [(nx, some o)], 1)) (hk : ∀ i, Kv (mk i) ((i, ⟨false, o⟩) :: B)) : OpW E op al B Kv := by
  intro fr h nx hf hp
  refine ⟨mk nx, _, _, _, ⟨0, fun n _ => ?_⟩, hp.alloc o, .alloc h nx o, hk nx⟩
  rw [opRun_isM hm, hr fr h nx hf hp]; rfl
theorem o_alloc {z : PV} (hk : ∀ i, Kv (.mptr i 0 0) ((i, ⟨false, .arr z.cells.length [z]⟩) :: B)) : OpW E (.alloc z) al B Kv :=
  OpW_new (mk := fun i => .mptr i 0 0) rfl (fun fr h nx hf _ => rfl) hk
theorem o_box {k : Nat} {x : Opd} {v : PV} (hx : opdGet al x = some v) (hv : okv v = true) (hl : v.cells.length = k) (hk : ∀ i, Kv (.mptr i 0 0) ((i, ⟨false, .arr k [v]⟩) :: B)) : OpW E (.box k x) al B Kv :=
  OpW_new (mk := fun i => .mptr i 0 0) rfl (fun fr h nx hf _ => by simp [mop, opd_get hf hx, hv, hl]) hk
theorem o_lits {sz len : Nat} {zero : PV} {ps : List (Nat × Opd)} {l es : List PV} (hx : opdGets al (ps.map (·.2)) = some l) (hr : setAll sz (List.replicate len zero) ((ps.map (·.1)).zip l) = some es) (hk : ∀ i, Kv (.msl i 0 len len) ((i, ⟨false, .arr sz es⟩) :: B)) : OpW E (.lits sz len zero ps) al B Kv := by
  refine OpW_new (mk := fun i => .msl i 0 len len) rfl (fun fr h nx hf _ => ?_) hk
  have h1 := opds_get hf hx
  have h2 : (ps.map fun (i, x) => (i, x.get fr)) = (ps.map (·.1)).zip l := by
    rw [← h1]
    clear h1 hr hx hk
    induction ps with
    | nil => rfl
    | cons p ps ih => simp only [List.map_cons, List.zip_cons_cons, ← ih]
  simp only [mop, h2, hr]
theorem o_mkmap (hk : ∀ i, Kv (.map i) ((i, ⟨false, .map [] 0⟩) :: B)) : OpW E .mkmap al B Kv :=
  OpW_new (mk := fun i => .map i) rfl (fun fr h nx hf _ => rfl) hk
theorem o_mkslice {sz bytes : Nat} {zero : PV} {x y : Opd} {u v : PV} {n c : Nat} (hx : opdGet al x = some u) (hn : natOf u = some n) (hy : opdGet al y = some v) (hc : natOf v = some c) (hl : n ≤ c) (h1 : c < 9223372036854775808) (h2 : c * bytes ≤ 281474976710656) (hk : ∀ i, Kv (.msl i 0 n c) ((i, ⟨false, .arr sz (List.replicate c zero)⟩) :: B)) : OpW E (.mkslice sz bytes zero x y) al B Kv :=
  OpW_new (mk := fun i => .msl i 0 n c) rfl (fun fr h nx hf _ => by simp [mop, opd_get hf hx, opd_get hf hy, hn, hc, hl, h1, h2]) hk
/-- a thing changed -/
inductive Upd : BL → Nat → HO → HO → BL → Prop
  | here (i : Nat) (o o' : HO) (B : BL) : Upd ((i, o) :: B) i o o' ((i, o') :: B)
  | there {p : Nat × HO} {i : Nat} {o o' : HO} {B B' : BL} : Upd B i o o' B' → Upd (p :: B) i o o' (p :: B')
theorem Upd.append {i : Nat} {o o' : HO} {B B' : BL} (h : Upd B i o o' B') : ∀ (C : BL), Upd (C ++ B) i o o' (C ++ B')
  | [] => h
  | _ :: C => .there (h.append C)
theorem Upd.keys {B B' : BL} {i : Nat} {o o' : HO} (h : Upd B i o o' B') : Hp.keys B' = Hp.keys B := by
  induction h with
  | here i o o' B => rfl
  | there h ih => simp only [Hp.keys, List.map_cons] at ih ⊢; rw [ih]
theorem Upd.mem {B B' : BL} {i : Nat} {o o' : HO} (h : Upd B i o o' B') : (i, o) ∈ B := by
  induction h with
  | here i o o' B => exact List.mem_cons_self ..
  | there h ih => exact List.mem_cons_of_mem _ ih
theorem Upd.mem' {B B' : BL} {i : Nat} {o o' : HO} (h : Upd B i o o' B') (hn : (Hp.keys B).Nodup) : ∀ p ∈ B', p = (i, o') ∨ (p.1 ≠ i ∧ p ∈ B) := by
  induction h with
  | here i o o' B =>
    intro p hp
    rcases List.mem_cons.1 hp with rfl | hm
    · exact .inl rfl
    · simp only [Hp.keys, List.map_cons, List.nodup_cons] at hn
      exact .inr ⟨fun he => hn.1 (he ▸ List.mem_map_of_mem hm), List.mem_cons_of_mem _ hm⟩
  | @there q i o o' B B' h ih =>
    intro p hp
    simp only [Hp.keys, List.map_cons, List.nodup_cons] at hn
    rcases List.mem_cons.1 hp with rfl | hm
    · exact .inr ⟨fun he => hn.1 (he ▸ List.mem_map_of_mem (f := (·.1)) h.mem), List.mem_cons_self ..⟩
    · rcases ih hn.2 p hm with h1 | ⟨h1, h2⟩
      · exact .inl h1
      · exact .inr ⟨h1, List.mem_cons_of_mem _ h2⟩
theorem HP.upd {h : Heap} {nx : Nat} (hp : HP h nx B) {B' : BL} {i : Nat} {o o' : HO} (hu : Upd B i o o' B') : HP (h.put i (some o')) nx B' where
  get p hp' := by
    rcases hu.mem' hp.nd p hp' with rfl | ⟨h1, h2⟩
    · exact Tr.get_put_same ..
    · rw [Tr.get_put_ne _ _ _ _ h1]; exact hp.get p h2
  lt p hp' := by
    rcases hu.mem' hp.nd p hp' with rfl | ⟨h1, h2⟩
    · exact hp.lt (i, o) hu.mem
    · exact hp.lt p h2
  nd := by have := hu.keys; unfold keys at this; rw [this]; exact hp.nd
theorem Stay.upd {h : Heap} {nx : Nat} {B' : BL} {i : Nat} {o o' : HO} (hu : Upd B i o o' B') : Stay h nx B (h.put i (some o')) nx B' where
  le := Nat.le_refl _
  keep id _ hk := Tr.get_put_ne _ _ _ _ fun he => hk (he ▸ List.mem_map_of_mem (f := (·.1)) hu.mem)
  new id hk := by rw [hu.keys] at hk; exact .inl hk
theorem OpW_upd {op : POp} {v : PV} {i : Nat} {o : HO} {o' : PObj} {B' : BL} (hm : isM op = true) (hu : Upd B i o ⟨false, o'⟩ B') (hr : ∀ fr h nx, FrIs al fr → HP h nx B → mop fr h nx op = some (v, [(i, some o')], 0)) (hk : Kv v B') : OpW E op al B Kv := by
  intro fr h nx hf hp
  refine ⟨v, _, _, B', ⟨0, fun n _ => ?_⟩, hp.upd hu, .upd hu, hk⟩
  rw [opRun_isM hm, hr fr h nx hf hp]; rfl
theorem o_store {k : Nat} {a x : Opd} {i ix o sz : Nat} {es : List PV} {e v e' : PV} {B' : BL} (ha : opdGet al a = some (.mptr i ix o)) (hx : opdGet al x = some v) (hu : Upd B i ⟨false, .arr sz es⟩ ⟨false, .arr sz (es.set ix e')⟩ B') (he : es[ix]? = some e) (hv : okv v = true) (hl : v.cells.length = k) (hput : putCells e o v.cells = some e') (hk : Kv (.tup []) B') : OpW E (.store k a x) al B Kv :=
  OpW_upd rfl hu (fun fr h nx hf hp => by simp [mop, opd_get hf ha, opd_get hf hx, harr_of hp hu.mem, he, hv, hl, hput]) hk
theorem o_mupd {kk : EqK} {m k x : Opd} {i : Nat} {kv v : PV} {es : List (PV × PV × Nat)} {clk : Nat} {r : Option (Nat × PV × Nat)} {b : Bool} {B' : BL} (hm : opdGet al m = some (.map i)) (hkk : opdGet al k = some kv) (hx : opdGet al x = some v) (he : keyEq kk kv kv = some b) (hr : findE kk kv es 0 = some r)
    (hu : Upd B i ⟨false, .map es clk⟩ ⟨false, match r with
      | some (j, _, b) => .map (es.set j (kv, v, b)) clk
      | none => .map (es ++ [(kv, v, clk)]) (clk + 1)⟩ B') (hk : Kv (.tup []) B') : OpW E (.mupd kk m k x) al B Kv :=
  OpW_upd rfl hu (fun fr h nx hf hp => by
    have := hp.get _ hu.mem
    simp only at this
    rcases r with _ | ⟨j, u, b'⟩ <;> simp [mop, opd_get hf hm, opd_get hf hkk, opd_get hf hx, he, this, hr]) hk
theorem o_ment {kk : EqK} {zero : PV} {m k : Opd} {i : Nat} {kv : PV} {es : List (PV × PV × Nat)} {clk : Nat} {r : Option (Nat × PV × Nat)} {b : Bool} {B' : BL} (hm : opdGet al m = some (.map i)) (hkk : opdGet al k = some kv) (he : keyEq kk kv kv = some b) (hr : findE kk kv es 0 = some r)
    (hu : Upd B i ⟨false, .map es clk⟩ ⟨false, match r with
      | some (j, v, b) => .map (es.set j (kv, v, b)) clk
      | none => .map (es ++ [(kv, zero, clk)]) (clk + 1)⟩ B') (hk : Kv (match r with
      | some (_, v, b) => .tup [v, .int .i64 b]
      | none => .tup [zero, .int .i64 clk]) B') : OpW E (.ment kk zero m k) al B Kv :=
  OpW_upd rfl hu (fun fr h nx hf hp => by
    have := hp.get _ hu.mem
    simp only at this
    rcases r with _ | ⟨j, u, b'⟩ <;> simp [mop, opd_get hf hm, opd_get hf hkk, he, this, hr]) hk
theorem o_mest {m s x : Opd} {i j : Nat} {k : IntKind} {bn : Int} {v kv ov : PV} {es : List (PV × PV × Nat)} {clk b' : Nat} {B' : BL} (hm : opdGet al m = some (.map i)) (hs : opdGet al s = some (.int k bn)) (hx : opdGet al x = some v) (hr : findB bn es 0 = some j) (hj : es[j]? = some (kv, ov, b'))
    (hu : Upd B i ⟨false, .map es clk⟩ ⟨false, .map (es.set j (kv, v, b')) clk⟩ B') (hk : Kv (.tup []) B') : OpW E (.mest m s x) al B Kv :=
  OpW_upd rfl hu (fun fr h nx hf hp => by
    have := hp.get _ hu.mem
    simp only at this
    simp [mop, opd_get hf hm, opd_get hf hs, opd_get hf hx, this, hr, hj]) hk
theorem o_clearm {x : Opd} {i : Nat} {es : List (PV × PV × Nat)} {clk : Nat} {B' : BL} (hm : opdGet al x = some (.map i)) (hu : Upd B i ⟨false, .map es clk⟩ ⟨false, .map [] clk⟩ B') (hk : Kv (.tup []) B') : OpW E (.clearm x) al B Kv :=
  OpW_upd rfl hu (fun fr h nx hf hp => by
    have := hp.get _ hu.mem
    simp only at this
    simp [mop, opd_get hf hm, this]) hk
/-- elements that a slice holds -/
def ElB (B : BL) (k : Nat) (v : PV) (es : List PV) : Prop :=
  (∃ fu sz, v = .isl fu sz es ∧ (es = [] ∨ k = sz)) ∨ (∃ i off cp, v = .msl i off 0 cp ∧ es = []) ∨
  ∃ i off len cp fz rs, v = .msl i off len cp ∧ (i, (⟨fz, .arr k rs⟩ : HO)) ∈ B ∧ off + len ≤ rs.length ∧ es = (rs.drop off).take len
theorem ElB.elems {h : Heap} {nx : Nat} (hp : HP h nx B) {k : Nat} {v : PV} {es : List PV} (he : ElB B k v es) : elems h k v = some es := by
  rcases he with ⟨fu, sz, rfl, h1⟩ | ⟨i, off, cp, rfl, rfl⟩ | ⟨i, off, len, cp, fz, rs, rfl, hb, hl, rfl⟩
  · unfold Hp.elems
    rcases h1 with rfl | rfl
    · simp
    · simp
  · simp [Hp.elems]
  · simp only [Hp.elems, harr_of hp hb]
    by_cases h0 : len = 0
    · subst h0; simp
    · simp [h0, hl]
theorem o_copy {k : Nat} {x y : Opd} {i off len cp : Nat} {es src : List PV} {v : PV} {B' : BL} (hx : opdGet al x = some (.msl i off len cp)) (hy : opdGet al y = some v) (hs : ElB B k v src) (hl : off + len ≤ es.length) (h0 : 0 < len)
    (hu : Upd B i ⟨false, .arr k es⟩ ⟨false, .arr k (es.take off ++ src.take (min src.length len) ++ es.drop (off + min src.length len))⟩ B') (hk : Kv (.int .i64 (min src.length len : Nat)) B') : OpW E (.copy k x y) al B Kv :=
  OpW_upd rfl hu (fun fr h nx hf hp => by
    have h1 : ¬ len = 0 := by omega
    simp [mop, opd_get hf hx, opd_get hf hy, hs.elems hp, copyTo, harr_of hp hu.mem, hl, h1]) hk
theorem o_copy0 {k : Nat} {x y : Opd} {i off cp : Nat} {src : List PV} {v : PV} (hx : opdGet al x = some (.msl i off 0 cp)) (hy : opdGet al y = some v) (hs : ElB B k v src) (hk : Kv (.int .i64 0) B) : OpW E (.copy k x y) al B Kv :=
  OpW_v rfl (fun fr h nx hf hp => by simp [mop, opd_get hf hx, opd_get hf hy, hs.elems hp, copyTo]) hk
theorem o_clear0 {zero : PV} {x : Opd} {fu : Bool} {sz : Nat} (hx : opdGet al x = some (.isl fu sz [])) (hk : Kv (.tup []) B) : OpW E (.clear zero x) al B Kv :=
  OpW_v rfl (fun fr h nx hf hp => by simp [mop, opd_get hf hx]) hk
theorem o_clearm0 {zero : PV} {x : Opd} {i off cp : Nat} (hx : opdGet al x = some (.msl i off 0 cp)) (hk : Kv (.tup []) B) : OpW E (.clear zero x) al B Kv :=
  OpW_v rfl (fun fr h nx hf hp => by simp [mop, opd_get hf hx]) hk
theorem o_clear {zero : PV} {x : Opd} {i off len cp sz : Nat} {es : List PV} {B' : BL} (hx : opdGet al x = some (.msl i off len cp)) (hl : off + len ≤ es.length) (hz : sz = zero.cells.length) (h0 : 0 < len)
    (hu : Upd B i ⟨false, .arr sz es⟩ ⟨false, .arr sz (es.take off ++ List.replicate len zero ++ es.drop (off + len))⟩ B') (hk : Kv (.tup []) B') : OpW E (.clear zero x) al B Kv :=
  OpW_upd rfl hu (fun fr h nx hf hp => by
    obtain ⟨m, rfl⟩ : ∃ m, len = m + 1 := ⟨len - 1, by omega⟩
    simp [mop, opd_get hf hx, harr_of hp hu.mem, hl, hz]) hk
/-! ### a slice of one's own that grows -/
/-- none: nil as yet -/
def ownV : Option Nat → List PV → PV
  | none, _ => .isl true 0 []
  | some i, xs => .msl i 0 xs.length xs.length
def ownB (k : Nat) : Option Nat → List PV → BL
  | none, _ => []
  | some i, xs => [(i, ⟨false, .arr k xs⟩)]
theorem o_app_nil {bytes : Nat} {zero : PV} {x y : Opd} {u : PV} {fu : Bool} {sz : Nat} {es : List PV} (hx : opdGet al x = some (.isl fu sz es)) (hy : opdGet al y = some u) (hs : ElB B zero.cells.length u []) (hk : Kv (.isl fu sz es) B) : OpW E (.app bytes zero x y) al B Kv :=
  OpW_v rfl (fun fr h nx hf hp => by simp [mop, opd_get hf hx, opd_get hf hy, hs.elems hp, appendTo]) hk
theorem o_app_nilm {bytes : Nat} {zero : PV} {x y : Opd} {u : PV} {i off len cp : Nat} (hx : opdGet al x = some (.msl i off len cp)) (hy : opdGet al y = some u) (hs : ElB B zero.cells.length u []) (hk : Kv (.msl i off len cp) B) : OpW E (.app bytes zero x y) al B Kv :=
  OpW_v rfl (fun fr h nx hf hp => by simp [mop, opd_get hf hx, opd_get hf hy, hs.elems hp, appendTo]) hk
theorem o_app_isl {bytes : Nat} {zero : PV} {x y : Opd} {u : PV} {sz : Nat} {es new : List PV} (hx : opdGet al x = some (.isl true sz es)) (hy : opdGet al y = some u) (hs : ElB B zero.cells.length u new) (hn : new ≠ []) (h1 : es = [] ∨ sz = zero.cells.length) (h2 : (2 * (es.length + new.length) + 1000) * bytes ≤ 281474976710656)
    (hk : ∀ i, Kv (.msl i 0 (es.length + new.length) (es.length + new.length)) ((i, ⟨false, .arr zero.cells.length (es ++ new)⟩) :: B)) : OpW E (.app bytes zero x y) al B Kv :=
  OpW_new (mk := fun i => .msl i 0 (es.length + new.length) (es.length + new.length)) rfl (fun fr h nx hf hp => by
    have h3 : okBytes ((if es.isEmpty = true then new.length else 2 * (es.length + new.length) + 1000) * bytes) = true := by
      unfold okBytes
      simp only [decide_eq_true_eq]
      split
      · refine Nat.le_trans (Nat.mul_le_mul_right _ ?_) h2; omega
      · exact h2
    have h4 : new.isEmpty = false := by cases new <;> simp_all
    simp only [mop, opd_get hf hx, opd_get hf hy, hs.elems hp, appendTo, h4, Bool.false_eq_true, if_false]
    have h5 : es.isEmpty = true ∨ sz = zero.cells.length := by
      rcases h1 with rfl | h1
      · exact .inl rfl
      · exact .inr h1
    simp only [h5, h3, and_self, if_true]) hk
/-- a thing gone -/
inductive Rem : BL → Nat → HO → BL → Prop
  | here (i : Nat) (o : HO) (B : BL) : Rem ((i, o) :: B) i o B
  | there {p : Nat × HO} {i : Nat} {o : HO} {B B' : BL} : Rem B i o B' → Rem (p :: B) i o (p :: B')
theorem Rem.mem {B B' : BL} {i : Nat} {o : HO} (h : Rem B i o B') : (i, o) ∈ B := by
  induction h with
  | here i o B => exact List.mem_cons_self ..
  | there h ih => exact List.mem_cons_of_mem _ ih
theorem Rem.sub {B B' : BL} {i : Nat} {o : HO} (h : Rem B i o B') : B'.Sublist B := by
  induction h with
  | here i o B => exact List.sublist_cons_self ..
  | there h ih => exact ih.cons_cons _
theorem Rem.ne {B B' : BL} {i : Nat} {o : HO} (h : Rem B i o B') (hn : (Hp.keys B).Nodup) : ∀ p ∈ B', p.1 ≠ i := by
  induction h with
  | here i o B =>
    simp only [Hp.keys, List.map_cons, List.nodup_cons] at hn
    exact fun p hp he => hn.1 (he ▸ List.mem_map_of_mem hp)
  | @there q i o B B' h ih =>
    simp only [Hp.keys, List.map_cons, List.nodup_cons] at hn
    intro p hp
    rcases List.mem_cons.1 hp with rfl | hm
    · exact fun he => hn.1 (he ▸ List.mem_map_of_mem (f := (·.1)) h.mem)
    · exact ih hn.2 p hm
theorem o_app_grow {bytes : Nat} {zero : PV} {x y : Opd} {u : PV} {i off len cp : Nat} {es new : List PV} {B' : BL} (hx : opdGet al x = some (.msl i off len cp)) (hy : opdGet al y = some u) (hs : ElB B zero.cells.length u new) (hn : new ≠ [])
    (hr : Rem B i ⟨false, .arr zero.cells.length es⟩ B') (hl : off + len ≤ es.length) (hc : cp < len + new.length) (h2 : (2 * (len + new.length) + 1000) * bytes ≤ 281474976710656)
    (hk : ∀ j, Kv (.msl j 0 (len + new.length) (len + new.length)) ((j, ⟨false, .arr zero.cells.length ((es.drop off).take len ++ new)⟩) :: B')) : OpW E (.app bytes zero x y) al B Kv := by
  intro fr h nx hf hp
  have h4 : new.isEmpty = false := by cases new <;> simp_all
  have hne := hr.ne hp.nd
  have hmop : mop fr h nx (.app bytes zero x y) = some (.msl nx 0 (len + new.length) (len + new.length), [(i, none), (nx, some (.arr zero.cells.length ((es.drop off).take len ++ new)))], 1) := by
    simp only [mop, opd_get hf hx, opd_get hf hy, hs.elems hp, appendTo, h4, Bool.false_eq_true, if_false, harr_of hp hr.mem]
    rw [if_neg (by omega), if_pos ⟨hl, .inr trivial, by unfold okBytes; simpa using h2⟩]
  have hp' : HP (hset h i none) nx B' := by
    refine ⟨fun p hp' => ?_, fun p hp' => hp.lt p (hr.sub.subset hp'), hp.nd.sublist (hr.sub.map _)⟩
    rw [hset, Tr.get_put_ne _ _ _ _ (hne p hp')]
    exact hp.get p (hr.sub.subset hp')
  refine ⟨_, _, _, _, ⟨0, fun n _ => ?_⟩, hp'.alloc _, ⟨Nat.le_succ _, fun id hl hk => ?_, fun id hk => ?_⟩, hk nx⟩
  · rw [opRun_isM rfl, hmop]; rfl
  · rw [hset, Tr.get_put_ne _ _ _ _ (Nat.ne_of_lt hl), hset, Tr.get_put_ne _ _ _ _ fun he => hk (by rw [he]; exact List.mem_map_of_mem (f := (·.1)) hr.mem)]
  · simp only [keys, List.map_cons, List.mem_cons] at hk
    rcases hk with rfl | hk
    · exact .inr (Nat.le_refl _)
    · obtain ⟨p, h1, rfl⟩ := List.mem_map.1 hk
      exact .inl (List.mem_map_of_mem (hr.sub.subset h1))
theorem o_app_room {bytes : Nat} {zero : PV} {x y : Opd} {u : PV} {i off len cp : Nat} {es new : List PV} {B' : BL} (hx : opdGet al x = some (.msl i off len cp)) (hy : opdGet al y = some u) (hs : ElB B zero.cells.length u new) (hn : new ≠ []) (hl : off + cp ≤ es.length) (hc : len + new.length ≤ cp)
    (hu : Upd B i ⟨false, .arr zero.cells.length es⟩ ⟨false, .arr zero.cells.length (es.take (off + len) ++ new ++ es.drop (off + len + new.length))⟩ B') (hk : Kv (.msl i off (len + new.length) cp) B') : OpW E (.app bytes zero x y) al B Kv :=
  OpW_upd rfl hu (fun fr h nx hf hp => by
    have h4 : new.isEmpty = false := by cases new <;> simp_all
    simp only [mop, opd_get hf hx, opd_get hf hy, hs.elems hp, appendTo, h4, Bool.false_eq_true, if_false, harr_of hp hu.mem]
    rw [if_pos ⟨hc, hl, trivial⟩]) hk
/-- a slice of one's own: something more -/
theorem o_app_own {bytes : Nat} {zero : PV} {x y : Opd} {u : PV} {o : Option Nat} {xs new : List PV} {k : Nat} {C : BL} (hx : opdGet al x = some (ownV o xs)) (hy : opdGet al y = some u) (hz : zero.cells.length = k) (hs : ElB (ownB k o xs ++ C) k u new) (hn : new ≠ []) (ho : o = none → xs = [])
    (h2 : (2 * (xs.length + new.length) + 1000) * bytes ≤ 281474976710656) (hk : ∀ i, Kv (ownV (some i) (xs ++ new)) (ownB k (some i) (xs ++ new) ++ C)) : OpW E (.app bytes zero x y) al (ownB k o xs ++ C) Kv := by
  subst hz
  have hn0 : 0 < new.length := List.length_pos_iff.2 hn
  cases o with
  | none =>
    have h0 := ho rfl
    subst h0
    refine o_app_isl (es := []) hx hy hs hn (.inl rfl) h2 fun i => ?_
    have := hk i
    simpa [ownV, ownB] using this
  | some i =>
    refine o_app_grow (es := xs) (B' := C) hx hy hs hn (.here ..) (by omega) (by omega) h2 fun j => ?_
    have := hk j
    simpa [ownV, ownB] using this
end Hp
end
section
namespace Hp
open Go
variable {E : Env} {al : AL} {B : BL} {df : DF} {K : PExit → AL → BL → DF → Prop} {Kv : PV → BL → Prop}
/- read as data: the value as data, the numbers that it leads to -/
mutual
inductive Rf (B : BL) : Nat → PV → PV → List Nat → Prop
  | imm {n : Nat} {v : PV} : imm v = true → Rf B n v v []
  | any {n : Nat} : Rf B n .any .any []
  | mapp {n i : Nat} : Rf B n (.map i) .any []
  | msl {n i off len cp sz : Nat} {fz : Bool} {es rs : List PV} {L : List Nat} : (i, (⟨fz, .arr sz es⟩ : HO)) ∈ B → off + len ≤ es.length → RfL B n ((es.drop off).take len) rs L → Rf B (n + 1) (.msl i off len cp) (.isl false sz rs) (i :: L)
  | mptr {n i ix off sz : Nat} {fz : Bool} {es rs : List PV} {e : PV} {L : List Nat} : (i, (⟨fz, .arr sz es⟩ : HO)) ∈ B → es[ix]? = some e → RfL B n (e.cells.drop off) rs L → Rf B (n + 1) (.mptr i ix off) (.iptr rs) (i :: L)
  | agg {n : Nat} {cs rs : List PV} {L : List Nat} : RfL B n cs rs L → Rf B n (.agg cs) (.agg rs) L
  | tup {n : Nat} {cs rs : List PV} {L : List Nat} : RfL B n cs rs L → Rf B n (.tup cs) (.tup rs) L
  | iptr {n : Nat} {cs rs : List PV} {L : List Nat} : RfL B n cs rs L → Rf B n (.iptr cs) (.iptr rs) L
  | isl {n sz : Nat} {fu : Bool} {cs rs : List PV} {L : List Nat} : RfL B n cs rs L → Rf B n (.isl fu sz cs) (.isl fu sz rs) L
  | fn {n : Nat} {f : FuncId} {a b ra rb : List PV} {L L' : List Nat} : RfL B n a ra L → RfL B n b rb L' → Rf B n (.fn f a b) (.fn f ra rb) (L ++ L')
inductive RfL (B : BL) : Nat → List PV → List PV → List Nat → Prop
  | nil {n : Nat} : RfL B n [] [] []
  | imm {n : Nat} {l : List PV} : immL l = true → RfL B n l l []
  | cons {n : Nat} {v r : PV} {l rs : List PV} {L L' : List Nat} : Rf B n v r L → RfL B n l rs L' → RfL B n (v :: l) (r :: rs) (L ++ L')
end
mutual
theorem reifyV_imm (f : PV → Option PV) : ∀ p, imm p = true → reifyV f p = some p
  | .any, h | .mptr .., h | .msl .., h | .map _, h => by simp [imm] at h
  | .bool _, _ | .int .., _ | .str _, _ | .nilp, _ | .nilf, _ | .nili, _ | .nilm, _ => rfl
  | .agg cs, h | .tup cs, h | .iptr cs, h => by simp only [reifyV]; rw [reifyL_imm f cs (by simpa [imm] using h)]; rfl
  | .isl _ _ es, h => by simp only [reifyV]; rw [reifyL_imm f es (by simpa [imm] using h)]; rfl
  | .fn _ a b, h => by simp [imm] at h; simp only [reifyV]; rw [reifyL_imm f a h.1, reifyL_imm f b h.2]
  | .ifc _ v, h => by simp only [reifyV]; rw [reifyV_imm f v (by simpa [imm] using h)]; rfl
theorem reifyL_imm (f : PV → Option PV) : ∀ l, immL l = true → reifyL f l = some l
  | [], _ => rfl
  | v :: l, h => by simp [immL] at h; simp only [reifyL]; rw [reifyV_imm f v h.1, reifyL_imm f l h.2]
end
mutual
theorem Rf.run {h : Heap} {nx : Nat} (hp : HP h nx B) : ∀ {n : Nat} {v r : PV} {L : List Nat}, Rf B n v r L → reifyV (deref h n) v = some r ∧ leads (leadsTo h n) v = L
  | n, v, _, _, .imm hi => ⟨reifyV_imm _ _ hi, leads_imm _ _ hi⟩
  | n, _, _, _, .any => ⟨rfl, rfl⟩
  | n, _, _, _, .mapp => ⟨rfl, rfl⟩
  | n + 1, _, _, _, .msl hb hl hr => by
    obtain ⟨h1, h2⟩ := hr.run hp
    refine ⟨?_, ?_⟩
    · simp only [reifyV, deref, harr_of hp hb, hl, if_true, h1, Option.map_some]
    · simp only [leads, leadsTo, harr_of hp hb, h2]
  | n + 1, _, _, _, .mptr hb he hr => by
    obtain ⟨h1, h2⟩ := hr.run hp
    refine ⟨?_, ?_⟩
    · simp only [reifyV, deref, harr_of hp hb, he, h1, Option.map_some]
    · simp only [leads, leadsTo, harr_of hp hb, he, h2]
  | n, _, _, _, .agg hr => by obtain ⟨h1, h2⟩ := hr.run hp; exact ⟨by simp only [reifyV, h1, Option.map_some], by simp only [leads, h2]⟩
  | n, _, _, _, .tup hr => by obtain ⟨h1, h2⟩ := hr.run hp; exact ⟨by simp only [reifyV, h1, Option.map_some], by simp only [leads, h2]⟩
  | n, _, _, _, .iptr hr => by obtain ⟨h1, h2⟩ := hr.run hp; exact ⟨by simp only [reifyV, h1, Option.map_some], by simp only [leads, h2]⟩
  | n, _, _, _, .isl hr => by obtain ⟨h1, h2⟩ := hr.run hp; exact ⟨by simp only [reifyV, h1, Option.map_some], by simp only [leads, h2]⟩
  | n, _, _, _, .fn ha hb => by
    obtain ⟨h1, h2⟩ := ha.run hp
    obtain ⟨h3, h4⟩ := hb.run hp
    exact ⟨by simp only [reifyV, h1, h3], by simp only [leads, h2, h4]⟩
theorem RfL.run {h : Heap} {nx : Nat} (hp : HP h nx B) : ∀ {n : Nat} {l rs : List PV} {L : List Nat}, RfL B n l rs L → reifyL (deref h n) l = some rs ∧ leadsL (leadsTo h n) l = L
  | n, _, _, _, .nil => ⟨rfl, rfl⟩
  | n, _, _, _, .imm hi => ⟨reifyL_imm _ _ hi, leadsL_imm _ _ hi⟩
  | n, _, _, _, .cons hv hl => by
    obtain ⟨h1, h2⟩ := hv.run hp
    obtain ⟨h3, h4⟩ := hl.run hp
    exact ⟨by simp only [reifyL, h1, h3], by simp only [leadsL, h2, h4]⟩
end
/-! ### contracts -/
/-- a call by itself: data in, data out -/
def Iso (E : Env) (f : FuncId) (as : List PV) (r : PV) : Prop := ∃ N, ∀ n, N ≤ n → ∃ v h' nx', callN E n f as .e 0 = some (.ret v, h', nx') ∧ reify h' v = some r
/-- a call within -/
def FW (E : Env) (f : FuncId) (args : List PV) (B : BL) (KO : Hp.Out → BL → Prop) : Prop :=
  ∀ h nx, HP h nx B → ∃ out h' nx' B', (∃ N, ∀ n, N ≤ n → callN E n f args h nx = some (out, h', nx')) ∧ HP h' nx' B' ∧ Stay h nx B h' nx' B' ∧ KO out B'
theorem FW.frame {f : FuncId} {args : List PV} {B C : BL} {KO : Hp.Out → BL → Prop} (hw : FW E f args B KO) : FW E f args (B ++ C) fun out B' => ∃ B0, KO out B0 ∧ B' = B0 ++ C := by
  intro h nx hp
  have hnd := hp.nd
  rw [List.map_append, List.nodup_append] at hnd
  obtain ⟨n1, n2, n3⟩ := hnd
  have hpB : HP h nx B := ⟨fun p hp' => hp.get p (List.mem_append_left _ hp'), fun p hp' => hp.lt p (List.mem_append_left _ hp'), n1⟩
  obtain ⟨out, h', nx', B2, h1, h3, h4, h5⟩ := hw h nx hpB
  have hC : ∀ p ∈ C, p.1 ∉ keys B := fun p hp' hk => n3 _ hk _ (List.mem_map_of_mem hp') rfl
  refine ⟨out, h', nx', B2 ++ C, h1, ⟨fun p hp' => ?_, fun p hp' => ?_, ?_⟩, ⟨h4.le, fun id hl hk => ?_, fun id hk => ?_⟩, B2, h5, rfl⟩
  · rcases List.mem_append.1 hp' with hm | hm
    · exact h3.get p hm
    · rw [h4.keep p.1 (hp.lt p (List.mem_append_right _ hm)) (hC p hm)]; exact hp.get p (List.mem_append_right _ hm)
  · rcases List.mem_append.1 hp' with hm | hm
    · exact h3.lt p hm
    · exact Nat.lt_of_lt_of_le (hp.lt p (List.mem_append_right _ hm)) h4.le
  · rw [List.map_append, List.nodup_append]
    refine ⟨h3.nd, n2, fun a ha b hb hab => ?_⟩
    subst hab
    rcases h4.new a ha with hk | hk
    · exact n3 a hk a hb rfl
    · obtain ⟨p, hp', rfl⟩ := List.mem_map.1 hb
      have := hp.lt p (List.mem_append_right _ hp')
      omega
  · exact h4.keep id hl fun hk' => hk (by simp only [keys, List.map_append, List.mem_append] at hk' ⊢; exact .inl hk')
  · simp only [keys, List.map_append, List.mem_append] at hk ⊢
    rcases hk with hk | hk
    · exact (h4.new id hk).imp (fun h => .inl h) fun h => h
    · exact .inl (.inr hk)
theorem FW.less {f : FuncId} {args : List PV} {B B' : BL} {KO : Hp.Out → BL → Prop} (hw : FW E f args B KO) (hb : BSub B B') : FW E f args B' KO := by
  intro h nx hp
  obtain ⟨out, h', nx', B2, h1, h3, h4, h5⟩ := hw h nx (hp.sub hb)
  exact ⟨out, h', nx', B2, h1, h3, ⟨h4.le, fun id hl hk => h4.keep id hl fun hk' => hk (hb.keys hk'), fun id hk => (h4.new id hk).imp (fun h => hb.keys h) fun h => h⟩, h5⟩
theorem FW.mono {f : FuncId} {args : List PV} {B : BL} {KO KO' : Hp.Out → BL → Prop} (hw : FW E f args B KO) (hk : ∀ out B', KO out B' → KO' out B') : FW E f args B KO' := by
  intro h nx hp
  obtain ⟨out, h', nx', B2, h1, h3, h4, h5⟩ := hw h nx hp
  exact ⟨out, h', nx', B2, h1, h3, h4, hk _ _ h5⟩
/-- what a call that runs by itself needs -/
theorem isoCall_of {f : FuncId} {vs as : List PV} {r : PV} {L : List Nat} {h : Heap} {nx : Nat} (hp : HP h nx B) (hr : RfL B deep vs as L) (hi : Iso E f as r) : ∃ N, ∀ n, N ≤ n → isoCall (callN E n) f vs h = some (r, noRefs r || immL vs) := by
  obtain ⟨N, h1⟩ := hi
  refine ⟨N, fun n hn => ?_⟩
  obtain ⟨v, h', nx', e1, e2⟩ := h1 n hn
  simp only [isoCall, (hr.run hp).1, e1, e2]
theorem o_iso {f : FuncId} {args : List Opd} {vs as : List PV} {r : PV} {L : List Nat} (hx : opdGets al args = some vs) (hr : RfL B deep vs as L) (hi : Iso E f as r) (hn : (noRefs r || immL vs) = true) (hk : Kv r B) : OpW E (.call .iso f args) al B Kv := by
  intro fr h nx hf hp
  obtain ⟨N, h1⟩ := isoCall_of hp hr hi
  refine ⟨r, h, nx, B, ⟨N, fun n hn' => ?_⟩, hp, .refl .., hk⟩
  simp only [opRun, opds_get hf hx, callRun, h1 n hn', hn]
theorem o_isov {g : Opd} {f : FuncId} {a b : List PV} {args : List Opd} {vs as : List PV} {r : PV} {L : List Nat} (hg : opdGet al g = some (.fn f a b)) (hx : opdGets al args = some vs) (hr : RfL B deep (a ++ vs ++ b) as L) (hi : Iso E f as r) (hn : (noRefs r || immL (a ++ vs ++ b)) = true) (hk : Kv r B) : OpW E (.callv .iso g args) al B Kv := by
  intro fr h nx hf hp
  obtain ⟨N, h1⟩ := isoCall_of hp hr hi
  refine ⟨r, h, nx, B, ⟨N, fun n hn' => ?_⟩, hp, .refl .., hk⟩
  simp only [opRun, opds_get hf hx, opd_get hf hg, callRun, h1 n hn', hn]
/-- things frozen -/
inductive Fz : BL → List Nat → BL → Prop
  | nil : Fz [] [] []
  | keep {p : Nat × HO} {B B' : BL} {F : List Nat} : Fz B F B' → Fz (p :: B) F (p :: B')
  | frz {i : Nat} {o : HO} {B B' : BL} {F : List Nat} : Fz B F B' → Fz ((i, o) :: B) (i :: F) ((i, ⟨true, o.o⟩) :: B')
theorem Fz.keys {B B' : BL} {F : List Nat} (h : Fz B F B') : Hp.keys B' = Hp.keys B := by
  induction h with
  | nil => rfl
  | keep h ih => simp only [Hp.keys, List.map_cons] at ih ⊢; rw [ih]
  | frz h ih => simp only [Hp.keys, List.map_cons] at ih ⊢; rw [ih]
theorem Fz.sub {B B' : BL} {F : List Nat} (h : Fz B F B') : ∀ i ∈ F, i ∈ Hp.keys B := by
  induction h with
  | nil => intro i hi; cases hi
  | keep h ih => intro i hi; simp only [Hp.keys, List.map_cons, List.mem_cons]; exact .inr (ih i hi)
  | frz h ih =>
    intro i hi
    simp only [Hp.keys, List.map_cons, List.mem_cons] at hi ⊢
    rcases hi with rfl | hi
    · exact .inl rfl
    · exact .inr (ih i hi)
theorem Fz.mem {B B' : BL} {F : List Nat} (h : Fz B F B') (hn : (Hp.keys B).Nodup) : ∀ p ∈ B', (p.1 ∉ F ∧ p ∈ B) ∨ (p.1 ∈ F ∧ ∃ o, (p.1, o) ∈ B ∧ p.2 = ⟨true, o.o⟩) := by
  induction h with
  | nil => intro p hp; cases hp
  | @keep q B B' F h ih =>
    simp only [Hp.keys, List.map_cons, List.nodup_cons] at hn
    intro p hp
    rcases List.mem_cons.1 hp with rfl | hm
    · exact .inl ⟨fun hf => hn.1 (h.sub _ hf), List.mem_cons_self ..⟩
    · rcases ih hn.2 p hm with ⟨h1, h2⟩ | ⟨h1, o, h2, h3⟩
      · exact .inl ⟨h1, List.mem_cons_of_mem _ h2⟩
      · exact .inr ⟨h1, o, List.mem_cons_of_mem _ h2, h3⟩
  | @frz i o B B' F h ih =>
    simp only [Hp.keys, List.map_cons, List.nodup_cons] at hn
    intro p hp
    rcases List.mem_cons.1 hp with rfl | hm
    · exact .inr ⟨List.mem_cons_self .., o, List.mem_cons_self .., rfl⟩
    · have hne : p.1 ≠ i := fun he => hn.1 (by have : p.1 ∈ Hp.keys B' := List.mem_map_of_mem hm; rw [h.keys, he] at this; exact this)
      rcases ih hn.2 p hm with ⟨h1, h2⟩ | ⟨h1, o', h2, h3⟩
      · exact .inl ⟨fun hf => by rcases List.mem_cons.1 hf with h | h; exact hne h; exact h1 h, List.mem_cons_of_mem _ h2⟩
      · exact .inr ⟨List.mem_cons_of_mem _ h1, o', List.mem_cons_of_mem _ h2, h3⟩
theorem HP.frz {h : Heap} {nx : Nat} (hp : HP h nx B) {F L : List Nat} {B' : BL} (hz : Fz B F B') (hFL : ∀ i, i ∈ F ↔ i ∈ L) : HP (hfrzs h L) nx B' ∧ Stay h nx B (hfrzs h L) nx B' := by
  refine ⟨⟨fun p hp' => ?_, fun p hp' => ?_, ?_⟩, ⟨Nat.le_refl _, fun id _ hk => ?_, fun id hk => ?_⟩⟩
  · rw [hfrzs_get]
    rcases hz.mem hp.nd p hp' with ⟨h1, h2⟩ | ⟨h1, o, h2, h3⟩
    · rw [if_neg fun hh => h1 ((hFL _).2 hh)]; exact hp.get p h2
    · rw [if_pos ((hFL _).1 h1)]
      have := hp.get _ h2
      simp only at this
      rw [this, h3]; rfl
  · have : p.1 ∈ keys B := by rw [← hz.keys]; exact List.mem_map_of_mem hp'
    obtain ⟨q, h1, h2⟩ := List.mem_map.1 this
    rw [← h2]; exact hp.lt q h1
  · have := hz.keys; unfold keys at this; rw [this]; exact hp.nd
  · rw [hfrzs_get, if_neg fun hh => hk (hz.sub _ ((hFL _).2 hh))]
  · rw [hz.keys] at hk; exact .inl hk
theorem o_iso_frz {f : FuncId} {args : List Opd} {vs as : List PV} {r : PV} {L F : List Nat} {B' : BL} (hx : opdGets al args = some vs) (hr : RfL B deep vs as L) (hi : Iso E f as r) (hz : Fz B F B') (hFL : ∀ i, i ∈ F ↔ i ∈ L) (hk1 : (noRefs r || immL vs) = true → Kv r B) (hk : Kv r B') : OpW E (.call .iso f args) al B Kv := by
  intro fr h nx hf hp
  obtain ⟨N, h1⟩ := isoCall_of hp hr hi
  cases hn : (noRefs r || immL vs) with
  | true =>
    refine ⟨r, h, nx, B, ⟨N, fun n hn' => ?_⟩, hp, .refl .., hk1 hn⟩
    simp only [opRun, opds_get hf hx, callRun, h1 n hn', hn]
  | false =>
    obtain ⟨g1, g2⟩ := hp.frz hz hFL
    refine ⟨r, hfrzs h L, nx, B', ⟨N, fun n hn' => ?_⟩, g1, g2, hk⟩
    have : leadL h vs = L := (hr.run hp).2
    simp only [opRun, opds_get hf hx, callRun, h1 n hn', hn, this]
/-- the things by which the call went are no longer of use: only things apart are kept -/
theorem o_iso_any {f : FuncId} {args : List Opd} {vs as : List PV} {r : PV} {L F : List Nat} {B' C : BL} (hx : opdGets al args = some vs) (hr : RfL B deep vs as L) (hi : Iso E f as r) (hz : Fz B F B') (hFL : ∀ i, i ∈ F ↔ i ∈ L) (hs : ∀ p ∈ C, p ∈ B ∧ p ∈ B') (hC : C.Sublist B) (hk : Kv r C) : OpW E (.call .iso f args) al B Kv := by
  intro fr h nx hf hp
  have hnd : (keys C).Nodup := hp.nd.sublist (hC.map _)
  have hb1 : BSub C B := ⟨fun p hp => (hs p hp).1, hnd⟩
  have hb2 : BSub C B' := ⟨fun p hp => (hs p hp).2, hnd⟩
  obtain ⟨N, h1⟩ := isoCall_of hp hr hi
  cases hn : (noRefs r || immL vs) with
  | true =>
    refine ⟨r, h, nx, C, ⟨N, fun n hn' => ?_⟩, hp.sub hb1, (Stay.refl ..).less hb1, hk⟩
    simp only [opRun, opds_get hf hx, callRun, h1 n hn', hn]
  | false =>
    obtain ⟨g1, g2⟩ := hp.frz hz hFL
    refine ⟨r, hfrzs h L, nx, C, ⟨N, fun n hn' => ?_⟩, g1.sub hb2, g2.less hb2, hk⟩
    have : leadL h vs = L := (hr.run hp).2
    simp only [opRun, opds_get hf hx, callRun, h1 n hn', hn, this]
theorem o_extc {f : FuncId} {args : List Opd} {vs as : List PV} {g : List PV → Option PV} {r : PV} {L : List Nat} (hx : opdGets al args = some vs) (hr : RfL B deep vs as L) (he : E.ext f = some (false, g)) (hg : g as = some r) (hi : imm r = true) (hn : (noRefs r || immL vs) = true) (hk : Kv r B) : OpW E (.call .ext f args) al B Kv := by
  intro fr h nx hf hp
  refine ⟨r, h, nx, B, ⟨0, fun n _ => ?_⟩, hp, .refl .., hk⟩
  simp only [opRun, opds_get hf hx, callRun, extCall, he, (hr.run hp).1, hg, hi, hn, if_true]
theorem o_own {f : FuncId} {args : List Opd} {vs as : List PV} {g : List PV → Option PV} {fu : Bool} {sz : Nat} {es : List PV} {L : List Nat} (hx : opdGets al args = some vs) (hr : RfL B deep vs as L) (he : E.ext f = some (true, g)) (hg : g as = some (.isl fu sz es)) (hi : immL es = true) (hn : (noRefsL es || immL vs) = true) (hfu : (fu || !es.isEmpty) = true)
    (hk : ∀ i, Kv (.msl i 0 es.length es.length) ((i, ⟨false, .arr (if es.isEmpty then 0 else sz) es⟩) :: B)) : OpW E (.call .own f args) al B Kv := by
  intro fr h nx hf hp
  refine ⟨_, _, _, _, ⟨0, fun n _ => ?_⟩, hp.alloc _, .alloc h nx _, hk nx⟩
  simp only [opRun, opds_get hf hx, callRun, ownCall, he, (hr.run hp).1, hg, hi, hn, hfu, Bool.and_self, if_true, Option.map_some]
/-- a call within, that comes back -/
theorem o_inl {f : FuncId} {args : List Opd} {vs : List PV} {C : BL} (hx : opdGets al args = some vs) (hw : FW E f vs B fun out B' => ∃ v, out = .ret v ∧ Kv v (B' ++ C)) : OpW E (.call .inl f args) al (B ++ C) Kv := by
  intro fr h nx hf hp
  obtain ⟨out, h', nx', B', ⟨N, h1⟩, h2, h3, B0, ⟨v, rfl, hk⟩, rfl⟩ := hw.frame (C := C) h nx hp
  refine ⟨v, h', nx', _, ⟨N, fun n hn => ?_⟩, h2, h3, hk⟩
  simp only [opRun, opds_get hf hx, callRun, h1 n hn, h3.le, if_true]
theorem o_inlv {g : Opd} {f : FuncId} {a b : List PV} {args : List Opd} {vs : List PV} {C : BL} (hg : opdGet al g = some (.fn f a b)) (hx : opdGets al args = some vs) (hw : FW E f (a ++ vs ++ b) B fun out B' => ∃ v, out = .ret v ∧ Kv v (B' ++ C)) : OpW E (.callv .inl g args) al (B ++ C) Kv := by
  intro fr h nx hf hp
  obtain ⟨out, h', nx', B', ⟨N, h1⟩, h2, h3, B0, ⟨v, rfl, hk⟩, rfl⟩ := hw.frame (C := C) h nx hp
  refine ⟨v, h', nx', _, ⟨N, fun n hn => ?_⟩, h2, h3, hk⟩
  simp only [opRun, opds_get hf hx, opd_get hf hg, callRun, h1 n hn, h3.le, if_true]
def dstAL (d : Option Nat) (v : PV) (al : AL) : AL :=
  match d with
  | some d => (d, v) :: al
  | none => al
/-- a call within, that comes back or panics -/
theorem WO_inl {f : FuncId} {args : List Opd} {vs : List PV} {C : BL} {d : Option Nat} {l : List PG} (hx : opdGets al args = some vs) (hw : FW E f vs B fun out B' => match out with
    | .ret v => WO E l (dstAL d v al) (B' ++ C) df K
    | .pan v => K (.pan v) al (B' ++ C) df) : WO E (⟨d, none, .call .inl f args⟩ :: l) al (B ++ C) df K := by
  intro fr h nx hf hp
  obtain ⟨out, h', nx', B', ⟨N, h1⟩, h2, h3, B0, hk, rfl⟩ := hw.frame (C := C) h nx hp
  cases out with
  | ret v =>
    have hf' : FrIs (dstAL d v al) (Fr.dst fr d v) := by cases d with
      | none => exact hf
      | some d => exact hf.set d v
    obtain ⟨e, fr2, h4, nx2, al2, B2, df2, ⟨M, r2⟩, f2, p2, o2, k2⟩ := hk _ h' nx' hf' h2
    exact ⟨e, fr2, h4, nx2, al2, B2, df2, ⟨max N M, fun n hn => by simp only [ops, want, opRun, opds_get hf hx, callRun, h1 n (by omega), h3.le, if_true]; exact r2 n (by omega)⟩, f2, p2, h3.trans o2, k2⟩
  | pan v =>
    exact ⟨_, fr, h', nx', al, _, df, ⟨N, fun n hn => by simp only [ops, want, opRun, opds_get hf hx, callRun, h1 n hn]⟩, hf, h2, h3, hk⟩
theorem o_inn {f : FuncId} {args : List Opd} {vs : List PV} (hx : opdGets al args = some vs) (hi : immL vs = true) (hw : FW E f vs [] fun out B' => ∃ v, out = .ret v ∧ Kv v (B' ++ B)) : OpW E (.call .inn f args) al B Kv := by
  intro fr h nx hf hp
  obtain ⟨out, h', nx', B', ⟨N, h1⟩, h2, h3, v, rfl, hk⟩ := hw .e nx ⟨fun p hp => (by cases hp), fun p hp => (by cases hp), by simp⟩
  have hle := h3.le
  have hnew : ∀ p ∈ B', nx ≤ p.1 := fun p hp' => (h3.new p.1 (List.mem_map_of_mem hp')).elim (fun h => by simp [keys] at h) fun h => h
  have hcp : ∀ id, (hcopy h h' nx (nx' - nx)).get id = if nx ≤ id ∧ id < nx' then h'.get id else h.get id := by
    intro id; rw [hcopy_get, show nx + (nx' - nx) = nx' by omega]
  refine ⟨v, hcopy h h' nx (nx' - nx), nx', B' ++ B, ⟨N, fun n hn => ?_⟩, ⟨fun p hp' => ?_, fun p hp' => ?_, ?_⟩, ⟨hle, fun id hl hk' => ?_, fun id hk' => ?_⟩, hk⟩
  · simp only [opRun, opds_get hf hx, callRun, hi, if_true, h1 n hn, hle]
  · rw [hcp]
    rcases List.mem_append.1 hp' with hm | hm
    · rw [if_pos ⟨hnew p hm, h2.lt p hm⟩]; exact h2.get p hm
    · rw [if_neg fun hh => by have := hp.lt p hm; omega]; exact hp.get p hm
  · rcases List.mem_append.1 hp' with hm | hm
    · exact h2.lt p hm
    · exact Nat.lt_of_lt_of_le (hp.lt p hm) hle
  · rw [List.map_append, List.nodup_append]
    refine ⟨h2.nd, hp.nd, fun a ha b hb hab => ?_⟩
    obtain ⟨p, h4, rfl⟩ := List.mem_map.1 ha
    obtain ⟨q, h5, rfl⟩ := List.mem_map.1 hb
    have := hnew p h4; have := hp.lt q h5; omega
  · rw [hcp, if_neg fun hh => by omega]
  · simp only [keys, List.map_append, List.mem_append] at hk'
    rcases hk' with hk' | hk'
    · obtain ⟨p, h4, rfl⟩ := List.mem_map.1 hk'; exact .inr (hnew p h4)
    · exact .inl hk'
/-! ### whole functions -/
def argsAL : Nat → List PV → AL
  | _, [] => []
  | i, v :: l => (i, v) :: argsAL (i + 1) l
theorem argsFrom_keep : ∀ (l : List PV) (i : Nat) (fr : Fr) (t : Nat), t < i → Fr.at (Fr.argsFrom i l fr) t = Fr.at fr t
  | [], _, _, _, _ => rfl
  | v :: l, i, fr, t, h => by simp only [Fr.argsFrom]; rw [argsFrom_keep l (i + 1) _ t (by omega), Fr.at_set, if_neg (by omega)]
theorem argsAL_is : ∀ (l : List PV) (i : Nat) (fr : Fr), FrIs (argsAL i l) (Fr.argsFrom i l fr)
  | [], _, _ => fun t v h => by cases h
  | v :: l, i, fr => by
    intro t u hu
    simp only [argsAL, alGet] at hu
    simp only [Fr.argsFrom]
    split at hu
    · rename_i hb
      cases hu
      rw [Nat.eq_of_beq_eq_true hb, argsFrom_keep l (i + 1) _ i (by omega), Fr.at_set, if_pos rfl]
    · exact argsAL_is l (i + 1) _ t u hu
/-- what a function gives back -/
inductive ResIs (B : BL) (al : AL) : List PRes → List PV → Prop
  | nil : ResIs B al [] []
  | tmp {t : Nat} {v : PV} {l : List PRes} {vs : List PV} : alGet al t = some v → ResIs B al l vs → ResIs B al (.tmp t :: l) (v :: vs)
  | cell {t k : Nat} {ag : Bool} {i ix off sz : Nat} {fz : Bool} {es : List PV} {e v : PV} {l : List PRes} {vs : List PV} : alGet al t = some (.mptr i ix off) → (i, (⟨fz, .arr sz es⟩ : HO)) ∈ B → es[ix]? = some e → ldCells k ag (e.cells.drop off) = some v → ResIs B al l vs → ResIs B al (.cell t k ag :: l) (v :: vs)
theorem ResIs.run {h : Heap} {nx : Nat} {fr : Fr} (hp : HP h nx B) (hf : FrIs al fr) {l : List PRes} {vs : List PV} (hr : ResIs B al l vs) : resL fr h l = some vs := by
  induction hr with
  | nil => rfl
  | tmp hv _ ih => simp only [resL, resOf, hf _ _ hv, ih]
  | cell ht hb he hv _ ih => simp only [resL, resOf, hf _ _ ht, ldv, behind, harr_of hp hb, he, Option.map_some, Option.bind_some, hv, ih]
/-- a function's end (nothing deferred) -/
def finK (pf : PF) (KO : Hp.Out → BL → Prop) : PExit → AL → BL → DF → Prop
  | .normal, al, B, df => df = [] ∧ ∃ vs, ResIs B al pf.res vs ∧ KO (.ret (resV vs)) B
  | .ret, al, B, df => df = [] ∧ ∃ vs, ResIs B al pf.res vs ∧ KO (.ret (resV vs)) B
  | .pan v, _, B, df => df = [] ∧ KO (.pan v) B
  | .exit _, _, _, _ => False
theorem FW_body {f : FuncId} {pf : PF} {args : List PV} {KO : Hp.Out → BL → Prop} (hf : E.fns f = some pf) (hw : WC E pf.body (argsAL 0 args) B [] (finK pf KO)) : FW E f args B KO := by
  intro h nx hp
  obtain ⟨e, fr', h', nx', al', B', df', ⟨N, r⟩, f1, p1, o1, k1⟩ := hw (Fr.args args) h nx (argsAL_is args 0 .e) hp
  have unf : ∀ n, N ≤ n → callN E (n + 1) f args h nx = (match some (e, (⟨fr', h', nx', df'⟩ : S)) with
    | some (.normal, s) => fin (dcall E (callN E n) n) pf s
    | some (.ret, s) => fin (dcall E (callN E n) n) pf s
    | some (.pan v, s) => match s.df with
      | [] => some (.pan v, s.h, s.nx)
      | _ => none
    | _ => none) := by
    intro n hn
    simp only [callN, hf, runFn, r n hn]
    cases e <;> rfl
  cases e with
  | normal =>
    obtain ⟨rfl, vs, h1, h2⟩ := k1
    refine ⟨_, h', nx', B', ⟨N + 1, fun n hn => ?_⟩, p1, o1, h2⟩
    obtain ⟨n, rfl⟩ : ∃ m, n = m + 1 := ⟨n - 1, by omega⟩
    rw [unf n (by omega)]
    simp only [fin, runDf, h1.run p1 f1, Option.map_some]
  | ret =>
    obtain ⟨rfl, vs, h1, h2⟩ := k1
    refine ⟨_, h', nx', B', ⟨N + 1, fun n hn => ?_⟩, p1, o1, h2⟩
    obtain ⟨n, rfl⟩ : ∃ m, n = m + 1 := ⟨n - 1, by omega⟩
    rw [unf n (by omega)]
    simp only [fin, runDf, h1.run p1 f1, Option.map_some]
  | pan v =>
    obtain ⟨rfl, h2⟩ := k1
    refine ⟨_, h', nx', B', ⟨N + 1, fun n hn => ?_⟩, p1, o1, h2⟩
    obtain ⟨n, rfl⟩ : ∃ m, n = m + 1 := ⟨n - 1, by omega⟩
    rw [unf n (by omega)]
  | exit id => exact k1.elim
theorem Iso_of {f : FuncId} {as : List PV} {r : PV} (hw : FW E f as [] fun out B => ∃ v L, out = .ret v ∧ Rf B deep v r L) : Iso E f as r := by
  obtain ⟨out, h', nx', B', ⟨N, h1⟩, h2, h3, v, L, rfl, hk⟩ := hw .e 0 ⟨fun p hp => (by cases hp), fun p hp => (by cases hp), by simp⟩
  exact ⟨N, fun n hn => ⟨v, h', nx', h1 n hn, (hk.run h2).1⟩⟩
/-- a function that runs by itself, out of its text -/
def isoK (pf : PF) (r : PV) : PExit → AL → BL → DF → Prop := finK pf fun out B => ∃ v L, out = .ret v ∧ Rf B deep v r L
theorem Iso_body {f : FuncId} {pf : PF} {as : List PV} {r : PV} (hf : E.fns f = some pf) (hw : WC E pf.body (argsAL 0 as) [] [] (isoK pf r)) : Iso E f as r := Iso_of (FW_body hf hw)
/-! ### regions that draw, with nothing unordered that touches -/
theorem ops_drawn {call : CallF} {ext : ExtF} : ∀ (l : List PG) (s s' : S), ops call ext l s = some (.normal, s') → s'.df.length ≤ s.df.length → s'.df = s.df ∧ ∃ ts, drawn call ext l s.fr s.h s.nx = some (s'.fr, s'.h, s'.nx, ts)
  | [], s, s', h, _ => by
    simp only [ops, Option.some.injEq, Prod.mk.injEq, true_and] at h
    subst h
    exact ⟨rfl, [], rfl⟩
  | g :: l, s, s', h, hd => by
    have grow : ∀ (l : List PG) (s s' : S) (e : PExit), ops call ext l s = some (e, s') → s.df.length ≤ s'.df.length := by
      intro l
      induction l with
      | nil => intro s s' e h; simp only [ops, Option.some.injEq, Prod.mk.injEq] at h; rw [← h.2]; exact Nat.le_refl _
      | cons g l ih =>
        intro s s' e h
        simp only [ops] at h
        split at h
        · cases h
        · exact ih { s with fr := Fr.dst s.fr g.dst (.tup []) } s' e h
        · split at h
          · cases h
          · rename_i v h1 nx1 _; exact ih ⟨Fr.dst s.fr g.dst v, h1, nx1, s.df⟩ s' e h
          · simp only [Option.some.injEq, Prod.mk.injEq] at h; rw [← h.2]; exact Nat.le_refl _
          · rename_i f args _; have := ih ⟨Fr.dst s.fr g.dst (.tup []), s.h, s.nx, (f, args) :: s.df⟩ s' e h; simp at this; omega
    simp only [ops] at h
    split at h
    · cases h
    · rename_i hw
      obtain ⟨h1, ts, h2⟩ := ops_drawn l _ s' h hd
      exact ⟨h1, _ :: ts, by simp only [drawn, one, hw]; simp only at h2; rw [h2]⟩
    · rename_i hw
      split at h
      · cases h
      · rename_i v h1 nx1 hop
        obtain ⟨h3, ts, h2⟩ := ops_drawn l _ s' h hd
        exact ⟨h3, _ :: ts, by simp only [drawn, one, hw, hop]; simp only at h2; rw [h2]⟩
      · simp at h
      · rename_i f args _
        have := grow l _ _ _ h
        simp at this; omega
def drawK (df : DF) (K : PExit → AL → BL → DF → Prop) : PExit → AL → BL → DF → Prop := fun e al B df' => e = .normal ∧ df'.length ≤ df.length ∧ K .normal al B df'
theorem W_draw {l : List PG} (hk : WO E l al B df (drawK df K)) : WC E (.draw [] l) al B df K := by
  intro fr h nx hf hp
  obtain ⟨e, fr1, h1, nx1, al1, B1, df1, ⟨N, r⟩, f1, p1, o1, rfl, hd, k1⟩ := hk fr h nx hf hp
  have hdf : df1 = df := (ops_drawn l _ _ (r N (Nat.le_refl _)) hd).1
  refine ⟨_, fr1, h1, nx1, al1, B1, df1, ⟨N, fun n hn => ?_⟩, f1, p1, o1, k1⟩
  obtain ⟨_, ts, h2⟩ := ops_drawn l _ _ (r n hn) hd
  simp only at h2
  simp only [exec, h2, apart, if_true, hdf]
end Hp
end
section
namespace Hp
open Go
variable {E : Env} {al : AL} {B : BL} {df : DF} {K : PExit → AL → BL → DF → Prop} {Kv : PV → BL → Prop}
def guardedLen : List PG → Nat
  | [] => 0
  | g :: l => match g.guard with
    | some _ => guardedLen l + 1
    | none => 0
def dsts (l : List PG) : List Nat := l.filterMap (·.dst)
def isG (t : Nat) (pol : Bool) : Option (Nat × Bool) → Bool
  | some (t', b) => Nat.beq t' t && (b == pol)
  | none => false
/-- all are guarded by one test, or by what such ones tell -/
def chainOk (t : Nat) (pol : Bool) : List PG → List Nat → Bool
  | [], _ => true
  | g :: l, ds => (isG t pol g.guard || match g.guard with
    | some (t', _) => ds.any (Nat.beq t')
    | none => false) && chainOk t pol l (match g.dst with
    | some d => d :: ds
    | none => ds)
def bareG (t : Nat) (pol : Bool) : List PG → List PG
  | [] => []
  | g :: l => (if isG t pol g.guard then ⟨g.dst, none, g.op⟩ else g) :: bareG t pol l
theorem isG_eq {t : Nat} {pol : Bool} {g : Option (Nat × Bool)} (h : isG t pol g = true) : g = some (t, pol) := by
  cases g with
  | none => cases h
  | some p =>
    obtain ⟨t', b⟩ := p
    simp only [isG, Bool.and_eq_true, beq_iff_eq] at h
    rw [Nat.eq_of_beq_eq_true h.1, h.2]
/-- what is not written stays -/
theorem ops_stay {call : CallF} {ext : ExtF} : ∀ (l : List PG) (s s' : S) (e : PExit), ops call ext l s = some (e, s') → ∀ t, t ∉ dsts l → Fr.at s'.fr t = Fr.at s.fr t
  | [], s, s', e, h, t, _ => by simp only [ops, Option.some.injEq, Prod.mk.injEq] at h; rw [← h.2]
  | g :: l, s, s', e, h, t, ht => by
    have ht' : t ∉ dsts l := fun hm => ht (by unfold dsts at hm ⊢; rw [List.filterMap_cons]; split; exact hm; exact List.mem_cons_of_mem _ hm)
    have hd : ∀ v, Fr.at (Fr.dst s.fr g.dst v) t = Fr.at s.fr t := by
      intro v
      cases hg : g.dst with
      | none => rfl
      | some d => simp only [Fr.dst]; rw [Fr.at_set, if_neg]; intro he; apply ht; unfold dsts; rw [List.filterMap_cons, hg]; simp [he]
    simp only [ops] at h
    split at h
    · cases h
    · rw [ops_stay l _ s' e h t ht', hd]
    · split at h
      · cases h
      · rw [ops_stay l _ s' e h t ht', hd]
      · simp only [Option.some.injEq, Prod.mk.injEq] at h; rw [← h.2]
      · rw [ops_stay l _ s' e h t ht', hd]
theorem ops_bare {call : CallF} {ext : ExtF} {t : Nat} {pol : Bool} : ∀ (l : List PG) (s : S), Fr.at s.fr t = .bool pol → t ∉ dsts l → ops call ext l s = ops call ext (bareG t pol l) s
  | [], _, _, _ => rfl
  | g :: l, s, hs, ht => by
    have ht' : t ∉ dsts l := fun hm => ht (by unfold dsts at hm ⊢; rw [List.filterMap_cons]; split; exact hm; exact List.mem_cons_of_mem _ hm)
    have hd : ∀ v, Fr.at (Fr.dst s.fr g.dst v) t = .bool pol := by
      intro v
      cases hg : g.dst with
      | none => exact hs
      | some d => simp only [Fr.dst]; rw [Fr.at_set, if_neg]; exact hs; intro he; apply ht; unfold dsts; rw [List.filterMap_cons, hg]; simp [he]
    have hw : want s.fr g.guard = want s.fr (if isG t pol g.guard then (⟨g.dst, none, g.op⟩ : PG) else g).guard := by
      split
      · rename_i h; rw [isG_eq h]; simp [want, hs]
      · rfl
    have e1 : (if isG t pol g.guard then (⟨g.dst, none, g.op⟩ : PG) else g).dst = g.dst := by split <;> rfl
    have e2 : (if isG t pol g.guard then (⟨g.dst, none, g.op⟩ : PG) else g).op = g.op := by split <;> rfl
    simp only [bareG, ops, ← hw, e1, e2]
    split
    · rfl
    · exact ops_bare l _ (hd _) ht'
    · split
      · rfl
      · exact ops_bare l _ (hd _) ht'
      · rfl
      · exact ops_bare l _ (hd _) ht'
def offFr : List PG → Fr → Fr
  | [], fr => fr
  | g :: l, fr => offFr l (Fr.dst fr g.dst (.tup []))
theorem offFr_at : ∀ (l : List PG) (fr : Fr) (t : Nat), t ∉ dsts l → Fr.at (offFr l fr) t = Fr.at fr t
  | [], _, _, _ => rfl
  | g :: l, fr, u, hu => by
    have hu' : u ∉ dsts l := fun hm => hu (by unfold dsts at hm ⊢; rw [List.filterMap_cons]; split; exact hm; exact List.mem_cons_of_mem _ hm)
    simp only [offFr]
    rw [offFr_at l _ u hu']
    cases hg : g.dst with
    | none => rfl
    | some d => simp only [Fr.dst]; rw [Fr.at_set, if_neg]; intro he; apply hu; unfold dsts; rw [List.filterMap_cons, hg]; simp [he]
theorem ops_off {call : CallF} {ext : ExtF} {t : Nat} {pol : Bool} : ∀ (l : List PG) (ds : List Nat) (s : S), Fr.at s.fr t = .bool (!pol) → t ∉ dsts l → chainOk t pol l ds = true → (∀ d ∈ ds, Fr.at s.fr d = .tup []) →
    ops call ext l s = some (.normal, { s with fr := offFr l s.fr })
  | [], _, s, _, _, _, _ => rfl
  | g :: l, ds, s, hs, ht, hc, hds => by
    have ht' : t ∉ dsts l := fun hm => ht (by unfold dsts at hm ⊢; rw [List.filterMap_cons]; split; exact hm; exact List.mem_cons_of_mem _ hm)
    simp only [chainOk, Bool.and_eq_true] at hc
    obtain ⟨hc1, hc2⟩ := hc
    have hw : want s.fr g.guard = some false := by
      cases hg : g.guard with
      | none => rw [hg] at hc1; simp [isG] at hc1
      | some p =>
        obtain ⟨t', b⟩ := p
        rw [hg] at hc1
        rw [Bool.or_eq_true] at hc1
        rcases hc1 with h1 | h1
        · have := isG_eq h1
          cases this
          simp only [want, hs]
          cases pol <;> rfl
        · simp only [List.any_eq_true] at h1
          obtain ⟨d, h2, h3⟩ := h1
          have := hds d h2
          rw [← Nat.eq_of_beq_eq_true h3] at this
          simp [want, this]
    have hd : Fr.at (Fr.dst s.fr g.dst (.tup [])) t = .bool (!pol) := by
      cases hg : g.dst with
      | none => exact hs
      | some d => simp only [Fr.dst]; rw [Fr.at_set, if_neg]; exact hs; intro he; apply ht; unfold dsts; rw [List.filterMap_cons, hg]; simp [he]
    have hds' : ∀ d ∈ (match g.dst with
        | some d => d :: ds
        | none => ds), Fr.at (Fr.dst s.fr g.dst (.tup [])) d = .tup [] := by
      intro d hd'
      cases hg : g.dst with
      | none => rw [hg] at hd'; exact hds d hd'
      | some d0 =>
        rw [hg] at hd'
        simp only [Fr.dst]
        rw [Fr.at_set]
        split
        · rfl
        · rcases List.mem_cons.1 hd' with h | h
          · rename_i hne; exact absurd h hne
          · exact hds d h
    simp only [ops, hw, offFr]
    exact ops_off l _ { s with fr := Fr.dst s.fr g.dst (.tup []) } hd ht' hc2 hds'
theorem ops_append {call : CallF} {ext : ExtF} : ∀ (a b : List PG) (s : S), ops call ext (a ++ b) s = match ops call ext a s with
    | some (.normal, s') => ops call ext b s'
    | r => r
  | [], b, s => rfl
  | g :: a, b, s => by
    simp only [List.cons_append, ops]
    split
    · rfl
    · exact ops_append a b _
    · split
      · rfl
      · exact ops_append a b _
      · rfl
      · exact ops_append a b _
theorem WO_chain {l rest : List PG} {t d : Nat} {c pol y : Bool} {op : POp} {x : Nat} (hg : alGet al t = some (.bool c)) (hl : l.drop (guardedLen l) = ⟨some d, none, op⟩ :: rest) (hall : chainOk t pol (l.take (guardedLen l)) [] = true)
    (hdst : (dsts (l.take (guardedLen l))).all (fun d => (alGet al d).isNone) = true)
    (hop : ∀ fr h nx, Fr.at fr t = .bool c → (c = pol → Fr.at fr x = .bool y) → mop fr h nx op = some (.bool (if c = pol then y else !pol), [], 0)) (hm : isM op = true)
    (ht : c = pol → WO E (bareG t pol (l.take (guardedLen l))) al B df fun e al' B' df' => e = .normal ∧ df'.length ≤ df.length ∧ (∀ p ∈ B, p ∈ B') ∧ alGet al' x = some (.bool y))
    (hk : WO E rest ((d, .bool (if c = pol then y else !pol)) :: al) B df K) : WO E l al B df K := by
  intro fr h nx hf hp
  have hdst' : ∀ u v, alGet al u = some v → u ∉ dsts (l.take (guardedLen l)) := by
    intro u v hu hm
    have := List.all_eq_true.1 hdst u hm
    rw [hu] at this; cases this
  have hsplit : l = l.take (guardedLen l) ++ ⟨some d, none, op⟩ :: rest := by rw [← hl, List.take_append_drop]
  have hft := hf t _ hg
  have htn := hdst' t _ hg
  by_cases hc : c = pol
  · subst hc
    obtain ⟨e, fr1, h1, nx1, al1, B1, df1, ⟨N, r⟩, f1, p1, o1, rfl, hdf, hB, hy⟩ := ht rfl fr h nx hf hp
    have hf1 : FrIs al fr1 := fun u v hu => by
      have := ops_stay _ _ _ _ (r N (Nat.le_refl _)) u
      simp only at this
      rw [this, hf u v hu]
      intro hm
      apply hdst' u v hu
      have hb : dsts (bareG t c (l.take (guardedLen l))) = dsts (l.take (guardedLen l)) := by
        generalize l.take (guardedLen l) = gs
        induction gs with
        | nil => rfl
        | cons g gs ih =>
          unfold dsts at ih ⊢
          have e1 : (if isG t c g.guard then (⟨g.dst, none, g.op⟩ : PG) else g).dst = g.dst := by split <;> rfl
          simp only [bareG, List.filterMap_cons, ih, e1]
      rwa [hb] at hm
    have hd1 : df1 = df := (ops_drawn _ _ _ (r N (Nat.le_refl _)) hdf).1
    subst hd1
    have hpB : HP h1 nx1 B := ⟨fun p hp' => p1.get p (hB p hp'), fun p hp' => p1.lt p (hB p hp'), hp.nd⟩
    have hbs : BSub B B1 := ⟨hB, hp.nd⟩
    have hv := hop fr1 h1 nx1 (hf1 t _ hg) fun _ => f1 x _ hy
    obtain ⟨e2, fr2, h2, nx2, al2, B2, df2, ⟨M, r2⟩, f2, p2, o2, k2⟩ := hk _ h1 nx1 (hf1.set d _) hpB
    refine ⟨e2, fr2, h2, nx2, al2, B2, df2, ⟨max N M, fun n hn => ?_⟩, f2, p2, (o1.less hbs).trans o2, k2⟩
    rw [hsplit, ops_append, ops_bare _ _ hft htn, r n (by omega)]
    have h9 : ops (callN E n) E.ext (⟨some d, none, op⟩ :: rest) ⟨fr1, h1, nx1, df1⟩ = ops (callN E n) E.ext rest ⟨Fr.set fr1 d (.bool (if c = c then y else !c)), h1, nx1, df1⟩ := by
      rw [ops]
      show (match opRun (callN E n) E.ext fr1 h1 nx1 op with | none => none | some (.val v h nx) => _ | some (.pan v h nx) => _ | some (.dfr f args) => _) = _
      rw [opRun_isM hm, hv]
      rfl
    exact h9.trans (r2 n (by omega))
  · have hcn : c = !pol := by
      revert hc
      cases c <;> cases pol <;> decide
    have hft' : Fr.at fr t = .bool (!pol) := by rw [hft, hcn]
    have hf1 : FrIs al (offFr (l.take (guardedLen l)) fr) := fun u v hu => by rw [offFr_at _ _ u (hdst' u v hu)]; exact hf u v hu
    have hv := hop _ h nx (hf1 t _ hg) fun h => absurd h hc
    obtain ⟨e2, fr2, h2, nx2, al2, B2, df2, ⟨M, r2⟩, f2⟩ := hk _ h nx (hf1.set d _) hp
    refine ⟨e2, fr2, h2, nx2, al2, B2, df2, ⟨M, fun n hn => ?_⟩, f2⟩
    rw [hsplit, ops_append, ops_off _ [] ⟨fr, h, nx, df⟩ hft' htn hall (fun d hd => by cases hd)]
    simp only [ops, want, opRun_isM hm, hv, Option.map_some, hsets, Nat.add_zero, Fr.dst]
    exact r2 n hn
/-- '&&' -/
theorem WO_and {l rest : List PG} {t d : Nat} {c y : Bool} {x : Nat} (hg : alGet al t = some (.bool c)) (hl : l.drop (guardedLen l) = ⟨some d, none, .pick (.t t) (.t x) (.c (.bool false))⟩ :: rest) (hall : chainOk t true (l.take (guardedLen l)) [] = true)
    (hdst : (dsts (l.take (guardedLen l))).all (fun d => (alGet al d).isNone) = true)
    (ht : c = true → WO E (bareG t true (l.take (guardedLen l))) al B df fun e al' B' df' => e = .normal ∧ df'.length ≤ df.length ∧ (∀ p ∈ B, p ∈ B') ∧ alGet al' x = some (.bool y))
    (hk : WO E rest ((d, .bool (c && y)) :: al) B df K) : WO E l al B df K :=
  WO_chain hg hl hall hdst (fun fr h nx h1 h2 => by
    cases c with
    | true => simp [mop, Opd.get, h1, h2 rfl]
    | false => simp [mop, Opd.get, h1]) rfl ht (by cases c <;> simpa using hk)
/-- '||' -/
theorem WO_or {l rest : List PG} {t d : Nat} {c y : Bool} {x : Nat} (hg : alGet al t = some (.bool c)) (hl : l.drop (guardedLen l) = ⟨some d, none, .pick (.t t) (.c (.bool true)) (.t x)⟩ :: rest) (hall : chainOk t false (l.take (guardedLen l)) [] = true)
    (hdst : (dsts (l.take (guardedLen l))).all (fun d => (alGet al d).isNone) = true)
    (ht : c = false → WO E (bareG t false (l.take (guardedLen l))) al B df fun e al' B' df' => e = .normal ∧ df'.length ≤ df.length ∧ (∀ p ∈ B, p ∈ B') ∧ alGet al' x = some (.bool y))
    (hk : WO E rest ((d, .bool (c || y)) :: al) B df K) : WO E l al B df K :=
  WO_chain hg hl hall hdst (fun fr h nx h1 h2 => by
    cases c with
    | true => simp [mop, Opd.get, h1]
    | false => simp [mop, Opd.get, h1, h2 rfl]) rfl ht (by cases c <;> simpa using hk)
end Hp
end
section
namespace Hp
open Go
variable {E : Env} {al : AL} {B : BL} {df : DF} {K : PExit → AL → BL → DF → Prop} {Kv : PV → BL → Prop}
/-- operations whose value the frame alone tells -/
def pureV (al : AL) : POp → Option PV
  | .mv x => opdGet al x
  | .pick c a b => match opdGet al c, opdGet al a, opdGet al b with
    | some (.bool t), some (.bool p), some (.bool q) => some (.bool (if t then p else q))
    | some (.bool t), some u, some v => some (if t then u else v)
    | _, _, _ => none
  | .bin op x y => match opdGet al x, opdGet al y with
    | some u, some v => pbin op u v
    | _, _ => none
  | .eq k n x y => match opdGet al x, opdGet al y with
    | some u, some v => match peq k u v with
      | some b => some (.bool (if n then !b else b))
      | none => none
    | _, _ => none
  | .un op x => match opdGet al x with
    | some u => pun op u
    | none => none
  | .conv k x => match opdGet al x with
    | some (.int _ n) => some (.int k (k.wrap n))
    | _ => none
  | .faddr off x => match opdGet al x with
    | some (.mptr id ix o) => some (.mptr id ix (o + off))
    | some (.iptr cs) => some (.iptr (cs.drop off))
    | _ => none
  | .nilCheck x => match opdGet al x with
    | some (.mptr a b c) => some (.mptr a b c)
    | some (.iptr c) => some (.iptr c)
    | _ => none
  | .load k ag x => match opdGet al x with
    | some (.iptr cs) => ldCells k ag cs
    | _ => none
  | .ext x i => match opdGet al x with
    | some (.tup vs) => if i < 1000000 then vs[i]? else none
    | some (.agg cs) => if i < 1000000 then none else fieldOf cs ((i - 1000000) / 2000) ((i - 1000000) / 2 % 1000) (i % 2)
    | _ => none
  | .mkfn f a b => match opdGets al a, opdGets al b with
    | some a, some b => some (.fn f a b)
    | _, _ => none
  | .mkifc t x => match opdGet al x with
    | some v => some (.ifc t v)
    | none => none
  | .len k x => match k, opdGet al x with
    | 0, some (.str s) => some (.int .i64 s.size)
    | 1, some (.isl _ _ es) => some (.int .i64 es.length)
    | 1, some (.msl _ _ n _) => some (.int .i64 n)
    | 2, some .nilm => some (.int .i64 (0 : Nat))
    | _, _ => none
  | .clen n => some (.int .i64 n)
  | .maxi x y => match opdGet al x, opdGet al y with
    | some (.int k a), some (.int _ b) => some (.int k (if b > a then b else a))
    | _, _ => none
  | .mini x y => match opdGet al x, opdGet al y with
    | some (.int k a), some (.int _ b) => some (.int k (if b < a then b else a))
    | _, _ => none
  | .build z ps => match opdGets al (ps.map (·.2.2)) with
    | some l => match fillCells z ((ps.map (·.1)).zip ((ps.map (·.2.1)).zip l)) with
      | some r => some (.agg r)
      | none => none
    | none => none
  | _ => none
theorem o_v {op : POp} {v : PV} (hv : pureV al op = some v) (hk : Kv v B) : OpW E op al B Kv := by
  cases op <;> simp only [pureV] at hv <;> try (cases hv; done)
  case mv => exact o_mv hv hk
  case pick c a b =>
    split at hv
    · rename_i h1 h2 h3; cases hv; exact o_pick_bool h1 h2 h3 hk
    · rename_i h1 h2 h3; cases hv; exact o_pick h1 h2 h3 hk
    · cases hv
  case bin =>
    split at hv
    · rename_i h1 h2; exact o_bin h1 h2 hv hk
    · cases hv
  case eq k n x y =>
    split at hv
    · rename_i h1 h2
      split at hv
      · rename_i h3
        cases hv
        cases n
        · exact o_eq h1 h2 h3 hk
        · exact o_ne h1 h2 h3 hk
      · cases hv
    · cases hv
  case un =>
    split at hv
    · rename_i h1; exact o_un h1 hv hk
    · cases hv
  case conv =>
    split at hv
    · rename_i h1; cases hv; exact o_conv h1 hk
    · cases hv
  case faddr =>
    split at hv
    · rename_i h1; cases hv; exact o_faddrm h1 hk
    · rename_i h1; cases hv; exact o_faddr h1 hk
    · cases hv
  case nilCheck =>
    split at hv
    · rename_i h1; cases hv; exact o_nilCheckm h1 hk
    · rename_i h1; cases hv; exact o_nilCheck h1 hk
    · cases hv
  case load =>
    split at hv
    · rename_i h1; exact o_load h1 hv hk
    · cases hv
  case ext x i =>
    split at hv
    · rename_i h1
      split at hv
      · rename_i h2; exact o_ext h1 h2 hv hk
      · cases hv
    · rename_i h1
      split at hv
      · cases hv
      · rename_i h2; exact o_field h1 (Nat.not_lt.1 h2) hv hk
    · cases hv
  case mkfn =>
    split at hv
    · rename_i h1 h2; cases hv; exact o_mkfn h1 h2 hk
    · cases hv
  case mkifc =>
    split at hv
    · rename_i h1; cases hv; exact o_mkifc h1 hk
    · cases hv
  case len =>
    split at hv
    · rename_i h1; cases hv; exact o_len_str h1 hk
    · rename_i h1; cases hv; exact o_len h1 hk
    · rename_i h1; cases hv; exact o_lenm h1 hk
    · rename_i h1; cases hv; exact o_len_nilm h1 hk
    · cases hv
  case clen => cases hv; exact o_clen hk
  case maxi =>
    split at hv
    · rename_i h1 h2; cases hv; exact o_maxi h1 h2 hk
    · cases hv
  case mini =>
    split at hv
    · rename_i h1 h2; cases hv; exact o_mini h1 h2 hk
    · cases hv
  case build z ps =>
    split at hv
    · rename_i h1
      split at hv
      · rename_i h2; cases hv; exact o_build h1 h2 hk
      · cases hv
    · cases hv
/-- a sum that stays in its kind -/
theorem o_add {x y : Opd} {a b : Int} (hx : opdGet al x = some (.int .i64 a)) (hy : opdGet al y = some (.int .i64 b)) (h : IntKind.i64.wrap (a + b) = a + b) (hk : Kv (.int .i64 (a + b)) B) : OpW E (.bin .add x y) al B Kv :=
  o_bin hx hy (by simp [pbin, h]) hk
theorem o_sub {x y : Opd} {a b : Int} (hx : opdGet al x = some (.int .i64 a)) (hy : opdGet al y = some (.int .i64 b)) (h : IntKind.i64.wrap (a - b) = a - b) (hk : Kv (.int .i64 (a - b)) B) : OpW E (.bin .sub x y) al B Kv :=
  o_bin hx hy (by simp [pbin, h]) hk
theorem o_mul {x y : Opd} {a b : Int} (hx : opdGet al x = some (.int .i64 a)) (hy : opdGet al y = some (.int .i64 b)) (h : IntKind.i64.wrap (a * b) = a * b) (hk : Kv (.int .i64 (a * b)) B) : OpW E (.bin .mul x y) al B Kv :=
  o_bin hx hy (by simp [pbin, h]) hk
theorem wrap_i64 {n : Int} (h1 : -9223372036854775808 ≤ n) (h2 : n ≤ 9223372036854775807) : IntKind.i64.wrap n = n := by
  simp only [IntKind.wrap, IntKind.bits, IntKind.signed]
  simp
  omega
theorem Rf_eq {n : Nat} {v r : PV} (h : v = r) (hi : imm r = true) : Rf B n v r [] := by subst h; exact .imm hi
theorem o_shr {x y : Opd} {k k' : IntKind} {a b : Int} (hx : opdGet al x = some (.int k a)) (hy : opdGet al y = some (.int k' b)) (h : 0 ≤ b) (hk : Kv (.int k (a.fdiv (2 ^ (min b.toNat k.bits)))) B) : OpW E (.bin .shr x y) al B Kv :=
  o_bin hx hy (by simp [pbin, Int.not_lt.2 h]) hk
theorem o_shl {x y : Opd} {k k' : IntKind} {a b : Int} (hx : opdGet al x = some (.int k a)) (hy : opdGet al y = some (.int k' b)) (h : 0 ≤ b) (hk : Kv (.int k (k.wrap (a * 2 ^ (min b.toNat k.bits)))) B) : OpW E (.bin .shl x y) al B Kv :=
  o_bin hx hy (by simp [pbin, Int.not_lt.2 h]) hk
theorem o_quo {x y : Opd} {k : IntKind} {a b : Int} (hx : opdGet al x = some (.int k a)) (hy : opdGet al y = some (.int k b)) (h : b ≠ 0) (hk : Kv (.int k (k.wrap (a.tdiv b))) B) : OpW E (.bin .quo x y) al B Kv :=
  o_bin hx hy (by simp [pbin, h]) hk
theorem o_rem {x y : Opd} {k : IntKind} {a b : Int} (hx : opdGet al x = some (.int k a)) (hy : opdGet al y = some (.int k b)) (h : b ≠ 0) (hk : Kv (.int k (a.tmod b)) B) : OpW E (.bin .rem x y) al B Kv :=
  o_bin hx hy (by simp [pbin, h]) hk
/-- the whole of what lies in a box -/
theorem o_loadw {k : Nat} {x : Opd} {i ix sz : Nat} {fz : Bool} {es : List PV} {e : PV} (hx : opdGet al x = some (.mptr i ix 0)) (hb : (i, (⟨fz, .arr sz es⟩ : HO)) ∈ B) (he : es[ix]? = some e) (ha : isAgg e = true) (hl : e.cells.length = k) (hk : Kv e B) : OpW E (.load k true x) al B Kv := by
  refine o_loadm hx hb he ?_ hk
  cases e with
  | agg cs => simp only [PV.cells] at hl; simp [ldCells, PV.cells, hl]; exact List.take_of_length_le (by omega)
  | _ => simp [isAgg] at ha
/-- the whole of an element -/
theorem o_loadp {k : Nat} {x : Opd} {e : PV} (hx : opdGet al x = some (.iptr e.cells)) (ha : isAgg e = true) (hl : e.cells.length = k) (hk : Kv e B) : OpW E (.load k true x) al B Kv := by
  refine o_load hx ?_ hk
  cases e with
  | agg cs => simp only [PV.cells] at hl; simp [ldCells, PV.cells, hl]; exact List.take_of_length_le (by omega)
  | _ => simp [isAgg] at ha
theorem natOf_cast (k : IntKind) (i : Nat) : natOf (.int k i) = some i := by simp [natOf]
theorem o_iaddrn {sz i : Nat} {x y : Opd} {fu : Bool} {sz' : Nat} {es : List PV} {e : PV} (hx : opdGet al x = some (.isl fu sz' es)) (hy : opdGet al y = some (.int .i64 (i : Nat))) (he : es[i]? = some e) (hs : sz = sz') (hk : Kv (.iptr e.cells) B) : OpW E (.iaddr sz x y) al B Kv :=
  o_iaddr hx hy (natOf_cast ..) he hs hk
/-- the whole of a box stored anew -/
theorem o_storew {k : Nat} {a x : Opd} {i sz : Nat} {e v : PV} {B' : BL} (ha : opdGet al a = some (.mptr i 0 0)) (hx : opdGet al x = some v) (hu : Upd B i ⟨false, .arr sz [e]⟩ ⟨false, .arr sz [v]⟩ B') (hv : okv v = true) (hl : v.cells.length = k) (hl2 : e.cells.length = k) (hag : isAgg e = isAgg v) (hk : Kv (.tup []) B') : OpW E (.store k a x) al B Kv := by
  refine o_store (es := [e]) (e := e) (e' := v) ha hx hu rfl hv hl ?_ hk
  cases e with
  | agg cs =>
    cases v with
    | agg vs =>
      simp only [PV.cells] at hl hl2
      simp only [putCells, PV.cells, Nat.zero_add, List.take_zero, List.nil_append]
      rw [if_pos (by omega), List.drop_eq_nil_of_le (by omega), List.append_nil]
    | _ => simp [isAgg] at hag
  | _ =>
    cases v with
    | agg vs => simp [isAgg] at hag
    | _ => simp [putCells, PV.cells, isAgg]
end Hp
end
section
namespace Hp
open Go
variable {E : Env} {al : AL} {B : BL} {df : DF} {K : PExit → AL → BL → DF → Prop}
structure T3 where
  t : Option (List Nat)
  d : Option (List Nat)
  f : Option (List Nat)
def T3.no : T3 := ⟨some [], some [], some []⟩
def T3.any : T3 := ⟨none, none, none⟩
def T3.clash (a b : T3) : Bool := clashes a.d b.t || clashes b.d a.t || clashes a.d b.d || clashes a.d b.f || clashes b.d a.f
def SubO (a b : Option (List Nat)) : Prop := ∀ l, b = some l → ∃ l', a = some l' ∧ ∀ x ∈ l', x ∈ l
structure TLe (a : Touch) (b : T3) : Prop where
  t : SubO a.t b.t
  d : SubO a.d b.d
  f : SubO (some a.f) b.f
theorem clashesU_some {a b : List Nat} : clashes (some a) (some b) = a.any b.contains := by
  cases a with
  | nil => rfl
  | cons x a => cases b with
    | nil => simp [clashes]
    | cons y b => rfl
theorem clashes_le {a a' b b' : Option (List Nat)} (ha : SubO a a') (hb : SubO b b') (h : clashes a' b' = false) : clashes a b = false := by
  cases a' with
  | none =>
    cases b' with
    | none => simp [clashes] at h
    | some l =>
      cases l with
      | cons => simp [clashes] at h
      | nil =>
        obtain ⟨l', rfl, hl⟩ := hb [] rfl
        cases l' with
        | nil => cases a with
          | none => rfl
          | some l => cases l <;> rfl
        | cons x l' => exact absurd (hl x (by simp)) (by simp)
  | some l =>
    obtain ⟨l', rfl, hl⟩ := ha l rfl
    cases b' with
    | none =>
      cases l with
      | cons => simp [clashes] at h
      | nil => cases l' with
        | nil => cases b with
          | none => rfl
          | some l => rfl
        | cons x l' => exact absurd (hl x (by simp)) (by simp)
    | some m =>
      obtain ⟨m', rfl, hm⟩ := hb m rfl
      rw [clashesU_some] at h ⊢
      rw [List.any_eq_false] at h ⊢
      intro x hx hc
      exact h x (hl x hx) (by simpa using hm x (by simpa using hc))
theorem clash_le {a b : Touch} {a' b' : T3} (ha : TLe a a') (hb : TLe b b') (h : a'.clash b' = false) : a.clash b = false := by
  simp only [T3.clash, Bool.or_eq_false_iff] at h
  simp only [Touch.clash, Bool.or_eq_false_iff]
  exact ⟨⟨⟨⟨clashes_le ha.d hb.t h.1.1.1.1, clashes_le hb.d ha.t h.1.1.1.2⟩, clashes_le ha.d hb.d h.1.1.2⟩, clashes_le ha.d hb.f h.1.2⟩, clashes_le hb.d ha.f h.2⟩
/-- operations that change nothing: what they touch -/
def qOf : POp → Option (Option Opd)
  | .mv _ | .pick .. | .build .. | .nilCheck _ | .bin .. | .eq .. | .un .. | .conv .. | .faddr .. | .aaddr .. | .sidx .. | .ssub .. | .ext .. | .mkfn .. | .mkifc .. | .clen _ | .maxi .. | .mini .. => some none
  | .load _ _ a => some (some a)
  | .iaddr _ x _ => some (some x)
  | .slice _ x _ _ _ => some (some x)
  | .look _ _ _ m _ => some (some m)
  | .len _ x => some (some x)
  | _ => none
theorem q_none {op : POp} {fr : Fr} (h : qOf op = some none) : tch fr op = [] := by
  cases op <;> first | rfl | (simp [qOf] at h; done)
theorem q_some {op : POp} {fr : Fr} {x : Opd} (h : qOf op = some (some x)) : tch fr op = idOf (x.get fr) := by
  cases op <;> first | (simp [qOf] at h; done) | (simp only [qOf, Option.some.injEq] at h; subst h; rfl)
theorem MRv_ups {x : Option PV} {r : PV × List (Nat × Option PObj) × Nat} (h : MR.v x = some r) : r.2.1 = [] := by
  cases x with
  | none => cases h
  | some v => cases h; rfl
theorem q_ups {op : POp} {fr : Fr} {h : Heap} {nx : Nat} {q : Option Opd} {r : PV × List (Nat × Option PObj) × Nat} (hq : qOf op = some q) (hm : mop fr h nx op = some r) : r.2.1 = [] := by
  cases op <;> first
    | (simp [qOf] at hq; done)
    | exact MRv_ups hm
    | (simp only [mop] at hm
       (repeat' split at hm) <;> first | (cases hm; done) | (cases hm; rfl) | exact MRv_ups hm)
theorem q_touch {op : POp} {fr : Fr} {h : Heap} {nx nx' : Nat} {q : Option Opd} {call : CallF} {ext : ExtF} {out : OpOut} (hq : qOf op = some q) (ho : opRun call ext fr h nx op = some out) : touchOf fr h nx nx' op = ⟨some (tch fr op), some [], []⟩ := by
  have hm : ∃ r, mop fr h nx op = some r := by
    cases hm : mop fr h nx op with
    | some r => exact ⟨r, rfl⟩
    | none => cases op <;> first | (simp [qOf] at hq; done) | (simp [opRun, hm] at ho; done)
  obtain ⟨r, hm⟩ := hm
  have hu := q_ups hq hm
  cases op <;> first | (simp [qOf] at hq; done) | (simp only [touchOf, hm, Option.map_some, hu, List.map_nil])
/-- operations that make one new thing -/
def newOp : POp → Bool
  | .alloc _ | .box .. | .lits .. | .mkmap | .mkslice .. => true
  | _ => false
theorem new_touch {op : POp} {fr : Fr} {h : Heap} {nx nx' : Nat} {call : CallF} {ext : ExtF} {v : PV} {h' : Heap} (hn : newOp op = true) (ho : opRun call ext fr h nx op = some (.val v h' nx')) : touchOf fr h nx nx' op = ⟨some [], some (idOf v), []⟩ := by
  have hm : ∃ r, mop fr h nx op = some r ∧ v = r.1 := by
    cases hm : mop fr h nx op with
    | some r => cases op <;> first | (simp [newOp] at hn; done) | (simp only [opRun, hm, Option.map_some, Option.some.injEq, OpOut.val.injEq] at ho; exact ⟨r, rfl, ho.1.symm⟩)
    | none => cases op <;> first | (simp [newOp] at hn; done) | (simp [opRun, hm] at ho; done)
  obtain ⟨r, hm, rfl⟩ := hm
  have hu : some (r.2.1.map (·.1)) = some (idOf r.1) ∧ tch fr op = [] := by
    cases op <;> first
      | (simp [newOp] at hn; done)
      | (simp only [mop] at hm
         refine ⟨?_, rfl⟩
         (repeat' split at hm) <;> first | (cases hm; done) | (cases hm; rfl))
  cases op <;> first | (simp [newOp] at hn; done) | (simp only [touchOf, hm, Option.map_some, hu.1, hu.2])
def uses : POp → List Opd
  | .load _ _ a => [a]
  | .iaddr _ x _ => [x]
  | .slice _ x _ _ _ => [x]
  | .look _ _ _ m _ => [m]
  | .len _ x => [x]
  | .call _ _ args => args
  | .store _ a _ => [a]
  | _ => []
/-- what an operation touches, told by what is known at the end -/
def tAL (al : AL) (g : PG) : T3 :=
  match g.guard with
  | some (t, b) => match alGet al t with
    | some (.bool c) => if c == b then run else T3.no
    | _ => T3.any
  | none => run
 where run : T3 :=
  match qOf g.op with
  | some none => T3.no
  | some (some x) => ⟨(opdGet al x).map idOf, some [], some []⟩
  | none => match newOp g.op, g.dst with
    | true, some d => ⟨some [], (alGet al d).map idOf, some []⟩
    | _, d => match g.op with
      | .call .own _ args => match opdGets al args, d with
        | some vs, some d => if immL vs then ⟨some [], (alGet al d).map idOf, some []⟩ else T3.any
        | _, _ => T3.any
      | .call .iso _ args | .call .ext _ args => match opdGets al args with
        | some vs => if immL vs then T3.no else ⟨none, some [], none⟩
        | none => ⟨none, some [], none⟩
      | .store _ a _ => ⟨(opdGet al a).map idOf, (opdGet al a).map idOf, some []⟩
      | _ => T3.any
def apartAL (al : AL) (l : List PG) : List (Nat × Nat) → Bool
  | [] => true
  | (i, j) :: r => (match l[i]?, l[j]? with
    | some a, some b => !(tAL al a).clash (tAL al b)
    | _, _ => false) && apartAL al l r
def dstsU (l : List PG) : List Nat := l.filterMap (·.dst)
def opdTmp : Opd → List Nat
  | .t t => [t]
  | .c _ => []
/-- nothing that an operation uses or gives is given again behind it -/
def once : List PG → Bool
  | [] => true
  | g :: l => ((g.dst.toList ++ (match g.guard with | some (t, _) => [t] | none => []) ++ (uses g.op).flatMap opdTmp).all fun t => !(dstsU l).contains t) && (match g.dst with | some d => !(((match g.guard with | some (t, _) => [t] | none => []) ++ (uses g.op).flatMap opdTmp).contains d) | none => true) && once l
theorem Fr.dst_at {fr : Fr} {d : Option Nat} {v : PV} {t : Nat} (h : d ≠ some t) : Fr.at (Fr.dst fr d v) t = Fr.at fr t := by
  cases d with
  | none => rfl
  | some d => simp only [Fr.dst]; rw [Fr.at_set, if_neg (fun e => h (by rw [e]))]
theorem drawn_keep {call : CallF} {ext : ExtF} : ∀ {l : List PG} {fr : Fr} {h : Heap} {nx : Nat} {fr' : Fr} {h' : Heap} {nx' : Nat} {ts : List Touch} {t : Nat}, drawn call ext l fr h nx = some (fr', h', nx', ts) → t ∉ dstsU l → Fr.at fr' t = Fr.at fr t
  | [], _, _, _, _, _, _, _, _, hd, _ => by simp only [drawn, Option.some.injEq, Prod.mk.injEq] at hd; rw [hd.1]
  | g :: l, fr, h, nx, fr', h', nx', ts, t, hd, ht => by
    have h1 : g.dst ≠ some t := fun e => ht (by simp [dstsU, e])
    have h2 : t ∉ dstsU l := fun e => ht (by simp only [dstsU, List.mem_filterMap, List.mem_cons] at e ⊢; obtain ⟨a, h3, h4⟩ := e; exact ⟨a, .inr h3, h4⟩)
    simp only [drawn] at hd
    split at hd
    case h_2 => cases hd
    rename_i fr1 h1' nx1 t1 ho
    split at hd
    case h_2 => cases hd
    rename_i fr2 h2' nx2 ts2 hd2
    simp only [Option.some.injEq, Prod.mk.injEq] at hd
    rw [← hd.1, drawn_keep hd2 h2]
    unfold one at ho
    split at ho
    · cases ho
    · simp only [Option.some.injEq, Prod.mk.injEq] at ho; rw [← ho.1]; exact Fr.dst_at h1
    · split at ho
      · simp only [Option.some.injEq, Prod.mk.injEq] at ho; rw [← ho.1]; exact Fr.dst_at h1
      · cases ho
theorem opd_same {al : AL} {fr fr' : Fr} {x : Opd} {v : PV} (hf : FrIs al fr') (hx : opdGet al x = some v) (hs : ∀ t ∈ opdTmp x, Fr.at fr' t = Fr.at fr t) : x.get fr = v := by
  cases x with
  | c u => cases hx; rfl
  | t t => rw [← hf t v hx, hs t (by simp [opdTmp])]; rfl
theorem opds_same {al : AL} {fr fr' : Fr} (hf : FrIs al fr') : ∀ {xs : List Opd} {vs : List PV}, opdGets al xs = some vs → (∀ t ∈ xs.flatMap opdTmp, Fr.at fr' t = Fr.at fr t) → xs.map (·.get fr) = vs
  | [], vs, h, _ => by cases h; rfl
  | x :: xs, vs, h, hs => by
    simp only [opdGets] at h
    split at h
    case h_2 => cases h
    rename_i v us h1 h2
    cases h
    simp only [List.map_cons]
    rw [opd_same hf h1 (fun t ht => hs t (by simp [ht])), opds_same hf h2 (fun t ht => hs t (by simp only [List.flatMap_cons, List.mem_append]; exact .inr ht))]
theorem SubO.refl (l : List Nat) : SubO (some l) (some l) := fun m h => ⟨l, rfl, fun x hx => by cases h; exact hx⟩
theorem SubO.none {a : Option (List Nat)} : SubO a none := fun m h => by cases h
theorem SubO.nil (b : Option (List Nat)) : SubO (some []) b := fun m h => ⟨[], rfl, fun x hx => by cases hx⟩
theorem SubO.of {a : List Nat} {b : Option (List Nat)} (h : ∀ l, b = some l → a = l) : SubO (some a) b := fun l hl => ⟨a, rfl, fun x hx => by rw [← h l hl]; exact hx⟩
theorem TLe.any (t : Touch) : TLe t T3.any := ⟨.none, .none, .none⟩
theorem touch_le {call : CallF} {ext : ExtF} {g : PG} {fr fr' : Fr} {h : Heap} {nx : Nat} {fr1 : Fr} {h1 : Heap} {nx1 : Nat} {t1 : Touch} (ho : one call ext g nx fr h = some (fr1, h1, nx1, t1)) (hf : FrIs al fr')
    (hg : ∀ t b, g.guard = some (t, b) → Fr.at fr' t = Fr.at fr t) (hu : ∀ t ∈ (uses g.op).flatMap opdTmp, Fr.at fr' t = Fr.at fr t) (hd : ∀ d, g.dst = some d → Fr.at fr' d = Fr.at fr1 d) : TLe t1 (tAL al g) := by
  have hrun : ∀ v, opRun call ext fr h nx g.op = some (.val v h1 nx1) → fr1 = Fr.dst fr g.dst v → TLe (touchOf fr h nx nx1 g.op) (tAL.run al g) := by
    intro v hop hfr
    unfold tAL.run
    split
    · rename_i hq
      rw [q_touch hq hop, q_none hq]
      exact ⟨.refl _, .refl _, .refl _⟩
    · rename_i x hq
      rw [q_touch hq hop, q_some hq]
      refine ⟨.of fun l hl => ?_, .refl _, .refl _⟩
      obtain ⟨u, hu1, rfl⟩ := Option.map_eq_some_iff.1 hl
      rw [opd_same hf hu1 fun t ht => hu t ?_]
      have : uses g.op = [x] := by
        generalize g.op = op at hq
        cases op <;> first | (simp [qOf] at hq; done) | (simp only [qOf, Option.some.injEq] at hq; subst hq; rfl)
      rw [this]; simpa using ht
    · split
      · rename_i d hn hdst
        rw [new_touch hn hop]
        refine ⟨.refl _, .of fun l hl => ?_, .refl _⟩
        obtain ⟨u, hu1, rfl⟩ := Option.map_eq_some_iff.1 hl
        have : Fr.at fr1 d = u := by rw [← hd d hdst]; exact hf d u hu1
        rw [hfr, hdst] at this
        simp only [Fr.dst] at this
        rw [Fr.at_set, if_pos rfl] at this
        rw [this]
      · split
        · rename_i f args hop2
          split
          · rename_i vs d hv hdst
            split
            · rename_i hi
              have hargs : args.map (·.get fr) = vs := opds_same hf hv (fun t ht => hu t (by rw [hop2]; exact ht))
              rw [hop2] at hop ⊢
              simp only [touchOf, callTouch, hargs, leadL_imm hi]
              refine ⟨.refl _, .of fun l hl => ?_, .refl _⟩
              obtain ⟨u, hu1, rfl⟩ := Option.map_eq_some_iff.1 hl
              simp only [opRun, callRun, Option.map_eq_some_iff] at hop
              obtain ⟨⟨sz, es⟩, _, hop⟩ := hop
              simp only [OpOut.val.injEq] at hop
              obtain ⟨rfl, _, _⟩ := hop
              have : Fr.at fr1 d = u := by rw [← hd d hdst]; exact hf d u hu1
              rw [hfr, hdst] at this
              simp only [Fr.dst] at this
              rw [Fr.at_set, if_pos rfl] at this
              rw [← this]; rfl
            · exact .any _
          · exact .any _
        · rename_i f args hop2
          split
          · rename_i vs hv
            have hargs : args.map (·.get fr) = vs := opds_same hf hv (fun t ht => hu t (by rw [hop2]; exact ht))
            split
            · rename_i hi
              rw [hop2]
              simp only [touchOf, callTouch, hargs, leadL_imm hi]
              exact ⟨.refl _, .refl _, .refl _⟩
            · rw [hop2]; exact ⟨.none, .refl _, .none⟩
          · rw [hop2]; exact ⟨.none, .refl _, .none⟩
        · rename_i f args hop2
          split
          · rename_i vs hv
            have hargs : args.map (·.get fr) = vs := opds_same hf hv (fun t ht => hu t (by rw [hop2]; exact ht))
            split
            · rename_i hi
              rw [hop2]
              simp only [touchOf, callTouch, hargs, leadL_imm hi]
              exact ⟨.refl _, .refl _, .refl _⟩
            · rw [hop2]; exact ⟨.none, .refl _, .none⟩
          · rw [hop2]; exact ⟨.none, .refl _, .none⟩
        · rename_i k a x hop2
          rw [hop2] at hop ⊢
          have hm : ∃ id ix off, a.get fr = .mptr id ix off ∧ ∃ r, mop fr h nx (.store k a x) = some r ∧ r.2.1.map (·.1) = [id] := by
            cases hm : mop fr h nx (.store k a x) with
            | none => simp [opRun, hm] at hop
            | some r =>
              have hm0 := hm
              simp only [mop] at hm
              split at hm
              case h_2 => cases hm
              rename_i id ix off ha
              refine ⟨id, ix, off, ha, r, rfl, ?_⟩
              (repeat' split at hm) <;> first | (cases hm; done) | (cases hm; rfl)
          obtain ⟨id, ix, off, ha, r, hm, hups⟩ := hm
          simp only [touchOf, hm, Option.map_some, hups, tch, ha, idOf]
          have key : ∀ l, Option.map idOf (opdGet al a) = some l → [id] = l := by
            intro l hl
            obtain ⟨u, hu1, rfl⟩ := Option.map_eq_some_iff.1 hl
            have : a.get fr = u := opd_same hf hu1 (fun t ht => hu t (by rw [hop2]; simpa [uses] using ht))
            rw [← this, ha]; rfl
          exact ⟨.of key, .of key, .refl _⟩
        · exact .any _
  unfold one at ho
  split at ho
  · cases ho
  · rename_i hw
    simp only [Option.some.injEq, Prod.mk.injEq] at ho
    obtain ⟨_, _, _, rfl⟩ := ho
    exact ⟨.nil _, .nil _, .nil _⟩
  · rename_i hw
    split at ho
    case h_2 => cases ho
    rename_i v h2 nx2 hop
    simp only [Option.some.injEq, Prod.mk.injEq] at ho
    obtain ⟨rfl, rfl, rfl, rfl⟩ := ho
    have hr := hrun v hop rfl
    unfold tAL
    split
    · rename_i t b hgd
      split
      · rename_i c hc
        have : Fr.at fr t = .bool c := by rw [← hg t b hgd]; exact hf t _ hc
        rw [hgd] at hw
        simp only [want, this, Option.some.injEq] at hw
        rw [if_pos hw]; exact hr
      · exact .any _
    · exact hr
theorem drawn_touch {call : CallF} {ext : ExtF} : ∀ {l : List PG} {fr : Fr} {h : Heap} {nx : Nat} {fr' : Fr} {h' : Heap} {nx' : Nat} {ts : List Touch}, drawn call ext l fr h nx = some (fr', h', nx', ts) → once l = true → FrIs al fr' →
    ts.length = l.length ∧ ∀ (i : Nat) (g : PG) (t : Touch), l[i]? = some g → ts[i]? = some t → TLe t (tAL al g)
  | [], _, _, _, _, _, _, _, hd, _, _ => by
    simp only [drawn, Option.some.injEq, Prod.mk.injEq] at hd
    rw [← hd.2.2.2]; exact ⟨rfl, fun i g t h => by simp at h⟩
  | g :: l, fr, h, nx, fr', h', nx', ts, hd, ho, hf => by
    simp only [once, Bool.and_eq_true] at ho
    obtain ⟨⟨ho1, ho0⟩, ho2⟩ := ho
    simp only [drawn] at hd
    split at hd
    case h_2 => cases hd
    rename_i fr1 h1' nx1 t1 h1
    split at hd
    case h_2 => cases hd
    rename_i fr2 h2' nx2 ts2 hd2
    simp only [Option.some.injEq, Prod.mk.injEq] at hd
    obtain ⟨rfl, rfl, rfl, rfl⟩ := hd
    obtain ⟨i1, i2⟩ := drawn_touch hd2 ho2 hf
    refine ⟨by simp [i1], fun i g' t hg ht => ?_⟩
    cases i with
    | succ i => exact i2 i g' t (by simpa using hg) (by simpa using ht)
    | zero =>
      simp only [List.getElem?_cons_zero, Option.some.injEq] at hg ht
      subst hg; subst ht
      have keep : ∀ t, t ∈ (g.dst.toList ++ (match g.guard with | some (t, _) => [t] | none => []) ++ (uses g.op).flatMap opdTmp) → Fr.at fr2 t = Fr.at fr1 t := fun t ht => drawn_keep hd2 (by
        have := List.all_eq_true.1 ho1 t ht
        simpa using this)
      have step : ∀ t, t ∈ ((match g.guard with | some (t, _) => [t] | none => []) ++ (uses g.op).flatMap opdTmp) → Fr.at fr1 t = Fr.at fr t := by
        intro t ht
        have hne : g.dst ≠ some t := by
          intro e
          rw [e] at ho0
          simp only [Bool.not_eq_true', List.contains_eq_mem, decide_eq_false_iff_not] at ho0
          exact ho0 ht
        unfold one at h1
        split at h1
        · cases h1
        · simp only [Option.some.injEq, Prod.mk.injEq] at h1; rw [← h1.1]; exact Fr.dst_at hne
        · split at h1
          · simp only [Option.some.injEq, Prod.mk.injEq] at h1; rw [← h1.1]; exact Fr.dst_at hne
          · cases h1
      refine touch_le h1 hf (fun t b hgd => ?_) (fun t ht => ?_) fun d hdst => ?_
      · rw [keep t (by rw [hgd]; simp), step t (by rw [hgd]; simp)]
      · rw [keep t (by simp only [List.mem_append]; exact .inr ht), step t (by simp only [List.mem_append]; exact .inr ht)]
      · exact keep d (by rw [hdst]; simp)
theorem apart_of {ts : List Touch} {l : List PG} (hlen : ts.length = l.length) (ht : ∀ (i : Nat) (g : PG) (t : Touch), l[i]? = some g → ts[i]? = some t → TLe t (tAL al g)) : ∀ {un : List (Nat × Nat)}, apartAL al l un = true → apart ts un = true
  | [], _ => rfl
  | (i, j) :: un, h => by
    simp only [apartAL, Bool.and_eq_true] at h
    obtain ⟨h1, h2⟩ := h
    simp only [apart, Bool.and_eq_true]
    refine ⟨?_, apart_of hlen ht h2⟩
    split at h1
    case h_2 => cases h1
    rename_i a b ha hb
    have hai := (List.getElem?_eq_some_iff.1 ha).1
    have hbi := (List.getElem?_eq_some_iff.1 hb).1
    have e1 : ts[i]? = some (ts[i]'(by omega)) := List.getElem?_eq_getElem (by omega)
    have e2 : ts[j]? = some (ts[j]'(by omega)) := List.getElem?_eq_getElem (by omega)
    rw [e1, e2]
    simp only [Bool.not_eq_true'] at h1 ⊢
    exact clash_le (ht i a _ ha e1) (ht j b _ hb e2) h1
def drawKU (l : List PG) (un : List (Nat × Nat)) (df : DF) (K : PExit → AL → BL → DF → Prop) : PExit → AL → BL → DF → Prop :=
  fun e al B df' => e = .normal ∧ df'.length ≤ df.length ∧ ((keys B).Nodup → apartAL al l un = true) ∧ K .normal al B df
theorem W_drawU {l : List PG} {un : List (Nat × Nat)} (ho : once l = true) (hk : WO E l al B df (drawKU l un df K)) : WC E (.draw un l) al B df K := by
  intro fr h nx hf hp
  obtain ⟨e, fr1, h1, nx1, al1, B1, df1, ⟨N, r⟩, f1, p1, o1, rfl, hd, hap, k1⟩ := hk fr h nx hf hp
  have hdf : df1 = df := (ops_drawn l _ _ (r N (Nat.le_refl _)) hd).1
  refine ⟨_, fr1, h1, nx1, al1, B1, df1, ⟨N, fun n hn => ?_⟩, f1, p1, o1, hdf ▸ k1⟩
  obtain ⟨_, ts, h2⟩ := ops_drawn l _ _ (r n hn) hd
  simp only at h2
  obtain ⟨q1, q2⟩ := drawn_touch h2 ho f1
  simp only [exec, h2, apart_of q1 q2 (hap p1.nd), if_true, hdf]
theorem drawK_nil (hk : K .normal al B df) : drawK df K .normal al B df := ⟨rfl, Nat.le_refl _, hk⟩
theorem drawKU_nil {l : List PG} {un : List (Nat × Nat)} (hap : (keys B).Nodup → apartAL al l un = true) (hk : K .normal al B df) : drawKU l un df K .normal al B df := ⟨rfl, Nat.le_refl _, hap, hk⟩
/-- a loop that counts up -/
theorem WL_count {c : PC} {live : List Nat} (f : Nat → AL) (Bf : Nat → BL) (P : Nat → Prop) (n k0 : Nat) (h0 : P k0) (hk0 : k0 ≤ n)
    (hround : ∀ k, k ≤ n → P k → (k < n → P (k + 1) → WL E c live (f (k + 1)) (Bf (k + 1)) df K) → WL E c live (f k) (Bf k) df K) : WL E c live (f k0) (Bf k0) df K := by
  obtain ⟨m, hm⟩ : ∃ m, m = n - k0 := ⟨_, rfl⟩
  induction m generalizing k0 with
  | zero => exact hround k0 hk0 h0 fun h _ => by omega
  | succ m ih => exact hround k0 hk0 h0 fun h hp => ih (k0 + 1) hp (by omega) (by omega)
end Hp
end
section
set_option maxRecDepth 100000
namespace Hp.T
open Go Hp
attribute [local irreducible] RunsC RunsO RunsL OpW W Iso FW
/-- as far as it goes, but for what brings in new names -/
structure Bx (q : Prop) : Prop where
  o : q
theorem GO0 {p q : Prop} (hq : q) (h : Bx q → p := by (intro hq; (first | refine W_seq ?_ | refine W_region ?_ | refine W_draw ?_ | refine W_drawU rfl ?_ | refine W_block ?_ | refine W_skip ?_ | refine W_ret ?_ | refine W_exit ?_ | refine WO_nil ?_ | refine drawK_nil ?_ | ((first | refine WO_op ?_ | refine WO_op0 ?_); (first | refine o_loadp rfl rfl rfl ?_ | refine o_add rfl rfl (wrap_i64 (by omega) (by omega)) ?_ | refine o_sub rfl rfl (wrap_i64 (by omega) (by omega)) ?_ | refine o_v rfl ?_ | refine o_iaddrn rfl rfl (by assumption) (by first | rfl | assumption | omega) ?_ | refine o_shr rfl rfl (by first | omega | assumption) ?_ | refine o_quo rfl rfl (by omega) ?_ | refine o_rem rfl rfl (by omega) ?_ | (apply o_loadw rfl; (repeat (first | exact .head _ | refine .tail _ ?_ | refine List.mem_append_right _ ?_)); rfl; rfl; rfl) | (apply o_loadm rfl; (repeat (first | exact .head _ | refine .tail _ ?_ | refine List.mem_append_right _ ?_)); rfl; rfl) | (apply o_storew rfl rfl; (repeat (first | exact Upd.here .. | apply Upd.there | apply Upd.append)); rfl; rfl; rfl; rfl) | (apply o_store rfl rfl; (repeat (first | exact Upd.here .. | apply Upd.there | apply Upd.append)); (first | rfl | assumption | exact List.getElem?_set_self (by assumption)); rfl; rfl; rfl) | refine o_iso rfl (.imm (by first | (simp [immL]; done) | assumption)) (by assumption) (by first | (simp [noRefs, immL]; done) | exact Bool.or_eq_true_iff.2 (.inr (by assumption))) ?_))); (repeat (first | refine W_seq ?_ | refine W_region ?_ | refine W_draw ?_ | refine W_drawU rfl ?_ | refine W_block ?_ | refine W_skip ?_ | refine W_ret ?_ | refine W_exit ?_ | refine WO_nil ?_ | refine drawK_nil ?_ | ((first | refine WO_op ?_ | refine WO_op0 ?_); (first | refine o_loadp rfl rfl rfl ?_ | refine o_add rfl rfl (wrap_i64 (by omega) (by omega)) ?_ | refine o_sub rfl rfl (wrap_i64 (by omega) (by omega)) ?_ | refine o_v rfl ?_ | refine o_iaddrn rfl rfl (by assumption) (by first | rfl | assumption | omega) ?_ | refine o_shr rfl rfl (by first | omega | assumption) ?_ | refine o_quo rfl rfl (by omega) ?_ | refine o_rem rfl rfl (by omega) ?_ | (apply o_loadw rfl; (repeat (first | exact .head _ | refine .tail _ ?_ | refine List.mem_append_right _ ?_)); rfl; rfl; rfl) | (apply o_loadm rfl; (repeat (first | exact .head _ | refine .tail _ ?_ | refine List.mem_append_right _ ?_)); rfl; rfl) | (apply o_storew rfl rfl; (repeat (first | exact Upd.here .. | apply Upd.there | apply Upd.append)); rfl; rfl; rfl; rfl) | (apply o_store rfl rfl; (repeat (first | exact Upd.here .. | apply Upd.there | apply Upd.append)); (first | rfl | assumption | exact List.getElem?_set_self (by assumption)); rfl; rfl; rfl) | refine o_iso rfl (.imm (by first | (simp [immL]; done) | assumption)) (by assumption) (by first | (simp [noRefs, immL]; done) | exact Bool.or_eq_true_iff.2 (.inr (by assumption))) ?_)))); exact hq.o)) : p := h ⟨hq⟩
theorem GS {p q : Prop} (hq : q) (h : Bx q → p := by (intro hq; (first | refine W_seq ?_ | refine W_region ?_ | refine W_draw ?_ | refine W_drawU rfl ?_ | refine W_block ?_ | refine W_skip ?_ | refine W_ret ?_ | refine W_exit ?_ | refine WO_nil ?_ | refine drawK_nil ?_ | ((first | refine WO_op ?_ | refine WO_op0 ?_); (first | refine o_loadp rfl rfl rfl ?_ | refine o_add rfl rfl (wrap_i64 (by omega) (by omega)) ?_ | refine o_sub rfl rfl (wrap_i64 (by omega) (by omega)) ?_ | refine o_v rfl ?_ | refine o_iaddrn rfl rfl (by assumption) (by first | rfl | assumption | omega) ?_ | refine o_shr rfl rfl (by first | omega | assumption) ?_ | refine o_quo rfl rfl (by omega) ?_ | refine o_rem rfl rfl (by omega) ?_ | (apply o_loadw rfl; (repeat (first | exact .head _ | refine .tail _ ?_ | refine List.mem_append_right _ ?_)); rfl; rfl; rfl) | (apply o_loadm rfl; (repeat (first | exact .head _ | refine .tail _ ?_ | refine List.mem_append_right _ ?_)); rfl; rfl) | (apply o_storew rfl rfl; (repeat (first | exact Upd.here .. | apply Upd.there | apply Upd.append)); rfl; rfl; rfl; rfl) | (apply o_store rfl rfl; (repeat (first | exact Upd.here .. | apply Upd.there | apply Upd.append)); (first | rfl | assumption | exact List.getElem?_set_self (by assumption)); rfl; rfl; rfl) | refine o_iso rfl (.imm (by first | (simp [immL]; done) | assumption)) (by assumption) (by first | (simp [noRefs, immL]; done) | exact Bool.or_eq_true_iff.2 (.inr (by assumption))) ?_))); exact hq.o)) : p := h ⟨hq⟩
theorem CH1 {p q : Prop} (hq : q) (h : Bx q → p := by (intro hq; (first | (apply WO_and rfl rfl rfl rfl; (intro hc; (repeat (first | refine W_seq ?_ | refine W_region ?_ | refine W_draw ?_ | refine W_drawU rfl ?_ | refine W_block ?_ | refine W_skip ?_ | refine W_ret ?_ | refine W_exit ?_ | refine WO_nil ?_ | refine drawK_nil ?_ | ((first | refine WO_op ?_ | refine WO_op0 ?_); (first | refine o_loadp rfl rfl rfl ?_ | refine o_add rfl rfl (wrap_i64 (by omega) (by omega)) ?_ | refine o_sub rfl rfl (wrap_i64 (by omega) (by omega)) ?_ | refine o_v rfl ?_ | refine o_iaddrn rfl rfl (by assumption) (by first | rfl | assumption | omega) ?_ | refine o_shr rfl rfl (by first | omega | assumption) ?_ | refine o_quo rfl rfl (by omega) ?_ | refine o_rem rfl rfl (by omega) ?_ | (apply o_loadw rfl; (repeat (first | exact .head _ | refine .tail _ ?_ | refine List.mem_append_right _ ?_)); rfl; rfl; rfl) | (apply o_loadm rfl; (repeat (first | exact .head _ | refine .tail _ ?_ | refine List.mem_append_right _ ?_)); rfl; rfl) | (apply o_storew rfl rfl; (repeat (first | exact Upd.here .. | apply Upd.there | apply Upd.append)); rfl; rfl; rfl; rfl) | (apply o_store rfl rfl; (repeat (first | exact Upd.here .. | apply Upd.there | apply Upd.append)); (first | rfl | assumption | exact List.getElem?_set_self (by assumption)); rfl; rfl; rfl) | refine o_iso rfl (.imm (by first | (simp [immL]; done) | assumption)) (by assumption) (by first | (simp [noRefs, immL]; done) | exact Bool.or_eq_true_iff.2 (.inr (by assumption))) ?_ | refine o_box rfl rfl rfl fun i => ?_ | refine o_alloc fun i => ?_)))); exact ⟨rfl, Nat.le_refl _, fun p hp => (by repeat (first | exact hp | refine .tail _ ?_)), rfl⟩)) | (apply WO_or rfl rfl rfl rfl; (intro hc; (repeat (first | refine W_seq ?_ | refine W_region ?_ | refine W_draw ?_ | refine W_drawU rfl ?_ | refine W_block ?_ | refine W_skip ?_ | refine W_ret ?_ | refine W_exit ?_ | refine WO_nil ?_ | refine drawK_nil ?_ | ((first | refine WO_op ?_ | refine WO_op0 ?_); (first | refine o_loadp rfl rfl rfl ?_ | refine o_add rfl rfl (wrap_i64 (by omega) (by omega)) ?_ | refine o_sub rfl rfl (wrap_i64 (by omega) (by omega)) ?_ | refine o_v rfl ?_ | refine o_iaddrn rfl rfl (by assumption) (by first | rfl | assumption | omega) ?_ | refine o_shr rfl rfl (by first | omega | assumption) ?_ | refine o_quo rfl rfl (by omega) ?_ | refine o_rem rfl rfl (by omega) ?_ | (apply o_loadw rfl; (repeat (first | exact .head _ | refine .tail _ ?_ | refine List.mem_append_right _ ?_)); rfl; rfl; rfl) | (apply o_loadm rfl; (repeat (first | exact .head _ | refine .tail _ ?_ | refine List.mem_append_right _ ?_)); rfl; rfl) | (apply o_storew rfl rfl; (repeat (first | exact Upd.here .. | apply Upd.there | apply Upd.append)); rfl; rfl; rfl; rfl) | (apply o_store rfl rfl; (repeat (first | exact Upd.here .. | apply Upd.there | apply Upd.append)); (first | rfl | assumption | exact List.getElem?_set_self (by assumption)); rfl; rfl; rfl) | refine o_iso rfl (.imm (by first | (simp [immL]; done) | assumption)) (by assumption) (by first | (simp [noRefs, immL]; done) | exact Bool.or_eq_true_iff.2 (.inr (by assumption))) ?_ | refine o_box rfl rfl rfl fun i => ?_ | refine o_alloc fun i => ?_)))); exact ⟨rfl, Nat.le_refl _, fun p hp => (by repeat (first | exact hp | refine .tail _ ?_)), rfl⟩))); exact hq.o)) : p := h ⟨hq⟩
theorem CH2 {p q : Prop} (hq : q) (h : Bx q → p := by (intro hq; (first | (apply WO_and rfl rfl rfl rfl; (intro hc; (repeat (first | refine W_seq ?_ | refine W_region ?_ | refine W_draw ?_ | refine W_drawU rfl ?_ | refine W_block ?_ | refine W_skip ?_ | refine W_ret ?_ | refine W_exit ?_ | refine WO_nil ?_ | refine drawK_nil ?_ | ((first | refine WO_op ?_ | refine WO_op0 ?_); (first | refine o_loadp rfl rfl rfl ?_ | refine o_add rfl rfl (wrap_i64 (by omega) (by omega)) ?_ | refine o_sub rfl rfl (wrap_i64 (by omega) (by omega)) ?_ | refine o_v rfl ?_ | refine o_iaddrn rfl rfl (by assumption) (by first | rfl | assumption | omega) ?_ | refine o_shr rfl rfl (by first | omega | assumption) ?_ | refine o_quo rfl rfl (by omega) ?_ | refine o_rem rfl rfl (by omega) ?_ | (apply o_loadw rfl; (repeat (first | exact .head _ | refine .tail _ ?_ | refine List.mem_append_right _ ?_)); rfl; rfl; rfl) | (apply o_loadm rfl; (repeat (first | exact .head _ | refine .tail _ ?_ | refine List.mem_append_right _ ?_)); rfl; rfl) | (apply o_storew rfl rfl; (repeat (first | exact Upd.here .. | apply Upd.there | apply Upd.append)); rfl; rfl; rfl; rfl) | (apply o_store rfl rfl; (repeat (first | exact Upd.here .. | apply Upd.there | apply Upd.append)); (first | rfl | assumption | exact List.getElem?_set_self (by assumption)); rfl; rfl; rfl) | refine o_iso rfl (.imm (by first | (simp [immL]; done) | assumption)) (by assumption) (by first | (simp [noRefs, immL]; done) | exact Bool.or_eq_true_iff.2 (.inr (by assumption))) ?_ | refine o_box rfl rfl rfl fun i => ?_ | refine o_alloc fun i => ?_)) | (apply WO_and rfl rfl rfl rfl; (intro hc; (repeat (first | refine W_seq ?_ | refine W_region ?_ | refine W_draw ?_ | refine W_drawU rfl ?_ | refine W_block ?_ | refine W_skip ?_ | refine W_ret ?_ | refine W_exit ?_ | refine WO_nil ?_ | refine drawK_nil ?_ | ((first | refine WO_op ?_ | refine WO_op0 ?_); (first | refine o_loadp rfl rfl rfl ?_ | refine o_add rfl rfl (wrap_i64 (by omega) (by omega)) ?_ | refine o_sub rfl rfl (wrap_i64 (by omega) (by omega)) ?_ | refine o_v rfl ?_ | refine o_iaddrn rfl rfl (by assumption) (by first | rfl | assumption | omega) ?_ | refine o_shr rfl rfl (by first | omega | assumption) ?_ | refine o_quo rfl rfl (by omega) ?_ | refine o_rem rfl rfl (by omega) ?_ | (apply o_loadw rfl; (repeat (first | exact .head _ | refine .tail _ ?_ | refine List.mem_append_right _ ?_)); rfl; rfl; rfl) | (apply o_loadm rfl; (repeat (first | exact .head _ | refine .tail _ ?_ | refine List.mem_append_right _ ?_)); rfl; rfl) | (apply o_storew rfl rfl; (repeat (first | exact Upd.here .. | apply Upd.there | apply Upd.append)); rfl; rfl; rfl; rfl) | (apply o_store rfl rfl; (repeat (first | exact Upd.here .. | apply Upd.there | apply Upd.append)); (first | rfl | assumption | exact List.getElem?_set_self (by assumption)); rfl; rfl; rfl) | refine o_iso rfl (.imm (by first | (simp [immL]; done) | assumption)) (by assumption) (by first | (simp [noRefs, immL]; done) | exact Bool.or_eq_true_iff.2 (.inr (by assumption))) ?_ | refine o_box rfl rfl rfl fun i => ?_ | refine o_alloc fun i => ?_)))); exact ⟨rfl, Nat.le_refl _, fun p hp => (by repeat (first | exact hp | refine .tail _ ?_)), rfl⟩)) | (apply WO_or rfl rfl rfl rfl; (intro hc; (repeat (first | refine W_seq ?_ | refine W_region ?_ | refine W_draw ?_ | refine W_drawU rfl ?_ | refine W_block ?_ | refine W_skip ?_ | refine W_ret ?_ | refine W_exit ?_ | refine WO_nil ?_ | refine drawK_nil ?_ | ((first | refine WO_op ?_ | refine WO_op0 ?_); (first | refine o_loadp rfl rfl rfl ?_ | refine o_add rfl rfl (wrap_i64 (by omega) (by omega)) ?_ | refine o_sub rfl rfl (wrap_i64 (by omega) (by omega)) ?_ | refine o_v rfl ?_ | refine o_iaddrn rfl rfl (by assumption) (by first | rfl | assumption | omega) ?_ | refine o_shr rfl rfl (by first | omega | assumption) ?_ | refine o_quo rfl rfl (by omega) ?_ | refine o_rem rfl rfl (by omega) ?_ | (apply o_loadw rfl; (repeat (first | exact .head _ | refine .tail _ ?_ | refine List.mem_append_right _ ?_)); rfl; rfl; rfl) | (apply o_loadm rfl; (repeat (first | exact .head _ | refine .tail _ ?_ | refine List.mem_append_right _ ?_)); rfl; rfl) | (apply o_storew rfl rfl; (repeat (first | exact Upd.here .. | apply Upd.there | apply Upd.append)); rfl; rfl; rfl; rfl) | (apply o_store rfl rfl; (repeat (first | exact Upd.here .. | apply Upd.there | apply Upd.append)); (first | rfl | assumption | exact List.getElem?_set_self (by assumption)); rfl; rfl; rfl) | refine o_iso rfl (.imm (by first | (simp [immL]; done) | assumption)) (by assumption) (by first | (simp [noRefs, immL]; done) | exact Bool.or_eq_true_iff.2 (.inr (by assumption))) ?_ | refine o_box rfl rfl rfl fun i => ?_ | refine o_alloc fun i => ?_)))); exact ⟨rfl, Nat.le_refl _, fun p hp => (by repeat (first | exact hp | refine .tail _ ?_)), rfl⟩)))); exact ⟨rfl, Nat.le_refl _, fun p hp => (by repeat (first | exact hp | refine .tail _ ?_)), rfl⟩)) | (apply WO_or rfl rfl rfl rfl; (intro hc; (repeat (first | refine W_seq ?_ | refine W_region ?_ | refine W_draw ?_ | refine W_drawU rfl ?_ | refine W_block ?_ | refine W_skip ?_ | refine W_ret ?_ | refine W_exit ?_ | refine WO_nil ?_ | refine drawK_nil ?_ | ((first | refine WO_op ?_ | refine WO_op0 ?_); (first | refine o_loadp rfl rfl rfl ?_ | refine o_add rfl rfl (wrap_i64 (by omega) (by omega)) ?_ | refine o_sub rfl rfl (wrap_i64 (by omega) (by omega)) ?_ | refine o_v rfl ?_ | refine o_iaddrn rfl rfl (by assumption) (by first | rfl | assumption | omega) ?_ | refine o_shr rfl rfl (by first | omega | assumption) ?_ | refine o_quo rfl rfl (by omega) ?_ | refine o_rem rfl rfl (by omega) ?_ | (apply o_loadw rfl; (repeat (first | exact .head _ | refine .tail _ ?_ | refine List.mem_append_right _ ?_)); rfl; rfl; rfl) | (apply o_loadm rfl; (repeat (first | exact .head _ | refine .tail _ ?_ | refine List.mem_append_right _ ?_)); rfl; rfl) | (apply o_storew rfl rfl; (repeat (first | exact Upd.here .. | apply Upd.there | apply Upd.append)); rfl; rfl; rfl; rfl) | (apply o_store rfl rfl; (repeat (first | exact Upd.here .. | apply Upd.there | apply Upd.append)); (first | rfl | assumption | exact List.getElem?_set_self (by assumption)); rfl; rfl; rfl) | refine o_iso rfl (.imm (by first | (simp [immL]; done) | assumption)) (by assumption) (by first | (simp [noRefs, immL]; done) | exact Bool.or_eq_true_iff.2 (.inr (by assumption))) ?_ | refine o_box rfl rfl rfl fun i => ?_ | refine o_alloc fun i => ?_)) | (apply WO_and rfl rfl rfl rfl; (intro hc; (repeat (first | refine W_seq ?_ | refine W_region ?_ | refine W_draw ?_ | refine W_drawU rfl ?_ | refine W_block ?_ | refine W_skip ?_ | refine W_ret ?_ | refine W_exit ?_ | refine WO_nil ?_ | refine drawK_nil ?_ | ((first | refine WO_op ?_ | refine WO_op0 ?_); (first | refine o_loadp rfl rfl rfl ?_ | refine o_add rfl rfl (wrap_i64 (by omega) (by omega)) ?_ | refine o_sub rfl rfl (wrap_i64 (by omega) (by omega)) ?_ | refine o_v rfl ?_ | refine o_iaddrn rfl rfl (by assumption) (by first | rfl | assumption | omega) ?_ | refine o_shr rfl rfl (by first | omega | assumption) ?_ | refine o_quo rfl rfl (by omega) ?_ | refine o_rem rfl rfl (by omega) ?_ | (apply o_loadw rfl; (repeat (first | exact .head _ | refine .tail _ ?_ | refine List.mem_append_right _ ?_)); rfl; rfl; rfl) | (apply o_loadm rfl; (repeat (first | exact .head _ | refine .tail _ ?_ | refine List.mem_append_right _ ?_)); rfl; rfl) | (apply o_storew rfl rfl; (repeat (first | exact Upd.here .. | apply Upd.there | apply Upd.append)); rfl; rfl; rfl; rfl) | (apply o_store rfl rfl; (repeat (first | exact Upd.here .. | apply Upd.there | apply Upd.append)); (first | rfl | assumption | exact List.getElem?_set_self (by assumption)); rfl; rfl; rfl) | refine o_iso rfl (.imm (by first | (simp [immL]; done) | assumption)) (by assumption) (by first | (simp [noRefs, immL]; done) | exact Bool.or_eq_true_iff.2 (.inr (by assumption))) ?_ | refine o_box rfl rfl rfl fun i => ?_ | refine o_alloc fun i => ?_)))); exact ⟨rfl, Nat.le_refl _, fun p hp => (by repeat (first | exact hp | refine .tail _ ?_)), rfl⟩)) | (apply WO_or rfl rfl rfl rfl; (intro hc; (repeat (first | refine W_seq ?_ | refine W_region ?_ | refine W_draw ?_ | refine W_drawU rfl ?_ | refine W_block ?_ | refine W_skip ?_ | refine W_ret ?_ | refine W_exit ?_ | refine WO_nil ?_ | refine drawK_nil ?_ | ((first | refine WO_op ?_ | refine WO_op0 ?_); (first | refine o_loadp rfl rfl rfl ?_ | refine o_add rfl rfl (wrap_i64 (by omega) (by omega)) ?_ | refine o_sub rfl rfl (wrap_i64 (by omega) (by omega)) ?_ | refine o_v rfl ?_ | refine o_iaddrn rfl rfl (by assumption) (by first | rfl | assumption | omega) ?_ | refine o_shr rfl rfl (by first | omega | assumption) ?_ | refine o_quo rfl rfl (by omega) ?_ | refine o_rem rfl rfl (by omega) ?_ | (apply o_loadw rfl; (repeat (first | exact .head _ | refine .tail _ ?_ | refine List.mem_append_right _ ?_)); rfl; rfl; rfl) | (apply o_loadm rfl; (repeat (first | exact .head _ | refine .tail _ ?_ | refine List.mem_append_right _ ?_)); rfl; rfl) | (apply o_storew rfl rfl; (repeat (first | exact Upd.here .. | apply Upd.there | apply Upd.append)); rfl; rfl; rfl; rfl) | (apply o_store rfl rfl; (repeat (first | exact Upd.here .. | apply Upd.there | apply Upd.append)); (first | rfl | assumption | exact List.getElem?_set_self (by assumption)); rfl; rfl; rfl) | refine o_iso rfl (.imm (by first | (simp [immL]; done) | assumption)) (by assumption) (by first | (simp [noRefs, immL]; done) | exact Bool.or_eq_true_iff.2 (.inr (by assumption))) ?_ | refine o_box rfl rfl rfl fun i => ?_ | refine o_alloc fun i => ?_)))); exact ⟨rfl, Nat.le_refl _, fun p hp => (by repeat (first | exact hp | refine .tail _ ?_)), rfl⟩)))); exact ⟨rfl, Nat.le_refl _, fun p hp => (by repeat (first | exact hp | refine .tail _ ?_)), rfl⟩))); exact hq.o)) : p := h ⟨hq⟩
end Hp.T
end
section
namespace Hp
open Go
variable {E : Env} {al : AL} {B : BL} {df : DF} {K : PExit → AL → BL → DF → Prop}
mutual
theorem Rf.sub {B B' : BL} (hs : ∀ p ∈ B, p ∈ B') : ∀ {n : Nat} {v r : PV} {L : List Nat}, Rf B n v r L → Rf B' n v r L
  | _, _, _, _, .imm hi => .imm hi
  | _, _, _, _, .any => .any
  | _, _, _, _, .mapp => .mapp
  | _, _, _, _, .msl hb hl hr => .msl (hs _ hb) hl (hr.sub hs)
  | _, _, _, _, .mptr hb he hr => .mptr (hs _ hb) he (hr.sub hs)
  | _, _, _, _, .agg hr => .agg (hr.sub hs)
  | _, _, _, _, .tup hr => .tup (hr.sub hs)
  | _, _, _, _, .iptr hr => .iptr (hr.sub hs)
  | _, _, _, _, .isl hr => .isl (hr.sub hs)
  | _, _, _, _, .fn ha hb => .fn (ha.sub hs) (hb.sub hs)
theorem RfL.sub {B B' : BL} (hs : ∀ p ∈ B, p ∈ B') : ∀ {n : Nat} {l rs : List PV} {L : List Nat}, RfL B n l rs L → RfL B' n l rs L
  | _, _, _, _, .nil => .nil
  | _, _, _, _, .imm hi => .imm hi
  | _, _, _, _, .cons hv hl => .cons (hv.sub hs) (hl.sub hs)
end
mutual
theorem Rf.up {B : BL} : ∀ {n : Nat} {v r : PV} {L : List Nat}, Rf B n v r L → Rf B (n + 1) v r L
  | _, _, _, _, .imm hi => .imm hi
  | _, _, _, _, .any => .any
  | _, _, _, _, .mapp => .mapp
  | _, _, _, _, .msl hb hl hr => .msl hb hl hr.up
  | _, _, _, _, .mptr hb he hr => .mptr hb he hr.up
  | _, _, _, _, .agg hr => .agg hr.up
  | _, _, _, _, .tup hr => .tup hr.up
  | _, _, _, _, .iptr hr => .iptr hr.up
  | _, _, _, _, .isl hr => .isl hr.up
  | _, _, _, _, .fn ha hb => .fn ha.up hb.up
theorem RfL.up {B : BL} : ∀ {n : Nat} {l rs : List PV} {L : List Nat}, RfL B n l rs L → RfL B (n + 1) l rs L
  | _, _, _, _, .nil => .nil
  | _, _, _, _, .imm hi => .imm hi
  | _, _, _, _, .cons hv hl => .cons hv.up hl.up
end
/-- read as data, whatever it leads to -/
def Rd1 (B : BL) (n : Nat) (v r : PV) : Prop := ∃ L, Rf B n v r L
theorem RfL_of {n : Nat} : ∀ {l rs : List PV}, l.length = rs.length → (∀ (i : Nat) (v r : PV), l[i]? = some v → rs[i]? = some r → Rd1 B n v r) → ∃ L, RfL B n l rs L
  | [], [], _, _ => ⟨[], .nil⟩
  | v :: l, r :: rs, hl, h => by
    obtain ⟨L, hv⟩ := h 0 v r rfl rfl
    obtain ⟨L', hl'⟩ := RfL_of (l := l) (rs := rs) (by simpa using hl) fun i v r h1 h2 => h (i + 1) v r h1 h2
    exact ⟨L ++ L', .cons hv hl'⟩
  | [], _ :: _, h, _ => by simp at h
  | _ :: _, [], h, _ => by simp at h
/-- the elements of an own row, so far made over: up to k as data 'new', from there on still 'old' -/
structure Over (C : BL) (d : Nat) (old new es : List PV) (k : Nat) : Prop where
  len : es.length = old.length
  lenN : new.length = old.length
  done : ∀ (j : Nat) (v r : PV), j < k → es[j]? = some v → new[j]? = some r → Rd1 C d v r
  rest : ∀ j, k ≤ j → es[j]? = old[j]?
theorem Over.start {C : BL} {d : Nat} {old new : List PV} (h : new.length = old.length) : Over C d old new old 0 := ⟨rfl, h, fun j v r hj => by omega, fun j _ => rfl⟩
theorem Over.step {C C' : BL} {d : Nat} {old new es : List PV} {k : Nat} (h : Over C d old new es k) (hk : k < old.length) (hs : ∀ p ∈ C, p ∈ C') {v : PV} (hv : ∀ r, new[k]? = some r → Rd1 C' d v r) : Over C' d old new (es.set k v) (k + 1) where
  len := by simp [h.len]
  lenN := h.lenN
  done j u r hj hu hr := by
    rw [List.getElem?_set] at hu
    by_cases e : k = j
    · subst e
      rw [if_pos rfl] at hu
      split at hu
      · cases hu; exact hv r hr
      · cases hu
    · rw [if_neg e] at hu
      obtain ⟨L, hL⟩ := h.done j u r (by omega) hu hr
      exact ⟨L, hL.sub hs⟩
  rest j hj := by rw [List.getElem?_set_ne (by omega)]; exact h.rest j (by omega)
theorem Over.at {C : BL} {d : Nat} {old new es : List PV} {k : Nat} (h : Over C d old new es k) : es[k]? = old[k]? := h.rest k (Nat.le_refl _)
theorem Over.all {C : BL} {d : Nat} {old new es : List PV} {k : Nat} (h : Over C d old new es k) (hk : old.length ≤ k) : ∃ L, RfL C d es new L :=
  RfL_of (h.len.trans h.lenN.symm) fun i v r h1 h2 => h.done i v r (by have := (List.getElem?_eq_some_iff.1 h1).1; have := h.len; omega) h1 h2
/-- a loop that counts up, over things that grow -/
theorem WL_countB {c : PC} {live : List Nat} (f : Nat → AL) (I : Nat → BL → Prop) (n k0 : Nat) (hk0 : k0 ≤ n) {B0 : BL} (h0 : I k0 B0)
    (hround : ∀ k B, k ≤ n → I k B → (k < n → ∀ B', I (k + 1) B' → WL E c live (f (k + 1)) B' df K) → WL E c live (f k) B df K) : WL E c live (f k0) B0 df K := by
  obtain ⟨m, hm⟩ : ∃ m, m = n - k0 := ⟨_, rfl⟩
  induction m generalizing k0 B0 with
  | zero => exact hround k0 _ hk0 h0 fun h _ _ => by omega
  | succ m ih => exact hround k0 _ hk0 h0 fun h B' hp => ih (k0 + 1) (by omega) hp (by omega)
/-! two operations of a region that draws -/
theorem apart_cons {l : List PG} {i j : Nat} {r : List (Nat × Nat)} {a b : PG} (h1 : l[i]? = some a) (h2 : l[j]? = some b) (hc : (tAL al a).clash (tAL al b) = false) (hr : apartAL al l r = true) : apartAL al l ((i, j) :: r) = true := by
  simp only [apartAL, h1, h2, hc, hr]; rfl
theorem tAL_q {d : Option Nat} {op : POp} {x : Opd} {v : PV} (hq : qOf op = some (some x)) (hv : opdGet al x = some v) : tAL al ⟨d, none, op⟩ = ⟨some (idOf v), some [], some []⟩ := by
  simp only [tAL, tAL.run, hq, hv, Option.map_some]
theorem tAL_q0 {d : Option Nat} {op : POp} (hq : qOf op = some none) : tAL al ⟨d, none, op⟩ = T3.no := by
  simp only [tAL, tAL.run, hq]
theorem tAL_own {d : Nat} {f : FuncId} {args : List Opd} {vs : List PV} {u : PV} (hv : opdGets al args = some vs) (hi : immL vs = true) (hd : alGet al d = some u) : tAL al ⟨some d, none, .call .own f args⟩ = ⟨some [], some (idOf u), some []⟩ := by
  simp only [tAL, tAL.run, qOf, newOp, hv, hi, hd, if_true, Option.map_some]
theorem tAL_new {d : Nat} {op : POp} {u : PV} (hq : qOf op = none) (hn : newOp op = true) (hd : alGet al d = some u) : tAL al ⟨some d, none, op⟩ = ⟨some [], some (idOf u), some []⟩ := by
  simp only [tAL, tAL.run, hq, hn, hd, Option.map_some]
theorem tAL_iso {d : Option Nat} {f : FuncId} {args : List Opd} {vs : List PV} (hv : opdGets al args = some vs) (hi : immL vs = true) : tAL al ⟨d, none, .call .iso f args⟩ = T3.no := by
  simp only [tAL, tAL.run, qOf, newOp, hv, hi, if_true]
theorem clash_qn {a b : List Nat} (h : ∀ x ∈ b, x ∉ a) : T3.clash ⟨some a, some [], some []⟩ ⟨some [], some b, some []⟩ = false := by
  have h2 : clashes (some b) (some a) = false := by
    rw [clashesU_some, List.any_eq_false]; intro x hx; simpa using h x hx
  have h1 : ∀ c, clashes (some []) c = false := fun c => by cases c with
    | none => rfl
    | some l => cases l <;> rfl
  have h3 : ∀ c, clashes c (some []) = false := fun c => by cases c with
    | none => rfl
    | some l => cases l <;> rfl
  simp only [T3.clash, h1, h3, h2, Bool.or_self]
theorem clash_nq {a b : List Nat} (h : ∀ x ∈ b, x ∉ a) : T3.clash ⟨some [], some b, some []⟩ ⟨some a, some [], some []⟩ = false := by
  have h2 : clashes (some b) (some a) = false := by
    rw [clashesU_some, List.any_eq_false]; intro x hx; simpa using h x hx
  have h1 : ∀ c, clashes (some []) c = false := fun c => by cases c with
    | none => rfl
    | some l => cases l <;> rfl
  have h3 : ∀ c, clashes c (some []) = false := fun c => by cases c with
    | none => rfl
    | some l => cases l <;> rfl
  simp only [T3.clash, h1, h3, h2, Bool.or_self]
theorem ne_nodup {p j : Nat} {o o' : HO} {B : BL} (hn : (keys ((j, o) :: B)).Nodup) (hm : (p, o') ∈ B) : j ≠ p := by
  rintro rfl
  exact (List.nodup_cons.1 hn).1 (List.mem_map.2 ⟨_, hm, rfl⟩)
theorem ne_nodup2 {p j : Nat} {o o' : HO} {q : Nat × HO} {B : BL} (hn : (keys (q :: (j, o) :: B)).Nodup) (hm : (p, o') ∈ B) : j ≠ p := ne_nodup (List.nodup_cons.1 hn).2 hm
theorem ne_nodup3 {p j : Nat} {o o' : HO} {q q' : Nat × HO} {B : BL} (hn : (keys (q :: q' :: (j, o) :: B)).Nodup) (hm : (p, o') ∈ B) : j ≠ p := ne_nodup2 (List.nodup_cons.1 hn).2 hm
theorem one_ne {p j : Nat} (h : j ≠ p) : ∀ x ∈ [j], x ∉ [p] := by simpa using h
theorem apart_q_own {l : List PG} {i j : Nat} {r : List (Nat × Nat)} {da : Option Nat} {opa : POp} {x : Opd} {v : PV} {d : Nat} {f : FuncId} {args : List Opd} {vs : List PV} {u : PV} (h1 : l[i]? = some ⟨da, none, opa⟩) (h2 : l[j]? = some ⟨some d, none, .call .own f args⟩)
    (hq : qOf opa = some (some x)) (hv : opdGet al x = some v) (hvs : opdGets al args = some vs) (hi : immL vs = true) (hd : alGet al d = some u) (hne : ∀ y ∈ idOf u, y ∉ idOf v) (hr : apartAL al l r = true) : apartAL al l ((i, j) :: r) = true :=
  apart_cons h1 h2 (by rw [tAL_q hq hv, tAL_own hvs hi hd]; exact clash_qn hne) hr
theorem apart_own_q {l : List PG} {i j : Nat} {r : List (Nat × Nat)} {da : Option Nat} {opa : POp} {x : Opd} {v : PV} {d : Nat} {f : FuncId} {args : List Opd} {vs : List PV} {u : PV} (h1 : l[i]? = some ⟨some d, none, .call .own f args⟩) (h2 : l[j]? = some ⟨da, none, opa⟩)
    (hq : qOf opa = some (some x)) (hv : opdGet al x = some v) (hvs : opdGets al args = some vs) (hi : immL vs = true) (hd : alGet al d = some u) (hne : ∀ y ∈ idOf u, y ∉ idOf v) (hr : apartAL al l r = true) : apartAL al l ((i, j) :: r) = true :=
  apart_cons h1 h2 (by rw [tAL_q hq hv, tAL_own hvs hi hd]; exact clash_nq hne) hr
theorem ret_cell {pf : PF} {t k : Nat} {ag : Bool} {i ix off sz : Nat} {fz : Bool} {es : List PV} {e v r : PV} (hres : pf.res = [.cell t k ag]) (ht : alGet al t = some (.mptr i ix off)) (hb : (i, (⟨fz, .arr sz es⟩ : HO)) ∈ B) (he : es[ix]? = some e) (hv : ldCells k ag (e.cells.drop off) = some v) (h : Rd1 B deep v r) : isoK pf r .ret al B [] := by
  obtain ⟨L, hL⟩ := h
  exact ⟨rfl, [v], by rw [hres]; exact .cell ht hb he hv .nil, v, L, rfl, hL⟩
def RdL (B : BL) (n : Nat) (l r : List PV) : Prop := ∃ L, RfL B n l r L
theorem RdL.nil {n : Nat} : RdL B n [] [] := ⟨_, .nil⟩
theorem RdL.cons {n : Nat} {v r : PV} {l rs : List PV} (h : Rd1 B n v r) (h' : RdL B n l rs) : RdL B n (v :: l) (r :: rs) := h.elim fun _ h => h'.elim fun _ h' => ⟨_, .cons h h'⟩
theorem Rd1.imm {n : Nat} {v : PV} (h : Hp.imm v = true) : Rd1 B n v v := ⟨_, .imm h⟩
theorem Rd1.agg {n : Nat} {l r : List PV} (h : RdL B n l r) : Rd1 B n (.agg l) (.agg r) := h.elim fun _ h => ⟨_, .agg h⟩
theorem Rd1.sub {B' : BL} {n : Nat} {v r : PV} (h : Rd1 B n v r) (hs : ∀ p ∈ B, p ∈ B') : Rd1 B' n v r := h.elim fun _ h => ⟨_, h.sub hs⟩
theorem Rd1.up {n : Nat} {v r : PV} (h : Rd1 B n v r) : Rd1 B (n + 1) v r := h.elim fun _ h => ⟨_, h.up⟩
theorem Rd1.msl {n i len : Nat} {sz : Nat} {fz : Bool} {es rs : List PV} (hb : (i, (⟨fz, .arr sz es⟩ : HO)) ∈ B) (hl : es.length = len) (h : RdL B n es rs) : Rd1 B (n + 1) (.msl i 0 len len) (.isl false sz rs) :=
  h.elim fun _ h => ⟨_, .msl hb (by omega) (by rw [List.drop_zero, List.take_of_length_le (by omega)]; exact h)⟩
end Hp
end
