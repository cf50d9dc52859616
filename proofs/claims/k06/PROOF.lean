import PyProof.Rows.All
import Wide.All
import OpenK.AllK
import Wide.FinOn
import HandS.ForMost
import HandS.ForExc
import HandS.TryMany
import HandS.ExcIs
import HandS.IsInst
import PySem.Challenge.RW_discwright_k06_fixed_clock
set_option Elab.async false
set_option linter.all false
set_option maxRecDepth 100000
set_option autoImplicit false
set_option maxHeartbeats 4000000
namespace Pf
open PySem PySem.Spec PyProof.Rows L2
/-! ### heaps -/
theorem same_new {H H' : Hp} {p : Addr} {o : HO} (s : Same H H') (h : H p = none) : Same H (upd H' p o) := fun b x e => by
  rw [upd_ne (ne_of_none e h)]
  exact s b x e
theorem same_upd {H : Hp} {p : Addr} {o : HO} (h : H p = none) : Same H (upd H p o) := same_new (Same.refl H) h
theorem same_nx {H H' : Hp} {p : Addr} {o : HO} (s : Same H H') (h : H' p = none) : Same H (upd H' p o) := same_new s (s.free h)
theorem at_new {H : Hp} {p q : Addr} {o x : HO} (h : H p = none) (e : H q = some x) : upd H p o q = some x := same_upd h q x e
theorem _root_.L2.Same.sqt {K : PySem.W.Frag} {H H' : Hp} {a : Addr} {xs : List V} (e : Same H H') (h : SqT K H a xs) : SqT K H' a xs := by
  rcases h with (h | ⟨o, h⟩) | h
  · exact .inl (.inl (e _ _ h))
  · exact .inl (.inr ⟨o, e _ _ h⟩)
  · exact .inr h
theorem line_of {n : Nat} (h : n ≤ 16777216) : n ≤ sizeLine := by rw [sizeLine_eq]; exact h
theorem line_lt {n : Nat} (h : n < 16777216) : n < sizeLine := by rw [sizeLine_eq]; exact h
theorem map_at {α β : Type} {f : α → β} {xs : List α} {i : Nat} {y : β} (h : (xs.map f)[i]? = some y) : ∃ x, xs[i]? = some x ∧ y = f x := by
  rw [List.getElem?_map] at h
  cases e : xs[i]? with
  | none => rw [e] at h; cases h
  | some x => rw [e] at h; exact ⟨x, rfl, (Option.some.inj h).symm⟩
theorem take_more {α : Type} {l : List α} {i : Nat} {x : α} (h : l[i]? = some x) : l.take (i + 1) = l.take i ++ [x] := by
  rw [List.take_add_one, h]; rfl
theorem cut_at {α : Type} {l : List α} {i : Nat} {x : α} (h : l[i]? = some x) : l = l.take i ++ x :: l.drop (i + 1) := by
  obtain ⟨hi, e⟩ := List.getElem?_eq_some_iff.mp h
  rw [← e, ← List.drop_eq_getElem_cons hi, List.take_append_drop]
theorem sql_id {K : PySem.W.Frag} {H : Hp} {a : Addr} {xs : List V} (h : SqL K H a xs) : SqL K H a xs := h
theorem sqt_id {K : PySem.W.Frag} {H : Hp} {a : Addr} {xs : List V} (h : SqT K H a xs) : SqT K H a xs := h
/-! ### tests -/
theorem iteD {p A B : Prop} [Decidable p] (h1 : p → A) (h2 : ¬ p → B) : if decide p = true then A else B := by
  by_cases h : p
  · rw [if_pos (decide_eq_true h)]; exact h1 h
  · rw [if_neg (by simp [h])]; exact h2 h
theorem iteDn {p A B : Prop} [Decidable p] (h1 : ¬ p → A) (h2 : p → B) : if (!decide p) = true then A else B := by
  by_cases h : p
  · rw [if_neg (by simp [h])]; exact h2 h
  · rw [if_pos (by simp [h])]; exact h1 h
theorem iteB {b : Bool} {A B : Prop} (h1 : b = true → A) (h2 : b = false → B) : if b = true then A else B := by
  cases b with
  | true => exact iteT (h1 rfl)
  | false => exact iteF (h2 rfl)
theorem ofN {p : Prop} [Decidable p] (h : (!decide p) = true) : ¬ p := by simpa using h
theorem ofNf {p : Prop} [Decidable p] (h : (!decide p) = false) : p := by simpa using h
theorem ofV {a b : Int} (h : decide (V.int a = V.int b) = true) : a = b := V.int.inj (of_decide_eq_true h)
theorem ofVf {a b : Int} (h : decide (V.int a = V.int b) = false) : a ≠ b := fun z => (of_decide_eq_false h) (congrArg V.int z)
theorem iteI {a b : Int} {A B : Prop} (h1 : a = b → A) (h2 : a ≠ b → B) : if decide (V.int a = V.int b) = true then A else B :=
  iteD (fun e => h1 (V.int.inj e)) (fun e => h2 fun z => e (congrArg V.int z))
theorem iteIn {a b : Int} {A B : Prop} (h1 : a ≠ b → A) (h2 : a = b → B) : if (!decide (V.int a = V.int b)) = true then A else B :=
  iteDn (fun e => h1 fun z => e (congrArg V.int z)) (fun e => h2 (V.int.inj e))
/-! ### loops over a list by what has been taken -/
theorem for_pre {α : Type} {K : PySem.W.Frag} {a : Addr} {ns : List α} {emb : α → V} {g : TG} {tb : TS} {D : Ends} {σ : L2.St} {H : Hp} (S : List α → L2.St → Hp → Prop) (h0 : S [] σ H) (hl : ∀ pre σ H, S pre σ H → SqL K H a (ns.map emb))
    (hs : ∀ pre n post σ H, ns = pre ++ n :: post → S pre σ H → g (emb n) σ H fun σ2 H2 => tb { D with nx := S (pre ++ [n]), ct := S (pre ++ [n]), bk := D.nx } σ2 H2) (hd : ∀ σ H, S ns σ H → D.nx σ H) :
    ∃ W : Nat → Nat → L2.St → Hp → Prop, (∃ m, W 0 m σ H) ∧ ∀ i m σ H, W i m σ H →
      ((Itl K a).stop i H ∧ D.nx σ H) ∨ ((Itl K a).go i H ∧ ∃ N : L2.St → Hp → Prop, (∀ σ' H', N σ' H' → ∃ m', m' < m ∧ W (i + 1) m' σ' H') ∧ ∀ x H', (Itl K a).yld i H x H' → g x σ H' fun σ2 H2 => tb { D with nx := N, ct := N, bk := D.nx } σ2 H2) := by
  refine for_list (K := K) (a := a) (xs := ns.map emb) (fun i => S (ns.take i)) (by rw [List.take_zero]; exact h0) (fun i σ H _ h => hl _ σ H h) (fun i x σ H hi h => ?_) (fun σ H h => hd σ H ?_)
  · obtain ⟨n, hn, rfl⟩ := map_at hi
    have := hs (ns.take i) n (ns.drop (i + 1)) σ H (cut_at hn) h
    rw [← take_more hn] at this
    exact this
  · rw [List.length_map, List.take_length] at h; exact h
theorem for_preT {α : Type} {K : PySem.W.Frag} {a : Addr} {ns : List α} {emb : α → V} {g : TG} {tb : TS} {D : Ends} {σ : L2.St} {H : Hp} (S : List α → L2.St → Hp → Prop) (h0 : S [] σ H) (hl : ∀ pre σ H, S pre σ H → SqT K H a (ns.map emb))
    (hs : ∀ pre n post σ H, ns = pre ++ n :: post → S pre σ H → g (emb n) σ H fun σ2 H2 => tb { D with nx := S (pre ++ [n]), ct := S (pre ++ [n]), bk := D.nx } σ2 H2) (hd : ∀ σ H, S ns σ H → D.nx σ H) :
    ∃ W : Nat → Nat → L2.St → Hp → Prop, (∃ m, W 0 m σ H) ∧ ∀ i m σ H, W i m σ H →
      ((Itt K a).stop i H ∧ D.nx σ H) ∨ ((Itt K a).go i H ∧ ∃ N : L2.St → Hp → Prop, (∀ σ' H', N σ' H' → ∃ m', m' < m ∧ W (i + 1) m' σ' H') ∧ ∀ x H', (Itt K a).yld i H x H' → g x σ H' fun σ2 H2 => tb { D with nx := N, ct := N, bk := D.nx } σ2 H2) := by
  refine for_tup (K := K) (a := a) (xs := ns.map emb) (fun i => S (ns.take i)) (by rw [List.take_zero]; exact h0) (fun i σ H _ h => hl _ σ H h) (fun i x σ H hi h => ?_) (fun σ H h => hd σ H ?_)
  · obtain ⟨n, hn, rfl⟩ := map_at hi
    have := hs (ns.take i) n (ns.drop (i + 1)) σ H (cut_at hn) h
    rw [← take_more hn] at this
    exact this
  · rw [List.length_map, List.take_length] at h; exact h
/-! ### comprehensions: what is made so far, by what has been taken -/
section
variable {α : Type} {K : PySem.W.Frag} {a : Addr} {ns : List α} {emb : α → V} {g : TG} {tt : TT} {te : TE} {vs : List Nat} {σ : L2.St} {H1 : Hp} {D : Addr} {Qd : Hp → Prop}
/-- all but what stands at D is kept -/
def But (D : Addr) (H H' : Hp) : Prop := ∀ b o, b ≠ D → H b = some o → H' b = some o
theorem But.upd {D : Addr} {H : Hp} {o : HO} : But D H (upd H D o) := fun b _ hb e => by rw [upd_ne hb]; exact e
theorem _root_.L2.Same.but {D : Addr} {H H' H'' : Hp} (s : Same H H') (hD : H D = none) (b : But D H' H'') : Same H H'' := fun c o e => b c o (ne_of_none e hD) (s c o e)
def LcS (S : List α → List V → Hp → Prop) (D : Addr) (pre : List α) (H : Hp) : Prop := ∃ acc, S pre acc H ∧ H D = some (.lst acc) ∧ acc.length ≤ pre.length
theorem LcS.step {S : List α → List V → Hp → Prop} {pre : List α} {n : α} {acc : List V} {y : V} {H4 : Hp} (hz : pre.length < 16777216) (hm : ∀ pre acc H H', S pre acc H → But D H H' → S pre acc H') (ha : acc.length ≤ pre.length)
    (e : H4 D = some (.lst acc)) (s4 : S (pre ++ [n]) (acc ++ [y]) H4) : ∃ acc, H4 D = some (.lst acc) ∧ acc.length < sizeLine ∧ LcS S D (pre ++ [n]) (upd H4 D (.lst (acc ++ [y]))) :=
  ⟨acc, e, line_lt (by omega), acc ++ [y], hm _ _ _ _ s4 But.upd, upd_same, by simp [List.length_append]; exact ha⟩
theorem LcS.skip {S : List α → List V → Hp → Prop} {pre : List α} {n : α} {acc : List V} {H4 : Hp} (ha : acc.length ≤ pre.length) (e : H4 D = some (.lst acc)) (s4 : S (pre ++ [n]) acc H4) : LcS S D (pre ++ [n]) H4 :=
  ⟨acc, s4, e, by simp [List.length_append]; omega⟩
/-- what a turn is to show -/
def LcTurn (S : List α → List V → Hp → Prop) (D : Addr) (emb : α → V) (ns : List α) (g : TG) (tt : TT) (te : TE) (vs : List Nat) (σ : L2.St) : Prop :=
  ∀ pre n post acc H (Qy : V → Hp → Prop) (Qn : Hp → Prop), ns = pre ++ n :: post → S pre acc H → H D = some (.lst acc) →
    (∀ y H4, H4 D = some (.lst acc) → S (pre ++ [n]) (acc ++ [y]) H4 → Qy y H4) → (∀ H3, H3 D = some (.lst acc) → S (pre ++ [n]) acc H3 → Qn H3) →
    g (emb n) (wipe σ vs) H fun σ2 H2 => wipe σ2 vs = wipe σ vs ∧ tt σ2 H2 fun b H3 => if b = true then te σ2 H3 Qy else Qn H3
theorem lc_pre (S : List α → List V → Hp → Prop) (hz : ns.length < 16777216) (h0 : S [] [] (upd H1 D (.lst []))) (hl : ∀ pre acc H, S pre acc H → SqL K H a (ns.map emb))
    (hm : ∀ pre acc H H', S pre acc H → But D H H' → S pre acc H') (hs : LcTurn S D emb ns g tt te vs σ) (hd : ∀ acc H, S ns acc H → H D = some (.lst acc) → Qd H) :
    ∃ W : Nat → Nat → Hp → Prop, (∃ m, W 0 m (upd H1 D (.lst []))) ∧ ∀ i m H, W i m H →
      ((Itl K a).stop i H ∧ Qd H) ∨ ((Itl K a).go i H ∧ ∃ Nx : Hp → Prop, (∀ H', Nx H' → ∃ m', m' < m ∧ W (i + 1) m' H') ∧ ∀ x H', (Itl K a).yld i H x H' → g x (wipe σ vs) H' fun σ2 H2 => wipe σ2 vs = wipe σ vs ∧ tt σ2 H2 fun b H3 =>
        if b = true then te σ2 H3 fun y H4 => ∃ acc, H4 D = some (.lst acc) ∧ acc.length < sizeLine ∧ Nx (upd H4 D (.lst (acc ++ [y]))) else Nx H3) := by
  refine lc_list (K := K) (a := a) (xs := ns.map emb) (fun i => LcS S D (ns.take i)) ⟨[], by rw [List.take_zero]; exact h0, upd_same, Nat.zero_le _⟩ (fun i H _ ⟨acc, h, _, _⟩ => hl _ _ H h) (fun i x H hi h => ?_) (fun H h => ?_)
  · obtain ⟨n, hn, rfl⟩ := map_at hi
    obtain ⟨acc, h1, h2, h3⟩ := h
    have hlt : (ns.take i).length < 16777216 := Nat.lt_of_le_of_lt (by rw [List.length_take]; exact Nat.min_le_right _ _) hz
    rw [take_more hn]
    exact hs (ns.take i) n (ns.drop (i + 1)) acc H _ _ (cut_at hn) h1 h2 (fun y H4 e s4 => LcS.step hlt hm h3 e s4) fun H3 e s3 => LcS.skip h3 e s3
  · rw [List.length_map, List.take_length] at h
    obtain ⟨acc, h1, h2, _⟩ := h
    exact hd acc H h1 h2
theorem lc_preT (S : List α → List V → Hp → Prop) (hz : ns.length < 16777216) (h0 : S [] [] (upd H1 D (.lst []))) (hl : ∀ pre acc H, S pre acc H → SqT K H a (ns.map emb))
    (hm : ∀ pre acc H H', S pre acc H → But D H H' → S pre acc H') (hs : LcTurn S D emb ns g tt te vs σ) (hd : ∀ acc H, S ns acc H → H D = some (.lst acc) → Qd H) :
    ∃ W : Nat → Nat → Hp → Prop, (∃ m, W 0 m (upd H1 D (.lst []))) ∧ ∀ i m H, W i m H →
      ((Itt K a).stop i H ∧ Qd H) ∨ ((Itt K a).go i H ∧ ∃ Nx : Hp → Prop, (∀ H', Nx H' → ∃ m', m' < m ∧ W (i + 1) m' H') ∧ ∀ x H', (Itt K a).yld i H x H' → g x (wipe σ vs) H' fun σ2 H2 => wipe σ2 vs = wipe σ vs ∧ tt σ2 H2 fun b H3 =>
        if b = true then te σ2 H3 fun y H4 => ∃ acc, H4 D = some (.lst acc) ∧ acc.length < sizeLine ∧ Nx (upd H4 D (.lst (acc ++ [y]))) else Nx H3) := by
  refine lc_tup (K := K) (a := a) (xs := ns.map emb) (fun i => LcS S D (ns.take i)) ⟨[], by rw [List.take_zero]; exact h0, upd_same, Nat.zero_le _⟩ (fun i H _ ⟨acc, h, _, _⟩ => hl _ _ H h) (fun i x H hi h => ?_) (fun H h => ?_)
  · obtain ⟨n, hn, rfl⟩ := map_at hi
    obtain ⟨acc, h1, h2, h3⟩ := h
    have hlt : (ns.take i).length < 16777216 := Nat.lt_of_le_of_lt (by rw [List.length_take]; exact Nat.min_le_right _ _) hz
    rw [take_more hn]
    exact hs (ns.take i) n (ns.drop (i + 1)) acc H _ _ (cut_at hn) h1 h2 (fun y H4 e s4 => LcS.step hlt hm h3 e s4) fun H3 e s3 => LcS.skip h3 e s3
  · rw [List.length_map, List.take_length] at h
    obtain ⟨acc, h1, h2, _⟩ := h
    exact hd acc H h1 h2
/-- by a function of the item, kept as a test says; what was tracked stands -/
def LcFun (f : α → V) (p : α → Bool) (ns : List α) (H1 : Hp) (emb : α → V) (g : TG) (tt : TT) (te : TE) (vs : List Nat) (σ : L2.St) : Prop :=
  ∀ n H (Qy : V → Hp → Prop) (Qn : Hp → Prop), n ∈ ns → Same H1 H → (p n = true → ∀ H4, Same H H4 → Qy (f n) H4) → (p n = false → ∀ H3, Same H H3 → Qn H3) →
    g (emb n) (wipe σ vs) H fun σ2 H2 => wipe σ2 vs = wipe σ vs ∧ tt σ2 H2 fun b H3 => if b = true then te σ2 H3 Qy else Qn H3
theorem LcFun.turn {f : α → V} {p : α → Bool} (hD : H1 D = none) (h : LcFun f p ns H1 emb g tt te vs σ) : LcTurn (fun pre acc H => Same H1 H ∧ acc = (pre.filter p).map f) D emb ns g tt te vs σ := by
  rintro pre n post acc H Qy Qn e ⟨s, rfl⟩ hl hy hn
  refine h n H Qy Qn (by rw [e]; simp) s (fun c H4 s4 => hy _ H4 (s4 _ _ hl) ⟨s.trans s4, ?_⟩) (fun c H3 s3 => hn H3 (s3 _ _ hl) ⟨s.trans s3, ?_⟩)
  · simp [List.filter_append, List.filter_cons, c]
  · simp [List.filter_append, List.filter_cons, c]
theorem lc_fun (f : α → V) (p : α → Bool) (hD : H1 D = none) (hz : ns.length < 16777216) (hl : SqL K H1 a (ns.map emb)) (hs : LcFun f p ns H1 emb g tt te vs σ) (hd : ∀ H, Same H1 H → H D = some (.lst ((ns.filter p).map f)) → Qd H) :
    ∃ W : Nat → Nat → Hp → Prop, (∃ m, W 0 m (upd H1 D (.lst []))) ∧ ∀ i m H, W i m H →
      ((Itl K a).stop i H ∧ Qd H) ∨ ((Itl K a).go i H ∧ ∃ Nx : Hp → Prop, (∀ H', Nx H' → ∃ m', m' < m ∧ W (i + 1) m' H') ∧ ∀ x H', (Itl K a).yld i H x H' → g x (wipe σ vs) H' fun σ2 H2 => wipe σ2 vs = wipe σ vs ∧ tt σ2 H2 fun b H3 =>
        if b = true then te σ2 H3 fun y H4 => ∃ acc, H4 D = some (.lst acc) ∧ acc.length < sizeLine ∧ Nx (upd H4 D (.lst (acc ++ [y]))) else Nx H3) :=
  lc_pre (fun pre acc H => Same H1 H ∧ acc = (pre.filter p).map f) hz ⟨same_upd hD, rfl⟩ (fun _ _ _ h => h.1.seq hl) (fun _ _ _ _ h b => ⟨h.1.but hD b, h.2⟩) (hs.turn hD) fun acc H h e => hd H h.1 (by rw [e, h.2])
theorem lc_funT (f : α → V) (p : α → Bool) (hD : H1 D = none) (hz : ns.length < 16777216) (hl : SqT K H1 a (ns.map emb)) (hs : LcFun f p ns H1 emb g tt te vs σ) (hd : ∀ H, Same H1 H → H D = some (.lst ((ns.filter p).map f)) → Qd H) :
    ∃ W : Nat → Nat → Hp → Prop, (∃ m, W 0 m (upd H1 D (.lst []))) ∧ ∀ i m H, W i m H →
      ((Itt K a).stop i H ∧ Qd H) ∨ ((Itt K a).go i H ∧ ∃ Nx : Hp → Prop, (∀ H', Nx H' → ∃ m', m' < m ∧ W (i + 1) m' H') ∧ ∀ x H', (Itt K a).yld i H x H' → g x (wipe σ vs) H' fun σ2 H2 => wipe σ2 vs = wipe σ vs ∧ tt σ2 H2 fun b H3 =>
        if b = true then te σ2 H3 fun y H4 => ∃ acc, H4 D = some (.lst acc) ∧ acc.length < sizeLine ∧ Nx (upd H4 D (.lst (acc ++ [y]))) else Nx H3) :=
  lc_preT (fun pre acc H => Same H1 H ∧ acc = (pre.filter p).map f) hz ⟨same_upd hD, rfl⟩ (fun _ _ _ h => h.1.sqt hl) (fun _ _ _ _ h b => ⟨h.1.but hD b, h.2⟩) (hs.turn hD) fun acc H h e => hd H h.1 (by rw [e, h.2])
/-- .. all of them -/
theorem lc_map (f : α → V) (hD : H1 D = none) (hz : ns.length < 16777216) (hl : SqL K H1 a (ns.map emb)) (hs : LcFun f (fun _ => true) ns H1 emb g tt te vs σ) (hd : ∀ H, Same H1 H → H D = some (.lst (ns.map f)) → Qd H) :
    ∃ W : Nat → Nat → Hp → Prop, (∃ m, W 0 m (upd H1 D (.lst []))) ∧ ∀ i m H, W i m H →
      ((Itl K a).stop i H ∧ Qd H) ∨ ((Itl K a).go i H ∧ ∃ Nx : Hp → Prop, (∀ H', Nx H' → ∃ m', m' < m ∧ W (i + 1) m' H') ∧ ∀ x H', (Itl K a).yld i H x H' → g x (wipe σ vs) H' fun σ2 H2 => wipe σ2 vs = wipe σ vs ∧ tt σ2 H2 fun b H3 =>
        if b = true then te σ2 H3 fun y H4 => ∃ acc, H4 D = some (.lst acc) ∧ acc.length < sizeLine ∧ Nx (upd H4 D (.lst (acc ++ [y]))) else Nx H3) :=
  lc_fun f (fun _ => true) hD hz hl hs fun H s e => hd H s (by rw [e, List.filter_eq_self.mpr (fun _ _ => rfl)])
theorem lc_mapT (f : α → V) (hD : H1 D = none) (hz : ns.length < 16777216) (hl : SqT K H1 a (ns.map emb)) (hs : LcFun f (fun _ => true) ns H1 emb g tt te vs σ) (hd : ∀ H, Same H1 H → H D = some (.lst (ns.map f)) → Qd H) :
    ∃ W : Nat → Nat → Hp → Prop, (∃ m, W 0 m (upd H1 D (.lst []))) ∧ ∀ i m H, W i m H →
      ((Itt K a).stop i H ∧ Qd H) ∨ ((Itt K a).go i H ∧ ∃ Nx : Hp → Prop, (∀ H', Nx H' → ∃ m', m' < m ∧ W (i + 1) m' H') ∧ ∀ x H', (Itt K a).yld i H x H' → g x (wipe σ vs) H' fun σ2 H2 => wipe σ2 vs = wipe σ vs ∧ tt σ2 H2 fun b H3 =>
        if b = true then te σ2 H3 fun y H4 => ∃ acc, H4 D = some (.lst acc) ∧ acc.length < sizeLine ∧ Nx (upd H4 D (.lst (acc ++ [y]))) else Nx H3) :=
  lc_funT f (fun _ => true) hD hz hl hs fun H s e => hd H s (by rw [e, List.filter_eq_self.mpr (fun _ _ => rfl)])
end
/-! over a range: the turns are 0 .. n - 1 -/
section
variable {lo : Int} {n : Nat} {g : TG} {tt : TT} {te : TE} {vs : List Nat} {σ : L2.St} {H1 : Hp} {D : Addr} {Qd : Hp → Prop}
theorem lc_preR (S : Nat → List V → Hp → Prop) (hz : n < 16777216) (h0 : S 0 [] (upd H1 D (.lst []))) (hm : ∀ i acc H H', S i acc H → But D H H' → S i acc H')
    (hs : ∀ i acc H (Qy : V → Hp → Prop) (Qn : Hp → Prop), i < n → S i acc H → H D = some (.lst acc) → (∀ y H4, H4 D = some (.lst acc) → S (i + 1) (acc ++ [y]) H4 → Qy y H4) → (∀ H3, H3 D = some (.lst acc) → S (i + 1) acc H3 → Qn H3) →
      g (.int (lo + i)) (wipe σ vs) H fun σ2 H2 => wipe σ2 vs = wipe σ vs ∧ tt σ2 H2 fun b H3 => if b = true then te σ2 H3 Qy else Qn H3)
    (hd : ∀ acc H, S n acc H → H D = some (.lst acc) → Qd H) :
    ∃ W : Nat → Nat → Hp → Prop, (∃ m, W 0 m (upd H1 D (.lst []))) ∧ ∀ i m H, W i m H →
      ((Itr lo n).stop i H ∧ Qd H) ∨ ((Itr lo n).go i H ∧ ∃ Nx : Hp → Prop, (∀ H', Nx H' → ∃ m', m' < m ∧ W (i + 1) m' H') ∧ ∀ x H', (Itr lo n).yld i H x H' → g x (wipe σ vs) H' fun σ2 H2 => wipe σ2 vs = wipe σ vs ∧ tt σ2 H2 fun b H3 =>
        if b = true then te σ2 H3 fun y H4 => ∃ acc, H4 D = some (.lst acc) ∧ acc.length < sizeLine ∧ Nx (upd H4 D (.lst (acc ++ [y]))) else Nx H3) := by
  refine lc_range (lo := lo) (n := n) (fun i H => ∃ acc, S i acc H ∧ H D = some (.lst acc) ∧ acc.length ≤ i) ⟨[], h0, upd_same, Nat.le_refl _⟩ (fun i H hi h => ?_) (fun H h => ?_)
  · obtain ⟨acc, h1, h2, h3⟩ := h
    exact hs i acc H _ _ hi h1 h2 (fun y H4 e s4 => ⟨acc, e, line_lt (by omega), acc ++ [y], hm _ _ _ _ s4 But.upd, upd_same, by simp [List.length_append]; exact h3⟩) fun H3 e s3 => ⟨acc, s3, e, by omega⟩
  · obtain ⟨acc, h1, h2, _⟩ := h
    exact hd acc H h1 h2
end
/-! ### a statement's end by a word of one's own -/
def tCut (t u : TS) : TS := fun D σ H => ∃ R : L2.St → Hp → Prop, t { D with nx := R } σ H ∧ ∀ σ' H', R σ' H' → u D σ' H'
theorem pss_cut {X : Cx} {st : Stmt} {rest : List Stmt} {t u : TS} (h1 : PS X st t) (h2 : PSs X rest u) : PSs X (st :: rest) (tCut t u) := by
  refine ⟨fun pins s σ H D I ⟨R, h, hr⟩ => ?_⟩
  refine wpAny_execs_cons (thn (h1.run pins s σ H { D with nx := R } I h) fun f s1 q => ?_)
  cases f with
  | next =>
    obtain ⟨σ', H', I', q⟩ := q
    exact h2.run pins s1 σ' H' D I' (hr _ _ q)
  | ret v => exact q
  | brk => exact q
  | cont => exact q
theorem rep_flat {α : Type} (x : α) (k : Nat) : (List.replicate k [x]).flatten = List.replicate k x := by
  induction k with
  | zero => rfl
  | succ k ih => rw [List.replicate_succ, List.flatten_cons, ih]; rfl
theorem rep_ints (x : Int) (k : Nat) : (List.replicate k [V.int x]).flatten = (List.replicate k x).map V.int := by rw [rep_flat, List.map_replicate]
theorem at_of' {α : Type} {xs : List α} {k : Int} (h : k.toNat < xs.length) (h0 : 0 ≤ k) : atI xs k = some xs[k.toNat] := by
  have e : k = (k.toNat : Int) := by omega
  have := atI_nat (List.getElem?_eq_getElem h)
  rw [← e] at this
  exact this
theorem at_int {ns : List Int} {k : Int} (h0 : 0 ≤ k) (h1 : k < ns.length) : ∃ n, atI (ns.map V.int) k = some (V.int n) ∧ ns[k.toNat]? = some n := by
  have hk : k.toNat < ns.length := by omega
  exact ⟨ns[k.toNat], at_of (j := k.toNat) (by omega) (by rw [List.getElem?_map, List.getElem?_eq_getElem hk]; rfl), List.getElem?_eq_getElem hk⟩
theorem pick {α : Type} {xs : List α} {k : Int} (h0 : 0 ≤ k) (h1 : k < xs.length) : ∃ v, atI xs k = some v ∧ v ∈ xs := by
  have hk : k.toNat < xs.length := by omega
  exact ⟨xs[k.toNat], at_of' hk h0, List.getElem_mem hk⟩
/-! ### reading, step by step -/
section
variable {K : PySem.W.Frag} {H : Hp} {Q : VK} {p q : Addr} {xs ys : List V} {i : Int} {v y : V}
theorem rd_ixl (h : SqL K H p xs) (e : atI xs i = some v) (k : Q v H) : rIxL K (.ref p) (.int i) H Q := ⟨_, _, _, _, rfl, rfl, h, e, k⟩
theorem rd_ixt (h : SqT K H p xs) (e : atI xs i = some v) (k : Q v H) : rIxT K (.ref p) (.int i) H Q := ⟨_, _, _, _, rfl, rfl, h, e, k⟩
theorem rd_append (h : H p = some (.lst xs)) (z : xs.length < sizeLine) (k : Q .non (upd H p (.lst (xs ++ [y])))) : rAppend (.ref p) [y] H Q := ⟨_, _, _, rfl, rfl, h, z, k⟩
theorem rd_set {k : Hp → Prop} {j : Nat} (h : H p = some (.lst xs)) (e : ixN xs.length i = some j) (q : k (upd H p (.lst (xs.set j v)))) : rSetL (.ref p) (.int i) v H k := ⟨_, _, _, _, rfl, rfl, h, e, q⟩
def rLenS (K : PySem.W.Frag) : List V → Hp → VK → Prop := fun xs H Q => ∃ p ys, xs = [.ref p] ∧ (SqL K H p ys ∨ SqT K H p ys) ∧ Q (.int ys.length) H
theorem rd_lenl (h : SqL K H p xs) (k : Q (.int xs.length) H) : rLenS K [.ref p] H Q := ⟨_, _, rfl, .inl h, k⟩
theorem rd_lent (h : SqT K H p xs) (k : Q (.int xs.length) H) : rLenS K [.ref p] H Q := ⟨_, _, rfl, .inr h, k⟩
theorem rd_extend (h : H p = some (.lst xs)) (h2 : H q = some (.lst ys)) (z : xs.length + ys.length ≤ sizeLine) (k : Q .non (upd H p (.lst (xs ++ ys)))) : rExtend (.ref p) [.ref q] H Q := ⟨_, _, _, _, rfl, rfl, h, h2, z, k⟩
theorem rd_cat (h : H p = some (.lst xs)) (h2 : H q = some (.lst ys)) (z : xs.length + ys.length ≤ sizeLine) (k : ∀ r, H r = none → Q (.ref r) (upd H r (.lst (xs ++ ys)))) : rCat (.ref p) (.ref q) H Q := ⟨_, _, _, _, rfl, rfl, h, h2, z, k⟩
theorem rd_rep (h : H p = some (.lst xs)) (a : -(2 ^ 63) ≤ i) (b : i < 2 ^ 63) (z : xs.length * i.toNat ≤ sizeLine) (k : ∀ r, H r = none → Q (.ref r) (upd H r (.lst (List.replicate i.toNat xs).flatten))) : rRep (.ref p) (.int i) H Q := ⟨_, _, _, rfl, rfl, h, a, b, z, k⟩
end
local macro_rules | `(tactic| walk_at "arith") => `(tactic| first | omega | (simp only [List.length_map, List.length_append, List.length_cons, List.length_nil, List.length_replicate]; omega))
local macro_rules | `(tactic| walk_at "side") => `(tactic| first
  | (show (_ : Int) < _; walk_at "arith")
  | (show (_ : Int) ≤ _; walk_at "arith")
  | (show (_ : Nat) < _; walk_at "arith")
  | (show (_ : Nat) ≤ _; walk_at "arith")
  | assumption
  | (show _ ≤ sizeLine; refine line_of ?_; walk_at "arith")
  | (show CMul _ _; first | exact .inr ⟨by decide, by decide⟩ | exact .inl ⟨by decide, by decide⟩ | (unfold CMul; omega))
  | (show CDiv _ _; first | exact ⟨by decide, by decide⟩ | (unfold CDiv; omega))
  | (show CPow _ _; unfold CPow; omega)
  | (show _ = _; exact rfl))
local macro_rules | `(tactic| walk_at "ne") => `(tactic| first | assumption | exact Ne.symm (by assumption) | exact ne_of_none (by assumption) (by assumption) | exact (ne_of_none (by assumption) (by assumption)).symm | exact ne_of (by assumption) (by assumption) (by intro z; cases z))
local macro_rules | `(tactic| walk_at "hp0") => `(tactic| first | assumption | exact upd_same)
local macro_rules | `(tactic| walk_at "hp1") => `(tactic| first | assumption | exact upd_same | (with_reducible refine Eq.trans (upd_ne ?_) ?_; (focus walk_at "ne"); walk_at "hp0"))
local macro_rules | `(tactic| walk_at "hp2") => `(tactic| first | assumption | exact upd_same | (with_reducible refine Eq.trans (upd_ne ?_) ?_; (focus walk_at "ne"); walk_at "hp1"))
local macro_rules | `(tactic| walk_at "hp") => `(tactic| first | assumption | exact upd_same | (with_reducible refine Eq.trans (upd_ne ?_) ?_; (focus walk_at "ne"); walk_at "hp2"))
local macro_rules | `(tactic| walk_at "sq") => `(tactic| first | assumption | exact SqL.of (by walk_at "hp") | exact SqT.of (by walk_at "hp") | exact Same.seq (by assumption) (by assumption) | exact L2.Same.sqt (by assumption) (by assumption))
local macro_rules | `(tactic| walk_at "sizeL") => `(tactic| (show _ < sizeLine; first | assumption | (refine line_lt ?_; first | omega | (simp only [List.length_map, List.length_append, List.length_cons, List.length_nil, List.length_replicate]; omega))))
local macro_rules | `(tactic| walk_at "sizeE") => `(tactic| (show _ ≤ sizeLine; first | assumption | (refine line_of ?_; first | omega | (simp only [List.length_map, List.length_append, List.length_cons, List.length_nil, List.length_replicate]; omega))))
local macro_rules | `(tactic| walk_at "sideI") => `(tactic| first | (show (_ : Int) ≤ _; first | assumption | omega) | (show (_ : Int) < _; first | assumption | omega))
local macro_rules | `(tactic| walk_at "rd1") => `(tactic| first
  | refine ⟨_, rfl, ?_⟩
  | refine ⟨_, _, rfl, rfl, ?_⟩
  | refine ⟨_, _, _, rfl, rfl, (by walk_at "hp"), (by walk_at "sizeL"), ?_⟩
  | refine ⟨_, _, _, _, rfl, rfl, (by walk_at "hp"), (by walk_at "hp"), (by walk_at "sizeE"), ?_⟩
  | refine ⟨_, _, _, rfl, rfl, (by walk_at "hp"), (by walk_at "sideI"), (by walk_at "sideI"), (by walk_at "sizeE"), ?_⟩
  | refine ⟨_, _, _, _, rfl, rfl, (by walk_at "sq"), (by first | assumption | rfl), ?_⟩
  | refine ⟨_, _, _, _, rfl, rfl, (by walk_at "hp"), by rfl, ?_⟩
  | refine ⟨_, _, (rfl : _ = [V.int _, V.int _]), ?_⟩
  | refine ⟨_, _, rfl, .inl (by walk_at "sq"), ?_⟩
  | refine ⟨_, _, rfl, .inr (by walk_at "sq"), ?_⟩
  | refine .inl ⟨_, rfl, ?_⟩
  | refine .inr ⟨_, rfl, ?_⟩
  | refine And.intro (.inl ⟨rfl, _, (by walk_at "sq")⟩) ?_
  | refine And.intro ⟨_, (by walk_at "sq")⟩ ?_
  | refine And.intro rfl ?_
  | refine And.intro (by walk_at "side") ?_
  | (show if true = true then _ else _; refine iteT ?_)
  | (show if false = true then _ else _; refine iteF ?_))
local macro_rules | `(tactic| walk_at "rd") => `(tactic| repeat (walk_at "rd1"))
/-! ### own data: a value's type -/
theorem but_trans {D : Addr} {H H' H'' : Hp} (a : But D H H') (b : But D H' H'') : But D H H'' := fun c o n e => b c o n (a c o n e)
theorem but_refl {D : Addr} {H : Hp} : But D H H := fun _ _ _ e => e
theorem but_new {D p : Addr} {o : HO} {H H' : Hp} (a : But D H H') (h : H' p = none) : But D H (upd H' p o) := fun c x n e => by
  rw [upd_ne (ne_of_none (a c x n e) h)]; exact a c x n e
/-! ### the rules with the written part K named (a comprehension's reading must not speak of its own block) -/
section
variable {X : Cx} (K : PySem.W.Frag) (eK : X.K = K := by rfl) {e a b o value : Expr} {es : List Expr} {f : Str} {pos pos' tpos apos cpos : Pos} {ta tb tv te tl to : TE} {t : TA} {tg : Expr} {op : Operator}
include eK
theorem ix_listK : IxR X (rIxL K) := by subst eK; exact ix_list
theorem ix_tupK : IxR X (rIxT K) := by subst eK; exact ix_tup
theorem ix_seqK : IxR X (rIx K) := by subst eK; exact ix_seq
theorem sl_listK : SlR X (rSlL K) := by subst eK; exact sl_list
theorem sl_tupK : SlR X (rSlT K) := by subst eK; exact sl_tup
theorem op_inK : OpR X (compareOp .In) (rIn K false) := by subst eK; exact op_in_seq
theorem op_notInK : OpR X (compareOp .NotIn) (rIn K true) := by subst eK; exact op_notIn_seq
theorem op_eqDK (hu : X.A.units + 64 < cLine) : OpR X (compareOp .Eq) (rEqD K) := by subst eK; exact op_eqD hu
theorem op_neDK (hu : X.A.units + 64 < cLine) : OpR X (compareOp .NotEq) (rNeD K) := by subst eK; exact op_neD hu
theorem op_catTK : OpR X (binaryOp .Add) (rCatT K) := by subst eK; exact op_catT
def rListOf (K : PySem.W.Frag) : List V → Hp → VK → Prop := fun xs H Q => ∃ p ys, xs = [.ref p] ∧ (SqL K H p ys ∨ SqT K H p ys) ∧ ∀ l, H l = none → Q (.ref l) (upd H l (.lst ys))
def rTupOf (K : PySem.W.Frag) : List V → Hp → VK → Prop := fun xs H Q => ∃ p ys, xs = [.ref p] ∧ ((SqL K H p ys ∧ ∀ l, H l = none → Q (.ref l) (upd H l (.tup ys))) ∨ (SqT K H p ys ∧ Q (.ref p) H))
theorem call_lenK : CallR X (.builtin "len") (rLenS K) := by subst eK; exact call_len_seq
theorem call_listK : CallR X (.type "list") (rListOf K) := by subst eK; exact call_list_of
theorem call_tupleK : CallR X (.type "tuple") (rTupOf K) := by subst eK; exact call_tuple_of
theorem cr_sumK (hc : X.calm = true) : CallR X (.builtin "sum") (rSum K) := by subst eK; exact cr_sum hc
theorem cr_maxK (hc : X.calm = true) : CallR X (.builtin "max") (rMax K) := by subst eK; exact cr_max hc
theorem cr_minK (hc : X.calm = true) : CallR X (.builtin "min") (rMin K) := by subst eK; exact cr_min hc
theorem cr_anyK (hc : X.calm = true) : CallR X (.builtin "any") (rAny K) := by subst eK; exact cr_any hc
theorem cr_allK (hc : X.calm = true) : CallR X (.builtin "all") (rAll K) := by subst eK; exact cr_all hc
theorem pi_listK (hl : PE X e tl) : PI X tg e (iList K tl) := by subst eK; exact pi_list hl
theorem pi_tupK (hl : PE X e tl) : PI X tg e (iTup K tl) := by subst eK; exact pi_tup hl
theorem pe_fldK (he : PE X e ta) (hb : attributeBase e f X.env (eval e X.env) = eval e X.env) : PE X (.Attribute e f pos) (tFld K ta f) := by subst eK; exact pe_fld he hb
def tTruth (K : PySem.W.Frag) (ta : TE) : TT := fun σ H Q => ta σ H fun x H' => ∃ k, TruV K x H' k ∧ Q k H'
theorem pt_truthK (ha : PE X a ta) (he : ∀ whole, isTrue a X.env whole = (do let v ← whole; standAt a.pos; holding [v] (truthy v))) : PT X a (tTruth K ta) := by subst eK; exact pt_truth ha he
theorem ps_fldK (ha : PE X o ta) (hv : PE X value tv) (hs : swapsWith value (some (.Attribute o f pos')) pos.line X.env = pure false) : PS X (.Assign [.Attribute o f pos'] value pos) (sFld K ta tv f) := by subst eK; exact ps_fld ha hv hs
end
theorem pe_bmK {X : Cx} (K : PySem.W.Frag) {T id : String} {name : Str} {r : V → List V → Hp → VK → Prop} {o e : Expr} {es : List Expr} {apos cpos : Pos} {to : TE} {t : TA} (pa : PlainAttrs T) (slot : Slot T name id) (hty : typeOf (.builtin id) = pure (.type "method_descriptor")) (hm : MtR X id r) (ho : PE X o to) (ha : PA X (e :: es) t) (eK : X.K = K := by rfl)
    (hbase : attributeBase o name X.env (eval o X.env) = eval o X.env := by rfl)
    (hfew : ((backTo cpos (starEach (e :: es) X.env)).all (fun x => !x.1) && (backToKw cpos (keywordEach [] X.env)).all (fun x => x.1.isSome)
      && decide ((e :: es).length + ([] : List Keyword).length + (if ([] : List Keyword).isEmpty then 0 else 1) < 30)) = true := by rfl)
    (hline : (apos.endLine == cpos.line) = true := by rfl) (hs : starEach (e :: es) X.env = (false, eval e X.env) :: starEach es X.env := by rfl) (hplain : (backTo cpos (starEach es X.env)).any (·.1) = false := by rfl) :
    PE X (.Call (.Attribute o name apos) (e :: es) [] cpos) (tBM K T r to t) := by subst eK; exact pe_bm pa slot hty hm ho ha hbase hfew hline hs hplain
theorem pe_bm0K {X : Cx} (K : PySem.W.Frag) {T id : String} {name : Str} {r : V → List V → Hp → VK → Prop} {o : Expr} {apos cpos : Pos} {to : TE} (pa : PlainAttrs T) (slot : Slot T name id) (hty : typeOf (.builtin id) = pure (.type "method_descriptor")) (hm : MtR X id r) (ho : PE X o to) (eK : X.K = K := by rfl)
    (hbase : attributeBase o name X.env (eval o X.env) = eval o X.env := by rfl) (hline : (apos.endLine == cpos.line) = true := by rfl) : PE X (.Call (.Attribute o name apos) [] [] cpos) (tBM0 K T r to) := by subst eK; exact pe_bm0 pa slot hty hm ho hbase hline
/-! ### == of lists and tuples of ints -/
theorem dpA_ints {K : PySem.W.Frag} {H : Hp} : ∀ ns : List Int, DpAll K H (ns.map V.int) (ns.map PyData.int)
  | [] => .nil
  | n :: ns => .cons (.int n) (dpA_ints ns)
theorem canA_ints : ∀ ns : List Int, PyData.canLayAll0 (ns.map PyData.int) = true
  | [] => rfl
  | n :: ns => by show (true && PyData.canLayAll0 (ns.map PyData.int)) = true; rw [canA_ints ns]; rfl
theorem depA_ints : ∀ ns : List Int, PyData.depthAll (ns.map PyData.int) = 0
  | [] => rfl
  | n :: ns => by show max 0 (PyData.depthAll (ns.map PyData.int)) = 0; rw [depA_ints ns]; rfl
theorem shaped_li (ns : List Int) : SeqAt.shaped (.list (ns.map PyData.int)) = true := by
  show (PyData.canLayAll0 (ns.map PyData.int) && decide (PyData.depthAll (ns.map PyData.int) + 1 ≤ 64)) = true
  rw [canA_ints, depA_ints]; rfl
theorem shaped_ti (ns : List Int) : SeqAt.shaped (.tuple (ns.map PyData.int)) = true := by
  show (PyData.canLayAll0 (ns.map PyData.int) && decide (PyData.depthAll (ns.map PyData.int) + 1 ≤ 64)) = true
  rw [canA_ints, depA_ints]; rfl
theorem eqvA_ints : ∀ ns ms : List Int, PyData.eqvAll (ns.map PyData.int) (ms.map PyData.int) = decide (ns = ms)
  | [], [] => rfl
  | [], _ :: _ => rfl
  | _ :: _, [] => rfl
  | n :: ns, m :: ms => by
    show ((n == m) && PyData.eqvAll (ns.map PyData.int) (ms.map PyData.int)) = _
    rw [eqvA_ints ns ms]
    by_cases h : n = m <;> by_cases h2 : ns = ms <;> simp [h, h2]
section
variable {K : PySem.W.Frag} {H : Hp} {a b : Addr} {ns ms : List Int} {Q : VK}
theorem eqd_ll (h1 : SqL K H a (ns.map V.int)) (h2 : SqL K H b (ms.map V.int)) (q : Q (.bl (decide (ns = ms))) H) : rEqD K (.ref a) (.ref b) H Q :=
  ⟨_, _, .lst h1 (dpA_ints ns), .lst h2 (dpA_ints ms), shaped_li ns, shaped_li ms, by rw [show PyData.eqv (.list (ns.map PyData.int)) (.list (ms.map PyData.int)) = _ from eqvA_ints ns ms]; exact q⟩
theorem ned_ll (h1 : SqL K H a (ns.map V.int)) (h2 : SqL K H b (ms.map V.int)) (q : Q (.bl (!decide (ns = ms))) H) : rNeD K (.ref a) (.ref b) H Q :=
  ⟨_, _, .lst h1 (dpA_ints ns), .lst h2 (dpA_ints ms), shaped_li ns, shaped_li ms, by rw [show PyData.eqv (.list (ns.map PyData.int)) (.list (ms.map PyData.int)) = _ from eqvA_ints ns ms]; exact q⟩
theorem eqd_tt (h1 : SqT K H a (ns.map V.int)) (h2 : SqT K H b (ms.map V.int)) (q : Q (.bl (decide (ns = ms))) H) : rEqD K (.ref a) (.ref b) H Q :=
  ⟨_, _, .tup h1 (dpA_ints ns), .tup h2 (dpA_ints ms), shaped_ti ns, shaped_ti ms, by rw [show PyData.eqv (.tuple (ns.map PyData.int)) (.tuple (ms.map PyData.int)) = _ from eqvA_ints ns ms]; exact q⟩
theorem ned_tt (h1 : SqT K H a (ns.map V.int)) (h2 : SqT K H b (ms.map V.int)) (q : Q (.bl (!decide (ns = ms))) H) : rNeD K (.ref a) (.ref b) H Q :=
  ⟨_, _, .tup h1 (dpA_ints ns), .tup h2 (dpA_ints ms), shaped_ti ns, shaped_ti ms, by rw [show PyData.eqv (.tuple (ns.map PyData.int)) (.tuple (ms.map PyData.int)) = _ from eqvA_ints ns ms]; exact q⟩
end
/-! ### errors -/
/-- isinstance(e, c), e what the suite holds -/
theorem call_isEx {X : Cx} (K : PySem.W.Frag) (eK : X.K = K := by rfl) {a : Addr} {cls : Value} {d : Option Addr} {oe : Obj} {pn : List (Addr × Obj)} (hz : Zc cls d oe) (hf : ∃ vs, oe.data = .fields vs) :
    CallR (X.suite a ((a, oe) :: pn)) (.builtin "isinstance") (fun xs H Q => ∃ D, cls = .ref D ∧ d = none ∧ ExcC K D ∧ rIsE K D a xs H Q) := by
  subst eK
  intro pins s σ H xs us Q I r h
  obtain ⟨D, rfl, rfl, C, h⟩ := h
  exact call_isE C hz hf pins s σ H xs us Q I r h
section
variable {X : Cx} {CX : CXT} {k : Nat} {f C : Addr} {fd : FuncData} {ps : List Str} {sp : Sp} {dvs : List V} {ds : List Value} {E : L2.St → XK} {x m : Str} {p pos apos : Pos} {e o : Expr} {es : List Expr} {t : TA} {ta : TE}
theorem run_makeS {pins : List (Addr × Obj)} {σ : L2.St} {H : Hp} {s : Shared} {Q : VK} {us : List Value} {vs : List V} (M : Mk X.K C f) (F : FnOk X.prog X.w X.K X.mg X.base CX k f fd ps sp) (hr : Room (k + 1) X.A) (hb : Binds X.K fd ps ds) (hd : Vals dvs ds)
    (hx : PassesAt CX X σ (E σ)) (I : Inv X pins σ H s) (r : Vals vs us)
    (h : ∀ x dx, H x = none → H dx = none → dx ≠ x → sp (.ref x :: (vs ++ dvs)) (upd (upd H dx (.own x)) x (.ins C dx [])) (fun v H2 => v = .non ∧ Q (.ref x) H2) (E σ)) :
    wpAny (model X.prog X.w) X.A (call (.ref C) us) (EP X pins σ Q) X.xe s := by
  have hq := h (s.heap.objs.size + 1) s.heap.objs.size (I.hok.fresh (Nat.le_succ _)) (I.hok.fresh (Nat.le_refl _)) (Nat.ne_of_lt (Nat.lt_succ_self _))
  have I2 := Inv.made (C := C) I
  have r2 : Vals (V.ref (s.heap.objs.size + 1) :: (vs ++ dvs)) (Value.ref (s.heap.objs.size + 1) :: (us ++ ds)) := .cons rfl (r.append hd)
  have hl : (Value.ref (s.heap.objs.size + 1) :: us ++ ds).length = ps.length := by
    have e := r2.length
    rw [F.len _ _ _ _ hq] at e
    exact e.symm
  refine wpAny_call (make_map (f := f) I.kIn M.makes M.init (beq_iff_eq.mp M.fn) (codeAny_mono (F.run _ X.stack _ _ ⟨Value.ref (s.heap.objs.size + 1) :: us, []⟩ (Value.ref (s.heap.objs.size + 1) :: (us ++ ds)) _ _ (E σ) (hr.make C us [])
    (I2.env0.make C us []) (hb _ (Value.ref (s.heap.objs.size + 1) :: us) I2.kIn hl) r2 hq) fun r s' hq' => ?_))
  cases r with
  | error e => exact hx pins _ _ e s' I2 hq'
  | ok fl =>
    cases fl with
    | ret u =>
      obtain ⟨v, H', I3, rv, ev, q3⟩ := I2.after hq'
      subst ev
      exact ⟨rv, ⟨V.ref (s.heap.objs.size + 1), H', I3, rfl, q3⟩⟩
    | next => exact False.elim hq'
    | brk => exact False.elim hq'
    | cont => exact False.elim hq'
def tMakeS (C : Addr) (sp : Sp) (dvs : List V) (E : L2.St → XK) (t : TA) : TE := fun σ H Q => tMake C sp dvs (E σ) t σ H Q
theorem pe_makeS (M : Mk X.K C f) (F : FnOk X.prog X.w X.K X.mg X.base CX k f fd ps sp) (hr : Room (k + 1) X.A) (hg : Gl X x) (hm : X.mg x = some (.ref C)) (hb : Binds X.K fd ps ds) (hd : Vals dvs ds) (hx : ∀ σ, PassesAt CX X σ (E σ))
    (ha : PA X (e :: es) t) (hdb : (x == ("__debug__" : Str)) = false := by decide) (he : starEach (e :: es) X.env = (false, eval e X.env) :: starEach es X.env := by rfl) (hpl : (backTo pos (starEach es X.env)).any (·.1) = false := by rfl) :
    PE X (.Call (.Name x p) (e :: es) [] pos) (tMakeS C sp dvs E t) := by
  refine ⟨fun pins s σ H Q I h => ?_⟩
  refine wpAny_Call_Name_kw (ld_glob I hg hm ?_ hdb)
  refine PySem.W.callWith_K (h₀ := X.base) I.ok.mod.kin M.kp (thn (ha.run pos pins s σ H _ I h) fun us s1 ⟨vs, H1, I1, r, q⟩ => ⟨I1.kIn, ?_⟩) he hpl
  exact run_makeS M F hr hb hd (hx σ) I1 r q
end
/-! ### isinstance -/
theorem kb1 : kitB "list" "tuple" = some false := by decide +kernel
theorem kb2 : kitB "list" "list" = some true := by decide +kernel
theorem kb3 : kitB "tuple" "tuple" = some true := by decide +kernel
theorem kb4 : kitB "tuple" "list" = some false := by decide +kernel
theorem kb5 : kitB "NoneType" "tuple" = some false := by decide +kernel
theorem kb6 : kitB "NoneType" "list" = some false := by decide +kernel
theorem kb7 : kitB "bool" "tuple" = some false := by decide +kernel
theorem kb8 : kitB "bool" "list" = some false := by decide +kernel
theorem kb9 : kitB "bool" "bool" = some true := by decide +kernel
theorem kb10 : kitB "bool" "int" = some true := by decide +kernel
theorem kb11 : kitB "int" "tuple" = some false := by decide +kernel
theorem kb12 : kitB "int" "list" = some false := by decide +kernel
theorem kb13 : kitB "int" "bool" = some false := by decide +kernel
theorem kb14 : kitB "int" "int" = some true := by decide +kernel
theorem kb15 : kitB "str" "tuple" = some false := by decide +kernel
theorem kb16 : kitB "str" "list" = some false := by decide +kernel
theorem kb17 : kitB "str" "bool" = some false := by decide +kernel
theorem kb18 : kitB "str" "int" = some false := by decide +kernel
theorem kb19 : kitB "str" "str" = some true := by decide +kernel
theorem tyx_list {K : PySem.W.Frag} {H : Hp} {a : Addr} {xs : List V} (h : SqL K H a xs) : TyX K H (.ref a) (.type "list") := by
  rcases h with (h | ⟨o, h⟩) | ⟨o, its, n, h, c, _⟩
  · exact .base (.lst h)
  · exact .base (.frz h)
  · exact .kList h c
theorem tyx_tup {K : PySem.W.Frag} {H : Hp} {a : Addr} {xs : List V} (h : SqT K H a xs) : TyX K H (.ref a) (.type "tuple") := by
  rcases h with (h | ⟨o, h⟩) | ⟨o, its, n, h, c, _⟩
  · exact .base (.tup h)
  · exact .fTuple h
  · exact .kTuple h c
theorem call_isiK2 {X : Cx} (K : PySem.W.Frag) (eK : X.K = K := by rfl) : CallR X (.builtin "isinstance") (rIsi K) := by subst eK; exact call_isi
theorem tyx_non {K : PySem.W.Frag} {H : Hp} : TyX K H .non (.type "NoneType") := .base .non
theorem tyx_bl {K : PySem.W.Frag} {H : Hp} (b : Bool) : TyX K H (.bl b) (.type "bool") := .base (.bl b)
theorem tyx_int {K : PySem.W.Frag} {H : Hp} (b : Int) : TyX K H (.int b) (.type "int") := .base (.int b)
theorem tyx_str {K : PySem.W.Frag} {H : Hp} (b : Str) : TyX K H (.str b) (.type "str") := .base (.str b)
local macro_rules | `(tactic| walk_at "isi") => `(tactic| (refine ⟨_, _, _, _, _, rfl, .ty _, (by first | exact tyx_int _ | exact tyx_bl _ | exact tyx_non | exact tyx_str _ | exact tyx_list (by walk_at "sq") | exact tyx_tup (by walk_at "sq")),
  kit_ty (by with_reducible first | exact kb1 | exact kb2 | exact kb3 | exact kb4 | exact kb5 | exact kb6 | exact kb7 | exact kb8 | exact kb9 | exact kb10 | exact kb11 | exact kb12 | exact kb13 | exact kb14 | exact kb15 | exact kb16 | exact kb17 | exact kb18 | exact kb19), ?_⟩))
local macro_rules | `(tactic| walk_at "rdi") => `(tactic| repeat (first | walk_at "rd1" | walk_at "isi"))
def topS (i : Nat) : Stmt := PySem.Challenge.pw_discwright_k06_fixed_clock.main.body.getD i (.Pass ⟨0, 0, 0, 0⟩)
abbrev s_z_law_draws : Stmt := topS 15
abbrev N_z_law_draws : List Str := ["_law_cell_here", "_law_count", "_law_rows", "_law_left", "_law_k", "_law_mixed"]
theorem sc_z_law_draws : FnScope N_z_law_draws ["_law_cell_here", "_law_count"] (defScope s_z_law_draws) := ⟨rfl, rfl, rfl, by decide +kernel, rfl, by decide +kernel, by decide +kernel⟩
abbrev s_z_law_cell : Stmt := topS 14
abbrev N_z_law_cell : List Str := ["_law_script", "_law_k"]
theorem sc_z_law_cell : FnScope N_z_law_cell ["_law_script", "_law_k"] (defScope s_z_law_cell) := ⟨rfl, rfl, rfl, by decide +kernel, rfl, by decide +kernel, by decide +kernel⟩
abbrev s_z_law_is_int : Stmt := topS 16
abbrev N_z_law_is_int : List Str := ["_law_x"]
theorem sc_z_law_is_int : FnScope N_z_law_is_int ["_law_x"] (defScope s_z_law_is_int) := ⟨rfl, rfl, rfl, by decide +kernel, rfl, by decide +kernel, by decide +kernel⟩
abbrev s_z_law_ints : Stmt := topS 17
abbrev N_z_law_ints : List Str := ["_law_x", "_law_kind", "_law_k"]
theorem sc_z_law_ints : FnScope N_z_law_ints ["_law_x", "_law_kind"] (defScope s_z_law_ints) := ⟨rfl, rfl, rfl, by decide +kernel, rfl, by decide +kernel, by decide +kernel⟩
abbrev s_z_law_is_list : Stmt := topS 18
abbrev N_z_law_is_list : List Str := ["_law_x", "_law_due"]
theorem sc_z_law_is_list : FnScope N_z_law_is_list ["_law_x", "_law_due"] (defScope s_z_law_is_list) := ⟨rfl, rfl, rfl, by decide +kernel, rfl, by decide +kernel, by decide +kernel⟩
abbrev s_demand_cell : Stmt := topS 11
abbrev N_demand_cell : List Str := ["cell"]
theorem sc_demand_cell : FnScope N_demand_cell ["cell"] (defScope s_demand_cell) := ⟨rfl, rfl, rfl, by decide +kernel, rfl, by decide +kernel, by decide +kernel⟩
abbrev s_Read_init : Stmt := inClass (topS 10) 0
abbrev N_Read_init : List Str := ["self", "intervals", "rest", "interval"]
theorem sc_Read_init : FnScope N_Read_init ["self", "intervals", "rest"] (defScope s_Read_init) := ⟨rfl, rfl, rfl, by decide +kernel, rfl, by decide +kernel, by decide +kernel⟩
abbrev s_fixed_cells : Stmt := topS 12
abbrev N_fixed_cells : List Str := ["read", "cell", "cells", "interval", "count"]
theorem sc_fixed_cells : FnScope N_fixed_cells ["read", "cell"] (defScope s_fixed_cells) := ⟨rfl, rfl, rfl, by decide +kernel, rfl, by decide +kernel, by decide +kernel⟩
abbrev s_law : Stmt := topS 19
abbrev N_law : List Str := ["_law_script", "_law_draws_here", "_law_cell_here", "_law_rows", "_law_k", "_law_d", "_law_rest", "_law_due", "_law_time", "_law_count", "_law_great", "_law_wrong"]
theorem sc_law : FnScope N_law ["_law_script"] (defScope s_law) := ⟨rfl, rfl, rfl, by decide +kernel, rfl, by decide +kernel, by decide +kernel⟩
structure Ad where
  f_z_law_draws : Addr
  d_z_law_draws : FuncData
  f_z_law_cell : Addr
  d_z_law_cell : FuncData
  f_z_law_is_int : Addr
  d_z_law_is_int : FuncData
  f_z_law_ints : Addr
  d_z_law_ints : FuncData
  f_z_law_is_list : Addr
  d_z_law_is_list : FuncData
  f_demand_cell : Addr
  d_demand_cell : FuncData
  f_Read_init : Addr
  d_Read_init : FuncData
  f_fixed_cells : Addr
  d_fixed_cells : FuncData
  f_law : Addr
  d_law : FuncData
  t_MOST_INTERVALS : Tok
  t_LONGEST : Tok
  t_SHORTEST_CELL : Tok
  t_LONGEST_CELL : Tok
  C_InvalidCell : Addr
  C_InvalidRead : Addr
  C_Read : Addr
structure Txt (K : PySem.W.Frag) (mg : Str → Option Value) (ad : Ad) : Prop where
  F_z_law_draws : Fun K "_law_draws" "_law_draws" s_z_law_draws ad.f_z_law_draws ad.d_z_law_draws
  g_z_law_draws : mg "_law_draws" = some (.ref ad.f_z_law_draws)
  b_z_law_draws : Binds K ad.d_z_law_draws ["_law_cell_here", "_law_count"] []
  F_z_law_cell : Fun K "_law_cell" "_law_cell" s_z_law_cell ad.f_z_law_cell ad.d_z_law_cell
  g_z_law_cell : mg "_law_cell" = some (.ref ad.f_z_law_cell)
  b_z_law_cell : Binds K ad.d_z_law_cell ["_law_script", "_law_k"] []
  F_z_law_is_int : Fun K "_law_is_int" "_law_is_int" s_z_law_is_int ad.f_z_law_is_int ad.d_z_law_is_int
  g_z_law_is_int : mg "_law_is_int" = some (.ref ad.f_z_law_is_int)
  b_z_law_is_int : Binds K ad.d_z_law_is_int ["_law_x"] []
  F_z_law_ints : Fun K "_law_ints" "_law_ints" s_z_law_ints ad.f_z_law_ints ad.d_z_law_ints
  g_z_law_ints : mg "_law_ints" = some (.ref ad.f_z_law_ints)
  b_z_law_ints : Binds K ad.d_z_law_ints ["_law_x", "_law_kind"] []
  F_z_law_is_list : Fun K "_law_is_list" "_law_is_list" s_z_law_is_list ad.f_z_law_is_list ad.d_z_law_is_list
  g_z_law_is_list : mg "_law_is_list" = some (.ref ad.f_z_law_is_list)
  b_z_law_is_list : Binds K ad.d_z_law_is_list ["_law_x", "_law_due"] []
  F_demand_cell : Fun K "demand_cell" "demand_cell" s_demand_cell ad.f_demand_cell ad.d_demand_cell
  g_demand_cell : mg "demand_cell" = some (.ref ad.f_demand_cell)
  b_demand_cell : Binds K ad.d_demand_cell ["cell"] []
  F_Read_init : Fun K "__init__" "Read.__init__" s_Read_init ad.f_Read_init ad.d_Read_init
  b_Read_init : Binds K ad.d_Read_init ["self", "intervals", "rest"] []
  F_fixed_cells : Fun K "fixed_cells" "fixed_cells" s_fixed_cells ad.f_fixed_cells ad.d_fixed_cells
  g_fixed_cells : mg "fixed_cells" = some (.ref ad.f_fixed_cells)
  b_fixed_cells : Binds K ad.d_fixed_cells ["read", "cell"] []
  F_law : Fun K "law" "law" s_law ad.f_law ad.d_law
  g_law : mg "law" = some (.ref ad.f_law)
  b_law : Binds K ad.d_law ["_law_script"] []
  n_all : mg "all" = none
  n_bool : mg "bool" = none
  n_int : mg "int" = none
  n_isinstance : mg "isinstance" = none
  n_len : mg "len" = none
  n_list : mg "list" = none
  n_max : mg "max" = none
  n_range : mg "range" = none
  n_tuple : mg "tuple" = none
  g_MOST_INTERVALS : mg "MOST_INTERVALS" = some (.int (60000) ad.t_MOST_INTERVALS)
  g_LONGEST : mg "LONGEST" = some (.int (1000000) ad.t_LONGEST)
  g_SHORTEST_CELL : mg "SHORTEST_CELL" = some (.int (10) ad.t_SHORTEST_CELL)
  g_LONGEST_CELL : mg "LONGEST_CELL" = some (.int (1000) ad.t_LONGEST_CELL)
  g_InvalidCell : mg "InvalidCell" = some (.ref ad.C_InvalidCell)
  x_InvalidCell : PySem.W.excIn K ad.C_InvalidCell [.type "ValueError", .type "Exception", .type "BaseException", .type "object"] "ValueError.__new__" = true
  k_InvalidCell : PySem.W.keepIn K (.ref ad.C_InvalidCell) = true
  xb_InvalidCell : PySem.W.subIn K (.ref ad.C_InvalidCell) (.type "BaseException") = some true
  xt_InvalidCell : PySem.W.typeIn K (.ref ad.C_InvalidCell) = some (.type "type")
  xd_InvalidCell : PySem.W.hasDictIn K ad.C_InvalidCell = true
  g_InvalidRead : mg "InvalidRead" = some (.ref ad.C_InvalidRead)
  x_InvalidRead : PySem.W.excIn K ad.C_InvalidRead [.type "ValueError", .type "Exception", .type "BaseException", .type "object"] "ValueError.__new__" = true
  k_InvalidRead : PySem.W.keepIn K (.ref ad.C_InvalidRead) = true
  xb_InvalidRead : PySem.W.subIn K (.ref ad.C_InvalidRead) (.type "BaseException") = some true
  xt_InvalidRead : PySem.W.typeIn K (.ref ad.C_InvalidRead) = some (.type "type")
  xd_InvalidRead : PySem.W.hasDictIn K ad.C_InvalidRead = true
  exm_InvalidCell_InvalidCell : PySem.W.exmOne K (.ref ad.C_InvalidCell) (.ref ad.C_InvalidCell) = some true
  exm_InvalidRead_InvalidCell : PySem.W.exmOne K (.ref ad.C_InvalidRead) (.ref ad.C_InvalidCell) = some false
  c_Read : Cls K ad.C_Read
  g_Read : mg "Read" = some (.ref ad.C_Read)
  na_Read_intervals : NoAttr K ad.C_Read "intervals"
  na_Read_rest : NoAttr K ad.C_Read "rest"
  M_Read : Mk K ad.C_Read ad.f_Read_init
section
variable {P : Program} {w : World} {K : PySem.W.Frag} {mg : Str → Option Value} {base : Heap} {ad : Ad}
def Drawn (ds : List Int) (n : Nat) : Prop := ds.length = n ∧ ∀ d ∈ ds, 0 ≤ d ∧ d < 4096
theorem Drawn.more {ds : List Int} {n : Nat} {d : Int} (h : Drawn ds n) (h0 : 0 ≤ d) (h1 : d < 4096) : Drawn (ds ++ [d]) (n + 1) := by
  refine ⟨by simp [h.1], fun x hx => ?_⟩
  rcases List.mem_append.mp hx with hx | hx
  · exact h.2 x hx
  · rw [List.mem_singleton.mp hx]; exact ⟨h0, h1⟩
theorem Drawn.at {ds : List Int} {n : Nat} (h : Drawn ds n) {k : Nat} (hk : k < n) : ∃ d, (ds.map V.int)[k]? = some (V.int d) ∧ 0 ≤ d ∧ d < 4096 := by
  have hk' : k < ds.length := by rw [h.1]; exact hk
  exact ⟨ds[k], by rw [List.getElem?_map, List.getElem?_eq_getElem hk']; rfl, h.2 _ (List.getElem_mem hk')⟩
theorem Drawn.ix {ds : List Int} {n : Nat} (h : Drawn ds n) {k : Int} (h0 : 0 ≤ k) (hk : k < n) : ∃ d, atI (ds.map V.int) k = some (V.int d) ∧ 0 ≤ d ∧ d < 4096 := by
  obtain ⟨d, e, q⟩ := h.at (k := k.toNat) (by omega)
  exact ⟨d, at_of (j := k.toNat) (by omega) e, q⟩
def sp_z_law_draws : Sp := fun vs H Q _ => ∃ (c : Int) (n : Nat), vs = [.int c, .int n] ∧ n ≤ 1000 ∧ ∀ (ds : List Int) r H', Drawn ds n → Same H H' → H r = none → H' r = some (.lst (ds.map V.int)) → Q (.ref r) H'
theorem ok_z_law_draws (T : Txt K mg ad) : FnOk P w K mg base CX0 1 ad.f_z_law_draws ad.d_z_law_draws ["_law_cell_here", "_law_count"]  sp_z_law_draws := by
  refine T.F_z_law_draws.ok sc_z_law_draws (fun vs H Q E h => ?_) (fun cdv A outer s H vs Q E hr h => ?_)
  · obtain ⟨c, n, rfl, _⟩ := h; rfl
  · obtain ⟨c, n, rfl, hn, q⟩ := h
    refine ⟨_, (pss_cons (ps_set (i := 2) sc_z_law_draws.nd rfl (.inl rfl) (pe_lst pa_nil))
      (pss_cons (ps_set (i := 3) sc_z_law_draws.nd rfl (.inl rfl) (pv 0))
      (pss_cons (ps_for PassesOwn.never rfl (pi_range1 (by rfl) T.n_range (pa_cons (pv 1) pa_nil)) (pg_name (i := 4) sc_z_law_draws.nd rfl (.inl rfl))
      (pss_one (ps_if (PW.pt (pw_and (pt_cmpR op_ge (pv 0) (pe_op op_pow pe_int pe_int) (nomark _)) (pw_and1 (pt_cmpR op_gt (pv 3) pe_int (nomark _)))))
      (pss_cons (ps_expr (pe_bmK K PySem.F.plainAttrs_list PySem.F.slot_list_append PySem.F.type_list_append mt_append (pv 2) (pa_cons (pe_op op_mod (pe_callTy call_int1 (by rfl) T.n_int (by decide +kernel) (pa_cons (pv 3) pa_nil)) pe_int) pa_nil)))
      (pss_one (ps_set (i := 3) sc_z_law_draws.nd rfl (.inl rfl) (pe_op op_fdiv (pv 3) pe_int))))
      (pss_cons (ps_set (i := 5) sc_z_law_draws.nd rfl (.inl rfl) (pe_op op_mod (pe_callTy call_int1 (by rfl) T.n_int (by decide +kernel) (pa_cons (pe_op op_add (pe_op op_mul (pv 0) pe_int) (pe_op op_mul (pe_op op_add (pv 4) pe_int) pe_int)) pa_nil)) pe_int))
      (pss_cons (ps_set (i := 5) sc_z_law_draws.nd rfl (.inl rfl) (pe_op op_mod (pe_callTy call_int1 (by rfl) T.n_int (by decide +kernel) (pa_cons (pe_op op_add (pe_op op_add (pe_op op_mul (pv 5) (pv 5)) (pe_op op_mul (pv 5) pe_int)) (pe_op op_mul (pv 4) pe_int)) pa_nil)) pe_int))
      (pss_cons (ps_set (i := 5) sc_z_law_draws.nd rfl (.inl rfl) (pe_op op_mod (pe_callTy call_int1 (by rfl) T.n_int (by decide +kernel) (pa_cons (pe_op op_add (pe_op op_add (pe_op op_mul (pv 5) (pv 5)) (pv 0)) (pe_op op_mul pe_int (pv 4))) pa_nil)) pe_int))
      (pss_one (ps_expr (pe_bmK K PySem.F.plainAttrs_list PySem.F.slot_list_append PySem.F.type_list_append mt_append (pv 2) (pa_cons (pe_op op_mod (pe_op op_fdiv (pv 5) pe_int) pe_int) pa_nil))))))))))
      (pss_one (ps_ret (pv 2)))))), ?_⟩
    walk_at "rd"
    refine fun r nr => ?_
    walk_at "rd"
    refine for_range (lo := 0) (n := (n : Int).toNat) (fun i σ H' => ∃ (ds : List Int) (l : Int) (x y : Option V), σ = [some (.int c), some (.int n), some (.ref r), some (.int l), x, y] ∧ Drawn ds i ∧ Same H H' ∧ H' r = some (.lst (ds.map V.int))) ⟨[], c, _, _, rfl, ⟨rfl, fun _ h => nomatch h⟩, same_upd nr, upd_same⟩ (fun i σ H' hi h => ?_) (fun σ H' h => ?_)
    · obtain ⟨ds, l, x, y, rfl, hd, sm, hr'⟩ := h
      have hlen := hd.1
      have hz : (ds.map V.int).length < sizeLine := line_lt (by rw [List.length_map]; omega)
      have fin : ∀ d : Int, upd H' r (.lst (ds.map V.int ++ [V.int d])) r = some (.lst ((ds ++ [d]).map V.int)) := fun d => by rw [upd_same, List.map_append]; rfl
      walk_at "rd"
      refine iteD (fun c1 => ?_) (fun c1 => ?_)
      · walk_at "rd"
        refine iteD (fun c2 => ?_) (fun c2 => ?_)
        · walk_at "rd"
          exact ⟨ds ++ [l % 4096], l / 4096, _, _, rfl, hd.more (Int.emod_nonneg _ (by decide)) (Int.emod_lt_of_pos _ (by decide)), same_new sm nr, fin _⟩
        · walk_at "rd"
          exact ⟨ds ++ [_], _, _, _, rfl, hd.more (Int.emod_nonneg _ (by decide)) (Int.emod_lt_of_pos _ (by decide)), same_new sm nr, fin _⟩
      · walk_at "rd"
        exact ⟨ds ++ [_], _, _, _, rfl, hd.more (Int.emod_nonneg _ (by decide)) (Int.emod_lt_of_pos _ (by decide)), same_new sm nr, fin _⟩
    · obtain ⟨ds, l, x, y, rfl, hd, sm, hr'⟩ := h
      walk_at "rd"
      exact q ds r H' hd sm nr hr'
def sp_z_law_cell (K : PySem.W.Frag) : Sp := fun vs H Q _ => ∃ (a : Addr) (ns : List Int) (k : Int), vs = [.ref a, .int k] ∧ SqL K H a (ns.map V.int) ∧ 0 ≤ k ∧ ∀ v : Int, Q (.int v) H
theorem ok_z_law_cell (T : Txt K mg ad) : FnOk P w K mg base CX0 1 ad.f_z_law_cell ad.d_z_law_cell ["_law_script", "_law_k"]  (sp_z_law_cell K) := by
  refine T.F_z_law_cell.ok sc_z_law_cell (fun vs H Q E h => ?_) (fun cdv A outer s H vs Q E hr h => ?_)
  · obtain ⟨a, ns, k, rfl, _⟩ := h; rfl
  · obtain ⟨a, ns, k, rfl, hl, hk, q⟩ := h
    refine ⟨_, (pss_cons (ps_if (pt_cmpR op_lt (pv 1) (pe_callB (call_lenK K) (by rfl) T.n_len (by decide +kernel) (pa_cons (pv 0) pa_nil)) (nomark _))
      (pss_one (ps_ret (pe_ix (ix_listK K) (pv 0) (pv 1) (fun _ _ => rfl))))
      pss_nil)
      (pss_one (ps_ret pe_int))), ?_⟩
    walk_at "rd"
    refine iteD (fun c => ?_) (fun c => ?_)
    · rw [List.length_map] at c
      have h1 : k.toNat < ns.length := by omega
      walk_at "rd"
      exact ⟨a, _, _, _, rfl, rfl, hl, at_of (j := k.toNat) (v := V.int ns[k.toNat]) (by omega) (by rw [List.getElem?_map, List.getElem?_eq_getElem h1]; rfl), q _⟩
    · walk_at "rd"
      exact q _
def sp_z_law_is_int : Sp := fun vs H Q _ => ∃ n : Int, vs = [.int n] ∧ Q (.bl true) H
theorem ok_z_law_is_int (T : Txt K mg ad) : FnOk P w K mg base CX0 1 ad.f_z_law_is_int ad.d_z_law_is_int ["_law_x"]  sp_z_law_is_int := by
  refine T.F_z_law_is_int.ok sc_z_law_is_int (fun vs H Q E h => ?_) (fun cdv A outer s H vs Q E hr h => ?_)
  · obtain ⟨n, rfl, _⟩ := h; rfl
  · obtain ⟨n, rfl, q⟩ := h
    refine ⟨_, (pss_one (ps_ret (pe_and (pe_callB (call_isiK2 K) (by rfl) T.n_isinstance (by decide +kernel) (pa_cons (pv 0) (pa_cons (pe_bltn (v := V.ty "int") rfl T.n_int (by decide +kernel) rfl) pa_nil))) (pe_one (pe_not (pe_callB (call_isiK2 K) (by rfl) T.n_isinstance (by decide +kernel) (pa_cons (pv 0) (pa_cons (pe_bltn (v := V.ty "bool") rfl T.n_bool (by decide +kernel) rfl) pa_nil)))))))), ?_⟩
    walk_at "rdi"
    exact q
def sp_z_law_ints (K : PySem.W.Frag) : Sp := fun vs H Q _ => ∃ (a : Addr) (ns : List Int), ((vs = [.ref a, .str "list"] ∧ SqL K H a (ns.map V.int)) ∨ (vs = [.ref a, .str "tuple"] ∧ SqT K H a (ns.map V.int))) ∧ ns.length < 2 ^ 61 ∧ Q (.bl true) H
theorem ok_z_law_ints (T : Txt K mg ad) : FnOk P w K mg base CX0 2 ad.f_z_law_ints ad.d_z_law_ints ["_law_x", "_law_kind"]  (sp_z_law_ints K) := by
  refine T.F_z_law_ints.ok sc_z_law_ints (fun vs H Q E h => ?_) (fun cdv A outer s H vs Q E hr h => ?_)
  · obtain ⟨a, ns, ⟨rfl, _⟩ | ⟨rfl, _⟩, _⟩ := h <;> rfl
  · obtain ⟨a, ns, hk, hz, q⟩ := h
    refine ⟨_, (pss_cut (ps_if (pt_cmpR op_eq (pv 1) pe_str (nomark _))
      (pss_one (ps_if (pt_not (pt_val (pe_callB (call_isiK2 K) (by rfl) T.n_isinstance (by decide +kernel) (pa_cons (pv 0) (pa_cons (pe_bltn (v := V.ty "list") rfl T.n_list (by decide +kernel) rfl) pa_nil)))))
      (pss_one (ps_ret pe_bl))
      pss_nil))
      (pss_one (ps_if (pt_not (pt_val (pe_callB (call_isiK2 K) (by rfl) T.n_isinstance (by decide +kernel) (pa_cons (pv 0) (pa_cons (pe_bltn (v := V.ty "tuple") rfl T.n_tuple (by decide +kernel) rfl) pa_nil)))))
      (pss_one (ps_ret pe_bl))
      pss_nil)))
      (pss_cons (ps_for PassesOwn.never rfl (pi_range1 (by rfl) T.n_range (pa_cons (pe_callB (call_lenK K) (by rfl) T.n_len (by decide +kernel) (pa_cons (pv 0) pa_nil)) pa_nil)) (pg_name (i := 2) sc_z_law_ints.nd rfl (.inl rfl))
      (pss_one (ps_if (pt_not (pt_val (pe_call (ok_z_law_is_int (K := K) T) (hr.mono (by decide)) rfl T.g_z_law_is_int T.F_z_law_is_int.kp T.b_z_law_is_int .nil pass0 (pa_cons (pe_ix (ix_seqK K) (pv 0) (pv 2) (fun _ _ => rfl)) pa_nil))))
      (pss_one (ps_ret pe_bl))
      pss_nil)))
      (pss_one (ps_ret pe_bl)))), ?_⟩
    rcases hk with ⟨rfl, hl⟩ | ⟨rfl, hl⟩
    · refine ⟨fun σ H' => H' = H ∧ σ = [some (.ref a), some (.str "list"), none], ?_, ?_⟩
      · walk_at "rdi"
        rfl
      · rintro σ H' ⟨rfl, rfl⟩
        walk_at "rdi"
        refine for_range (lo := 0) (fun i σ H'' => H'' = H' ∧ ∃ z, σ = [some (.ref a), some (.str "list"), z]) ⟨rfl, _, rfl⟩ (fun i σ H'' hi h => ?_) (fun σ H'' h => ?_)
        · obtain ⟨rfl, z, rfl⟩ := h
          have hi' : i < ns.length := by simpa using hi
          have e : atI (ns.map V.int) (0 + (i : Int)) = some (V.int ns[i]) := at_of (j := i) (by omega) (by rw [List.getElem?_map, List.getElem?_eq_getElem hi']; rfl)
          walk_at "rdi"
          refine Or.inl ⟨a, _, _, _, rfl, rfl, hl, e, ?_⟩
          walk_at "rdi"
          exact ⟨_, rfl⟩
        · obtain ⟨rfl, z, rfl⟩ := h
          walk_at "rd"
          exact q
    · refine ⟨fun σ H' => H' = H ∧ σ = [some (.ref a), some (.str "tuple"), none], ?_, ?_⟩
      · walk_at "rdi"
        rfl
      · rintro σ H' ⟨rfl, rfl⟩
        walk_at "rdi"
        refine for_range (lo := 0) (fun i σ H'' => H'' = H' ∧ ∃ z, σ = [some (.ref a), some (.str "tuple"), z]) ⟨rfl, _, rfl⟩ (fun i σ H'' hi h => ?_) (fun σ H'' h => ?_)
        · obtain ⟨rfl, z, rfl⟩ := h
          have hi' : i < ns.length := by simpa using hi
          have e : atI (ns.map V.int) (0 + (i : Int)) = some (V.int ns[i]) := at_of (j := i) (by omega) (by rw [List.getElem?_map, List.getElem?_eq_getElem hi']; rfl)
          walk_at "rdi"
          refine Or.inr (Or.inl ⟨a, _, _, _, rfl, rfl, hl, e, ?_⟩)
          walk_at "rdi"
          exact ⟨_, rfl⟩
        · obtain ⟨rfl, z, rfl⟩ := h
          walk_at "rd"
          exact q
def sp_z_law_is_list (K : PySem.W.Frag) : Sp := fun vs H Q _ => ∃ (a b : Addr) (ns : List Int), vs = [.ref a, .ref b] ∧ SqL K H a (ns.map V.int) ∧ SqL K H b (ns.map V.int) ∧ ns.length < 2 ^ 61 ∧ Q (.bl true) H
theorem ok_z_law_is_list (T : Txt K mg ad) : FnOk P w K mg base CX0 3 ad.f_z_law_is_list ad.d_z_law_is_list ["_law_x", "_law_due"]  (sp_z_law_is_list K) := by
  refine T.F_z_law_is_list.ok sc_z_law_is_list (fun vs H Q E h => ?_) (fun cdv A outer s H vs Q E hr h => ?_)
  · obtain ⟨a, b, ns, rfl, _⟩ := h; rfl
  · obtain ⟨a, b, ns, rfl, h1, h2, hz, q⟩ := h
    refine ⟨_, (pss_one (ps_ret (pe_and (pe_call (ok_z_law_ints (K := K) T) (hr.mono (by decide)) rfl T.g_z_law_ints T.F_z_law_ints.kp T.b_z_law_ints .nil pass0 (pa_cons (pv 0) (pa_cons pe_str pa_nil))) (pe_one (pe_cmpR (op_eqDK K (hu := hr.units)) (pv 0) (pv 1) (nomark _)))))), ?_⟩
    walk_at "rd"
    refine ⟨a, ns, .inl ⟨rfl, h1⟩, hz, ?_⟩
    walk_at "rd"
    refine eqd_ll h1 h2 ?_
    rw [decide_eq_true rfl]
    exact q
def CellOk (c : Int) : Prop := 10 ≤ c ∧ c ≤ 1000
def sp_demand_cell (ad : Ad) : Sp := fun vs H Q E => ∃ c : Int, vs = [.int c] ∧ (CellOk c → Q .non H) ∧ (¬ CellOk c → E (.ref ad.C_InvalidCell) none H)
theorem ok_demand_cell (T : Txt K mg ad) : FnOk P w K mg base (L2.CX P w) 1 ad.f_demand_cell ad.d_demand_cell ["cell"]  (sp_demand_cell ad) := by
  refine T.F_demand_cell.okX sc_demand_cell (fun vs H Q E h => ?_) (fun cdv A outer s H vs Q E hr h => ?_)
  · obtain ⟨c, rfl, _⟩ := h; rfl
  · obtain ⟨c, rfl, q1, q2⟩ := h
    refine ⟨_, (pss_one (ps_if (pt_not (pt_chain op_le op_le (pe_glob (v := V.int _) rfl T.g_SHORTEST_CELL ⟨_, rfl⟩) (pv 0) (pe_glob (v := V.int _) rfl T.g_LONGEST_CELL ⟨_, rfl⟩)))
      (pss_one (ps_raise rfl (takes_of rfl rfl rfl rfl) (pmk_own PySem.F.excBase_ValueError T.x_InvalidCell T.g_InvalidCell T.k_InvalidCell (raises_own T.xb_InvalidCell T.xt_InvalidCell) rfl)))
      pss_nil)), ?_⟩
    walk_at "rd"
    refine iteD (fun c1 => ?_) (fun c1 => ?_)
    · walk_at "rd"
      refine iteDn (fun c2 => ?_) (fun c2 => ?_)
      · exact q2 fun z => c2 z.2
      · exact q1 ⟨c1, c2⟩
    · walk_at "rd"
      exact q2 fun z => c1 z.1
def ReadOk (ns : List Int) (r : Int) : Prop := ns.length ≤ 60000 ∧ (0 ≤ r ∧ r ≤ 1000000) ∧ ∀ n ∈ ns, 1 ≤ n ∧ n ≤ 1000000
def ReadAt (ad : Ad) (K : PySem.W.Frag) (H : Hp) (p : Addr) (ns : List Int) (r : Int) : Prop := ∃ dx t, H p = some (.ins ad.C_Read dx [("intervals", .ref t), ("rest", .int r)]) ∧ SqT K H t (ns.map V.int)
theorem _root_.L2.Same.readAt {ad : Ad} {K : PySem.W.Frag} {H H' : Hp} {p : Addr} {ns : List Int} {r : Int} (s : Same H H') (h : ReadAt ad K H p ns r) : ReadAt ad K H' p ns r := by
  obtain ⟨dx, t, h1, h2⟩ := h
  exact ⟨dx, t, s _ _ h1, s.sqt h2⟩
theorem Same.init {H H1 H' : Hp} {x dx C : Addr} (s : Same H H1) (nx : H1 x = none) (nd : H1 dx = none) (b : But x (upd (upd H1 dx (.own x)) x (.ins C dx [])) H') : Same H H' := fun c o e => by
  have e1 := s _ _ e
  refine b c o (ne_of_none e1 nx) ?_
  rw [upd_ne (ne_of_none e1 nx), upd_ne (ne_of_none e1 nd)]; exact e1
theorem Same.init0 {H H1 : Hp} {x dx C : Addr} (s : Same H H1) (nx : H1 x = none) (nd : H1 dx = none) : Same H (upd (upd H1 dx (.own x)) x (.ins C dx [])) := fun c o e => by
  have e1 := s _ _ e
  rw [upd_ne (ne_of_none e1 nx), upd_ne (ne_of_none e1 nd)]; exact e1
def sp_Read_init (K : PySem.W.Frag) (ad : Ad) : Sp := fun vs H Q E => ∃ (p dx a : Addr) (ns : List Int) (r : Int), vs = [.ref p, .ref a, .int r] ∧ H p = some (.ins ad.C_Read dx []) ∧ SqL K H a (ns.map V.int) ∧ ns.length < 16777216 ∧
  (ReadOk ns r → ∀ H', ReadAt ad K H' p ns r → But p H H' → Q .non H') ∧ (¬ ReadOk ns r → ∀ H', Same H H' → E (.ref ad.C_InvalidRead) none H')
theorem ok_Read_init (T : Txt K mg ad) : FnOk P w K mg base (L2.CX P w) 1 ad.f_Read_init ad.d_Read_init ["self", "intervals", "rest"]  (sp_Read_init K ad) := by
  refine T.F_Read_init.okX sc_Read_init (fun vs H Q E h => ?_) (fun cdv A outer s H vs Q E hr h => ?_)
  · obtain ⟨p, dx, a, ns, r, rfl, _⟩ := h; rfl
  · obtain ⟨p, dx, a, ns, r, rfl, hp, hl, hz, q1, q2⟩ := h
    refine ⟨_, (pss_cons (ps_if (PW.pt (pw_or (pt_cmpR op_gt (pe_callB (call_lenK K) (by rfl) T.n_len (by decide +kernel) (pa_cons (pv 1) pa_nil)) (pe_glob (v := V.int _) rfl T.g_MOST_INTERVALS ⟨_, rfl⟩) (nomark _)) (pw_or1 (pt_not (pt_chain op_le op_le pe_int (pv 2) (pe_glob (v := V.int _) rfl T.g_LONGEST ⟨_, rfl⟩))))))
      (pss_one (ps_raise rfl (takes_of rfl rfl rfl rfl) (pmk_own PySem.F.excBase_ValueError T.x_InvalidRead T.g_InvalidRead T.k_InvalidRead (raises_own T.xb_InvalidRead T.xt_InvalidRead) rfl)))
      pss_nil)
      (pss_cons (ps_if (pt_not (pt_val (pe_callB (cr_allK K (hc := rfl)) (by rfl) T.n_all (by decide +kernel) (pa_cons (pe_lc (own := [("interval", 3)]) (g := gName 3) (tt := tYes) (by rfl) sc_Read_init.nd (pi_listK K (hl := (pv 1))) (blkOk_by (N := N_Read_init) (sc := defScope s_Read_init) (by decide +kernel)) (fun _ _ _ _ _ => (pg_name (i := 3) sc_Read_init.nd rfl (by first | exact .inl rfl | exact .inr rfl))) (fun _ _ _ _ _ => pts_nil) (fun _ _ _ _ _ => (pe_chain op_le op_le pe_int (pv 3) (pe_glob (v := V.int _) rfl T.g_LONGEST ⟨_, rfl⟩)))) pa_nil))))
      (pss_one (ps_raise rfl (takes_of rfl rfl rfl rfl) (pmk_own PySem.F.excBase_ValueError T.x_InvalidRead T.g_InvalidRead T.k_InvalidRead (raises_own T.xb_InvalidRead T.xt_InvalidRead) rfl)))
      pss_nil)
      (pss_cons (ps_fldK K (ha := (pv 0)) (hv := (pe_callTy (call_tupleK K) (by rfl) T.n_tuple (by decide +kernel) (pa_cons (pv 1) pa_nil))) (hs := rfl))
      (pss_one (ps_fldK K (ha := (pv 0)) (hv := (pv 2)) (hs := rfl)))))), ?_⟩
    walk_at "rd"
    rw [List.length_map]
    refine iteD (fun c1 => ?_) (fun c1 => ?_)
    · walk_at "rd"
      exact q2 (fun z => by have := z.1; omega) H (Same.refl _)
    · walk_at "rd"
      refine iteD (fun c2 => ?_) (fun c2 => ?_)
      · walk_at "rd"
        refine iteB (fun c3 => ?_) (fun c3 => ?_)
        · exact q2 (fun z => ofN c3 z.2.1.2) H (Same.refl _)
        · walk_at "rd"
          have c3 := ofNf c3
          refine fun D hD => lc_map (K := K) (fun n : Int => V.bl (decide (1 ≤ n ∧ n ≤ 1000000))) hD hz hl (fun n H' Qy Qn hn sm hy hnn => ?_) (fun H' sm e => ?_)
          · walk_at "rd"
            have hy := hy rfl _ (Same.refl _)
            refine iteB (fun d => ?_) (fun d => ?_)
            · have d := of_decide_eq_true d
              walk_at "rd"
              simpa [d] using hy
            · have d := of_decide_eq_false d
              simpa [d] using hy
          · refine ⟨D, ns.map fun n => decide (1 ≤ n ∧ n ≤ 1000000), rfl, SqL.of (by rw [e, List.map_map]; rfl), ?_⟩
            walk_at "rd"
            have hall : (ns.map fun n => decide (1 ≤ n ∧ n ≤ 1000000)).all id = true ↔ ∀ n ∈ ns, 1 ≤ n ∧ n ≤ 1000000 := by simp [List.all_map]
            refine iteB (fun d => ?_) (fun d => ?_)
            · exact q2 (fun z => by have := hall.mpr z.2.2; rw [this] at d; cases d) H' sm
            · have ok : ReadOk ns r := ⟨by omega, ⟨c2, c3⟩, hall.mp (by simpa using d)⟩
              have hp' := sm _ _ hp
              have hl' := sm.seq hl
              walk_at "rd"
              refine ⟨a, _, rfl, .inl ⟨hl', fun t nt => ?_⟩⟩
              have npt : p ≠ t := ne_of_none hp' nt
              walk_at "rd"
              refine ⟨p, ad.C_Read, dx, [], rfl, by rw [upd_ne npt]; exact hp', T.c_Read, T.na_Read_intervals, by decide, ?_⟩
              walk_at "rd"
              refine ⟨p, ad.C_Read, dx, _, rfl, upd_same, T.c_Read, T.na_Read_rest, by show 1 < 1000; decide, ?_⟩
              refine q1 ok _ ⟨dx, t, upd_same, SqT.of (by rw [upd_ne npt.symm, upd_ne npt.symm, upd_same])⟩ fun b o n e => ?_
              rw [upd_ne n, upd_ne n, upd_ne (ne_of_none (sm _ _ e) nt)]
              exact sm _ _ e
      · walk_at "rd"
        exact q2 (fun z => c2 z.2.1.1) H (Same.refl _)
def cntF (c t : Int) : Int := if (2 * t + c) / (2 * c) > 1 then (2 * t + c) / (2 * c) else 1
def fixedOne (c t : Int) : List Int := List.replicate (cntF c t - 1).toNat 0 ++ [1]
def fixedM (c : Int) (ns : List Int) (r : Int) : List Int := (ns.map (fixedOne c)).flatten ++ List.replicate ((2 * r + c) / (2 * c)).toNat 0
theorem cntF_le {c t : Int} (hc : 10 ≤ c ∧ c ≤ 1000) (ht : 1 ≤ t ∧ t ≤ 1000000) : 1 ≤ cntF c t ∧ cntF c t ≤ 2001000 := by
  have h := Int.ediv_le_self (a := 2 * t + c) (2 * c) (by omega)
  unfold cntF
  split <;> omega
def sp_fixed_cells (K : PySem.W.Frag) (ad : Ad) : Sp := fun vs H Q E => ∃ (a : Addr) (ns : List Int) (r c : Int), vs = [.ref a, .int c] ∧ ReadAt ad K H a ns r ∧
  (¬ CellOk c → E (.ref ad.C_InvalidCell) none H) ∧
  (CellOk c → ReadOk ns r ∧ (fixedM c ns r).length < 16777216 ∧ ∀ H' p, Same H H' → H p = none → H' p = some (.lst ((fixedM c ns r).map V.int)) → Q (.ref p) H')
theorem ok_fixed_cells (T : Txt K mg ad) : FnOk P w K mg base (L2.CX P w) 2 ad.f_fixed_cells ad.d_fixed_cells ["read", "cell"]  (sp_fixed_cells K ad) := by
  refine T.F_fixed_cells.okX sc_fixed_cells (fun vs H Q E h => ?_) (fun cdv A outer s H vs Q E hr h => ?_)
  · obtain ⟨a, ns, r, c, rfl, _⟩ := h; rfl
  · obtain ⟨a, ns, r, c, rfl, ⟨dx, t, hp, ht⟩, q1, q2⟩ := h
    refine ⟨_, (pss_cons (ps_expr (pe_call (ok_demand_cell (K := K) T) (hr.mono (by decide)) rfl T.g_demand_cell T.F_demand_cell.kp T.b_demand_cell .nil (passes_call (takes_of rfl rfl rfl rfl) (fun _ _ _ _ h => h)) (pa_cons (pv 1) pa_nil)))
      (pss_cons (ps_set (i := 2) sc_fixed_cells.nd rfl (.inl rfl) (pe_lst pa_nil))
      (pss_cons (ps_for (passes_of rfl) rfl (pi_tupK K (hl := (pe_fldK K (he := (pv 0)) (hb := rfl)))) (pg_name (i := 3) sc_fixed_cells.nd rfl (.inl rfl))
      (pss_cons (ps_set (i := 4) sc_fixed_cells.nd rfl (.inl rfl) (pe_callB (call_max2 rfl) (by rfl) T.n_max (by decide +kernel) (pa_cons pe_int (pa_cons (pe_op op_fdiv (pe_op op_add (pe_op op_mul pe_int (pv 3)) (pv 1)) (pe_op op_mul pe_int (pv 1))) pa_nil))))
      (pss_cons (ps_expr (pe_bmK K PySem.F.plainAttrs_list PySem.F.slot_list_extend PySem.F.type_list_extend mt_extend (pv 2) (pa_cons (pe_op op_rep (pe_lst (pa_cons pe_int pa_nil)) (pe_op op_sub (pv 4) pe_int)) pa_nil)))
      (pss_one (ps_expr (pe_bmK K PySem.F.plainAttrs_list PySem.F.slot_list_append PySem.F.type_list_append mt_append (pv 2) (pa_cons pe_int pa_nil)))))))
      (pss_one (ps_ret (pe_op op_cat (pv 2) (pe_op op_rep (pe_lst (pa_cons pe_int pa_nil)) (pe_op op_fdiv (pe_op op_add (pe_op op_mul pe_int (pe_fldK K (he := (pv 0)) (hb := rfl))) (pv 1)) (pe_op op_mul pe_int (pv 1)))))))))), ?_⟩
    walk_at "rd"
    refine ⟨fun hc => ?_, fun hc => q1 hc⟩
    obtain ⟨⟨hz, ⟨hr0, hr1⟩, hn⟩, hlen, q⟩ := q2 hc
    have hc2 := hc
    obtain ⟨hc0, hc1⟩ := hc2
    walk_at "rd"
    refine fun r1 nr => ?_
    have s1 : Same H (upd H r1 (.lst [])) := same_upd nr
    walk_at "rd"
    refine ⟨a, ad.C_Read, dx, _, _, rfl, s1 _ _ hp, T.c_Read, T.na_Read_intervals, by rfl, ?_⟩
    have ht1 := s1.sqt ht
    walk_at "rd"
    refine for_preT (K := K) (a := t) (ns := ns) (emb := V.int) (fun pre σ H' => ∃ (x y : Option V), σ = [some (.ref a), some (.int c), some (.ref r1), x, y] ∧ Same H H' ∧ H' r1 = some (.lst ((pre.map (fixedOne c)).flatten.map V.int))) ⟨_, _, rfl, s1, upd_same⟩ (fun pre σ H' h => by obtain ⟨_, _, _, s, _⟩ := h; exact s.sqt ht) (fun pre b post σ H' hpre h => ?_) (fun σ H' h => ?_)
    · obtain ⟨x, y, rfl, sm, hr'⟩ := h
      have hb := hn b (by rw [hpre]; simp)
      have hcn := cntF_le hc hb
      have htot : (pre.map (fixedOne c)).flatten.length + ((cntF c b - 1).toNat + 1) < 16777216 := by
        have h1 : (fixedM c ns r).length ≥ (pre.map (fixedOne c)).flatten.length + (fixedOne c b).length := by
          unfold fixedM
          rw [hpre]
          simp only [List.map_append, List.map_cons, List.flatten_append, List.flatten_cons, List.length_append]
          omega
        have h2 : (fixedOne c b).length = (cntF c b - 1).toNat + 1 := by unfold fixedOne; simp
        omega
      walk_at "rd"
      refine fun z nz => ?_
      have hz1 : upd H' z (.lst [V.int 0]) z = some (.lst [V.int 0]) := upd_same
      have hr2 : upd H' z (.lst [V.int 0]) r1 = some (.lst ((pre.map (fixedOne c)).flatten.map V.int)) := at_new nz hr'
      have ecnt : (if (2 * b + c) / (2 * c) > 1 then (2 * b + c) / (2 * c) else 1) = cntF c b := rfl
      rw [ecnt]
      walk_at "rd"
      refine fun w nw => ?_
      have hr3 : upd (upd H' z (.lst [V.int 0])) w (.lst (List.replicate (cntF c b - 1).toNat [V.int 0]).flatten) r1 = some (.lst ((pre.map (fixedOne c)).flatten.map V.int)) := at_new nw hr2
      have hw : upd (upd H' z (.lst [V.int 0])) w (.lst (List.replicate (cntF c b - 1).toNat [V.int 0]).flatten) w = some (.lst (List.replicate (cntF c b - 1).toNat [V.int 0]).flatten) := upd_same
      have z1 : ((pre.map (fixedOne c)).flatten.map V.int).length + ((List.replicate (cntF c b - 1).toNat [V.int 0]).flatten).length ≤ sizeLine := line_of (by rw [rep_ints, List.length_map, List.length_map, List.length_replicate]; omega)
      have z2 : ((pre.map (fixedOne c)).flatten.map V.int ++ (List.replicate (cntF c b - 1).toNat [V.int 0]).flatten).length < sizeLine := line_lt (by rw [List.length_append, rep_ints, List.length_map, List.length_map, List.length_replicate]; omega)
      walk_at "rd"
      refine ⟨_, _, rfl, same_new (same_new (same_nx (same_nx sm nz) nw) nr) nr, ?_⟩
      rw [upd_same, List.map_append, List.flatten_append, List.map_append, rep_ints]
      simp only [List.map_cons, List.map_nil, List.flatten_cons, List.flatten_nil, List.append_nil, fixedOne, List.map_append, List.append_assoc]
    · obtain ⟨x, y, rfl, sm, hr'⟩ := h
      walk_at "rd"
      refine fun z nz => ?_
      have s2 : Same H (upd H' z (.lst [V.int 0])) := same_nx sm nz
      have hr2 : upd H' z (.lst [V.int 0]) r1 = some (.lst ((ns.map (fixedOne c)).flatten.map V.int)) := at_new nz hr'
      have hz1 : upd H' z (.lst [V.int 0]) z = some (.lst [V.int 0]) := upd_same
      walk_at "rd"
      refine ⟨a, ad.C_Read, dx, _, _, rfl, s2 _ _ hp, T.c_Read, T.na_Read_rest, by rfl, ?_⟩
      walk_at "rd"
      have hdiv := Int.ediv_le_self (a := 2 * r + c) (2 * c) (by omega)
      have hdiv0 : 0 ≤ (2 * r + c) / (2 * c) := Int.ediv_nonneg (by omega) (by omega)
      walk_at "rd"
      refine fun w nw => ?_
      have e3 : (fixedM c ns r).map V.int = (ns.map (fixedOne c)).flatten.map V.int ++ (List.replicate ((2 * r + c) / (2 * c)).toNat [V.int 0]).flatten := by
        unfold fixedM
        rw [List.map_append, rep_ints]
      have z1 : ((ns.map (fixedOne c)).flatten.map V.int).length + ((List.replicate ((2 * r + c) / (2 * c)).toNat [V.int 0]).flatten).length ≤ sizeLine := line_of (by rw [← List.length_append, ← e3, List.length_map]; omega)
      have hr3 := at_new (o := .lst (List.replicate ((2 * r + c) / (2 * c)).toNat [V.int 0]).flatten) nw hr2
      have s3 : Same H (upd (upd H' z (.lst [V.int 0])) w (.lst (List.replicate ((2 * r + c) / (2 * c)).toNat [V.int 0]).flatten)) := same_nx s2 nw
      have hw : upd (upd H' z (.lst [V.int 0])) w (.lst (List.replicate ((2 * r + c) / (2 * c)).toNat [V.int 0]).flatten) w = some (.lst (List.replicate ((2 * r + c) / (2 * c)).toNat [V.int 0]).flatten) := upd_same
      walk_at "rd"
      refine fun p np => q _ p (same_nx s3 np) (s3.free np) ?_
      rw [upd_same, e3]
/-! ### drawn numbers -/
section
variable {K : PySem.W.Frag} {H : Hp} {Q : VK} {r : Addr} {xs : List V} {k : Int}
/-- an item of a list at a place that is known to lie in it: whatever item it is -/
theorem rd_pick (h : SqL K H r xs) (h0 : 0 ≤ k) (h1 : k < xs.length) (q : ∀ v ∈ xs, Q v H) : rIxL K (.ref r) (.int k) H Q := by
  have hk : k.toNat < xs.length := by omega
  exact ⟨r, xs, k, xs[k.toNat], rfl, rfl, h, at_of (j := k.toNat) (by omega) (List.getElem?_eq_getElem hk), q _ (List.getElem_mem hk)⟩
theorem rd_pickT (h : SqT K H r xs) (h0 : 0 ≤ k) (h1 : k < xs.length) (q : ∀ v ∈ xs, Q v H) : rIxT K (.ref r) (.int k) H Q := by
  have hk : k.toNat < xs.length := by omega
  exact ⟨r, xs, k, xs[k.toNat], rfl, rfl, h, at_of (j := k.toNat) (by omega) (List.getElem?_eq_getElem hk), q _ (List.getElem_mem hk)⟩
/-- .. of ints, by its place -/
theorem rd_int {ns : List Int} (h : SqL K H r (ns.map V.int)) (h0 : 0 ≤ k) (h1 : k < ns.length) (q : ∀ n, ns[k.toNat]? = some n → Q (.int n) H) : rIxL K (.ref r) (.int k) H Q := by
  have hk : k.toNat < ns.length := by omega
  exact ⟨r, _, k, V.int ns[k.toNat], rfl, rfl, h, at_of (j := k.toNat) (by omega) (by rw [List.getElem?_map, List.getElem?_eq_getElem hk]; rfl), q _ (List.getElem?_eq_getElem hk)⟩
theorem rd_intT {ns : List Int} (h : SqT K H r (ns.map V.int)) (h0 : 0 ≤ k) (h1 : k < ns.length) (q : ∀ n, ns[k.toNat]? = some n → Q (.int n) H) : rIxT K (.ref r) (.int k) H Q := by
  have hk : k.toNat < ns.length := by omega
  exact ⟨r, _, k, V.int ns[k.toNat], rfl, rfl, h, at_of (j := k.toNat) (by omega) (by rw [List.getElem?_map, List.getElem?_eq_getElem hk]; rfl), q _ (List.getElem?_eq_getElem hk)⟩
end
/-- ints made one after the other, each with P; what was tracked stands -/
def MadeS (H : Hp) (P : Int → Prop) (i : Nat) (acc : List V) (H' : Hp) : Prop := Same H H' ∧ ∃ ns : List Int, acc = ns.map V.int ∧ ns.length = i ∧ ∀ n ∈ ns, P n
theorem MadeS.start {D : Addr} {H : Hp} {P : Int → Prop} (hD : H D = none) : MadeS H P 0 [] (upd H D (.lst [])) := ⟨same_upd hD, [], rfl, rfl, fun _ h => nomatch h⟩
theorem MadeS.keep {D : Addr} {H : Hp} {P : Int → Prop} (hD : H D = none) (i : Nat) (acc : List V) (H1 H2 : Hp) (h : MadeS H P i acc H1) (b : But D H1 H2) : MadeS H P i acc H2 := ⟨h.1.but hD b, h.2⟩
theorem MadeS.more {H H1 H2 : Hp} {P : Int → Prop} {i : Nat} {acc : List V} {v : Int} (h : MadeS H P i acc H1) (b : Same H1 H2) (hv : P v) : MadeS H P (i + 1) (acc ++ [V.int v]) H2 := by
  obtain ⟨b1, ns, rfl, rfl, hn⟩ := h
  refine ⟨b1.trans b, ns ++ [v], by rw [List.map_append]; rfl, by simp, fun n h => ?_⟩
  rcases List.mem_append.mp h with h | h
  · exact hn n h
  · rw [List.mem_singleton.mp h]; exact hv
theorem cntF_alt (c t : Int) : (if (2 * t + c) / (2 * c) < 1 then 1 else (2 * t + c) / (2 * c)) = cntF c t := by
  unfold cntF
  split <;> split <;> omega
def sp_law (K : PySem.W.Frag) : Sp := fun vs H Q _ => ∃ (a : Addr) (ns : List Int), vs = [.ref a] ∧ SqL K H a (ns.map V.int) ∧ ns.length ≤ 63 ∧ ∀ H', Q (.bl true) H'
theorem ok_law (T : Txt K mg ad) : FnOk P w K mg base CX0 4 ad.f_law ad.d_law ["_law_script"]  (sp_law K) := by
  refine T.F_law.ok sc_law (fun vs H Q E h => ?_) (fun cdv A outer s H vs Q E hr h => ?_)
  · obtain ⟨a, ns, rfl, _⟩ := h; rfl
  · obtain ⟨a, ns, rfl, hl, hlen, q⟩ := h
    refine ⟨_, (pss_cons (ps_set (i := 1) sc_law.nd rfl (.inl rfl) (pe_call (ok_z_law_draws (K := K) T) (hr.mono (by decide)) rfl T.g_z_law_draws T.F_z_law_draws.kp T.b_z_law_draws .nil pass0 (pa_cons (pe_call (ok_z_law_cell (K := K) T) (hr.mono (by decide)) rfl T.g_z_law_cell T.F_z_law_cell.kp T.b_z_law_cell .nil pass0 (pa_cons (pv 0) (pa_cons pe_int pa_nil))) (pa_cons pe_int pa_nil))))
      (pss_cons (ps_set (i := 2) sc_law.nd rfl (.inl rfl) (pe_ix (ix_listK K) (pe_lst (pa_cons pe_int (pa_cons pe_int (pa_cons (pe_op op_add pe_int (pe_op op_mod (pe_ix (ix_listK K) (pv 1) pe_int (fun _ _ => rfl)) pe_int)) (pa_cons pe_int pa_nil))))) (pe_op op_mod (pe_ix (ix_listK K) (pv 1) pe_int (fun _ _ => rfl)) pe_int) (fun _ _ => rfl)))
      (pss_cons (ps_set (i := 3) sc_law.nd rfl (.inl rfl) (pe_lst pa_nil))
      (pss_cons (ps_for PassesOwn.never rfl (pi_range1 (by rfl) T.n_range (pa_cons (pe_op op_mod (pe_ix (ix_listK K) (pv 1) pe_int (fun _ _ => rfl)) pe_int) pa_nil)) (pg_name (i := 4) sc_law.nd rfl (.inl rfl))
      (pss_cons (ps_set (i := 5) sc_law.nd rfl (.inl rfl) (pe_ix (ix_listK K) (pv 1) (pe_op op_add pe_int (pv 4)) (fun _ _ => rfl)))
      (pss_one (ps_expr (pe_bmK K PySem.F.plainAttrs_list PySem.F.slot_list_append PySem.F.type_list_append mt_append (pv 3) (pa_cons (pe_callB (call_max2 rfl) (by rfl) T.n_max (by decide +kernel) (pa_cons pe_int (pa_cons (pe_ix (ix_listK K) (pe_lst (pa_cons (pe_op op_sub (pe_op op_add (pe_op op_mul (pe_op op_mod (pv 5) pe_int) (pv 2)) (pe_op op_mod (pe_op op_fdiv (pv 5) pe_int) pe_int)) pe_int) (pa_cons (pe_op op_sub (pe_op op_add (pe_op op_add (pe_op op_mul (pv 2) (pe_op op_mod (pv 5) pe_int)) (pe_op op_fdiv (pv 2) pe_int)) (pe_op op_mod (pe_op op_fdiv (pv 5) pe_int) pe_int)) pe_int) (pa_cons (pe_op op_add pe_int (pe_op op_mod (pv 5) (pe_op op_mul pe_int (pv 2)))) pa_nil)))) (pe_op op_mod (pv 5) pe_int) (fun _ _ => rfl)) pa_nil))) pa_nil))))))
      (pss_cons (ps_set (i := 6) sc_law.nd rfl (.inl rfl) (pe_op op_mod (pe_ix (ix_listK K) (pv 1) pe_int (fun _ _ => rfl)) (pe_op op_mul pe_int (pv 2))))
      (pss_cons (ps_set (i := 7) sc_law.nd rfl (.inl rfl) (pe_lst pa_nil))
      (pss_cons (ps_for PassesOwn.never rfl (pi_listK K (hl := (pv 3))) (pg_name (i := 8) sc_law.nd rfl (.inl rfl))
      (pss_cons (ps_set (i := 9) sc_law.nd rfl (.inl rfl) (pe_op op_fdiv (pe_op op_add (pe_op op_mul pe_int (pv 8)) (pv 2)) (pe_op op_mul pe_int (pv 2))))
      (pss_cut (ps_if (pt_cmpR op_lt (pv 9) pe_int (nomark _))
      (pss_one (ps_set (i := 9) sc_law.nd rfl (.inl rfl) pe_int))
      pss_nil)
      (pss_one (ps_set (i := 7) sc_law.nd rfl (.inl rfl) (pe_op op_cat (pe_op op_cat (pv 7) (pe_op op_rep (pe_lst (pa_cons pe_int pa_nil)) (pe_op op_sub (pv 9) pe_int))) (pe_lst (pa_cons pe_int pa_nil))))))))
      (pss_cons (ps_set (i := 7) sc_law.nd rfl (.inl rfl) (pe_op op_cat (pv 7) (pe_op op_rep (pe_lst (pa_cons pe_int pa_nil)) (pe_op op_fdiv (pe_op op_add (pe_op op_mul pe_int (pv 6)) (pv 2)) (pe_op op_mul pe_int (pv 2))))))
      (pss_cons (ps_if (pt_not (pt_val (pe_call (ok_z_law_is_list (K := K) T) (hr.mono (by decide)) rfl T.g_z_law_is_list T.F_z_law_is_list.kp T.b_z_law_is_list .nil pass0 (pa_cons (pe_call (ok_fixed_cells (K := K) T) (hr.mono (by decide)) rfl T.g_fixed_cells T.F_fixed_cells.kp T.b_fixed_cells .nil passL (pa_cons (pe_make T.M_Read (ok_Read_init (K := K) T) (hr.mono (by decide)) rfl T.g_Read T.b_Read_init .nil passL (pa_cons (pv 3) (pa_cons (pv 6) pa_nil))) (pa_cons (pv 2) pa_nil))) (pa_cons (pv 7) pa_nil)))))
      (pss_one (ps_ret pe_bl))
      pss_nil)
      (pss_cons (ps_set (i := 10) sc_law.nd rfl (.inl rfl) (pe_op op_mod (pe_callTy call_int1 (by rfl) T.n_int (by decide +kernel) (pa_cons (pe_call (ok_z_law_cell (K := K) T) (hr.mono (by decide)) rfl T.g_z_law_cell T.F_z_law_cell.kp T.b_z_law_cell .nil pass0 (pa_cons (pv 0) (pa_cons pe_int pa_nil))) pa_nil)) (pe_op op_pow pe_int pe_int)))
      (pss_cons (ps_for PassesOwn.never rfl (pi_tupK K (hl := (pe_tup (pa_cons (pe_op op_sub pe_int (pv 10)) (pa_cons (pe_op op_add pe_int (pv 10)) pa_nil))))) (pg_name (i := 11) sc_law.nd rfl (.inl rfl))
      (pss_cons (ps_try_only rfl rfl ⟨rfl, by decide, .inl T.g_InvalidCell⟩ takes0 (fun W pn xe tk po => (pss_one (ps_expr (pe_callS (ok_fixed_cells (K := K) T) (hr.mono (by decide)) rfl T.g_fixed_cells T.F_fixed_cells.kp T.b_fixed_cells  (fun σ => passAt tk σ) (pa_cons (pe_makeS T.M_Read (ok_Read_init (K := K) T) (hr.mono (by decide)) rfl T.g_Read T.b_Read_init .nil (fun σ => passAt tk σ) (pa_cons (pv 3) (pa_cons (pv 6) pa_nil))) (pa_cons (pv 11) pa_nil)))))) (fun a oe cls d pn hz hf => (pss_one ps_continue)))
      (pss_one (ps_ret pe_bl))))
      (pss_one (ps_ret pe_bl))))))))))))), ?_⟩
    walk_at "rd"
    refine ⟨a, ns, _, rfl, hl, by decide, fun v => ?_⟩
    walk_at "rd"
    refine fun ds r H1 hd s1 nr hr1 => ?_
    have hS := SqL.of (K := K) hr1
    obtain ⟨d0, e0, b0⟩ := hd.ix (k := 0) (by decide) (by decide)
    obtain ⟨d1, e1, b1⟩ := hd.ix (k := 1) (by decide) (by decide)
    obtain ⟨d2, e2, b2⟩ := hd.ix (k := 2) (by decide) (by decide)
    obtain ⟨d20, e20, b20⟩ := hd.ix (k := 20) (by decide) (by decide)
    walk_at "rd"
    refine fun t nt => ?_
    generalize hH2 : upd H1 t (.lst [V.int 10, V.int 1000, V.int (10 + d0 % 991), V.int 100]) = H2
    have s2 : Same H1 H2 := hH2 ▸ same_upd nt
    have s12 := s1.trans s2
    have hS2 := s2.seq hS
    have ht : H2 t = some (.lst [V.int 10, V.int 1000, V.int (10 + d0 % 991), V.int 100]) := hH2 ▸ upd_same
    obtain ⟨cv, ev, hv⟩ := pick (xs := [V.int 10, V.int 1000, V.int (10 + d0 % 991), V.int 100]) (k := d1 % 4) (by omega) (by show d1 % 4 < 4; omega)
    obtain ⟨c, rfl, hc⟩ : ∃ c, cv = V.int c ∧ CellOk c := by
      simp at hv
      rcases hv with rfl | rfl | rfl | rfl
      · exact ⟨_, rfl, by constructor <;> omega⟩
      · exact ⟨_, rfl, by constructor <;> omega⟩
      · exact ⟨_, rfl, by constructor <;> omega⟩
      · exact ⟨_, rfl, by constructor <;> omega⟩
    have hcc := hc
    obtain ⟨hc0, hc1⟩ := hcc
    walk_at "rd"
    refine fun ra nra => ?_
    have s3 : Same H2 (upd H2 ra (.lst [])) := same_upd nra
    have hS3 := s3.seq hS2
    walk_at "rd"
    refine for_range (lo := 0) (fun i σ H' => ∃ (ts : List Int) (x y : Option V), σ = [some (.ref a), some (.ref r), some (.int c), some (.ref ra), x, y, none, none, none, none, none, none] ∧ Same H2 H' ∧ H' ra = some (.lst (ts.map V.int)) ∧ ts.length = i ∧ ∀ t ∈ ts, 1 ≤ t ∧ t ≤ 10000) ⟨[], _, _, rfl, s3, upd_same, rfl, fun _ h => nomatch h⟩ (fun i σ H' hi h => ?_) (fun σ H' h => ?_)
    · obtain ⟨ts, x, y, rfl, s4, hra, htl, hts⟩ := h
      have hi' : i < 15 := by omega
      have hS4 := s4.seq hS2
      obtain ⟨d, ed, bd⟩ := hd.ix (k := 3 + (0 + (i : Int))) (by omega) (by show _ < 60; omega)
      walk_at "rd"
      refine fun t3 nt3 => ?_
      generalize hH8 : upd H' t3 (.lst [V.int (d % 6 * c + d / 6 % 7 - 3), V.int (c * (d % 5) + c / 2 + d / 5 % 3 - 1), V.int (1 + d % (5 * c))]) = H8
      have s8 : Same H' H8 := hH8 ▸ same_upd nt3
      have ht3 : H8 t3 = some (.lst [V.int (d % 6 * c + d / 6 % 7 - 3), V.int (c * (d % 5) + c / 2 + d / 5 % 3 - 1), V.int (1 + d % (5 * c))]) := hH8 ▸ upd_same
      obtain ⟨mv, em, hm⟩ := pick (xs := [V.int (d % 6 * c + d / 6 % 7 - 3), V.int (c * (d % 5) + c / 2 + d / 5 % 3 - 1), V.int (1 + d % (5 * c))]) (k := d % 3) (by omega) (by show d % 3 < 3; omega)
      have u0 := Int.emod_nonneg d (show 5 * c ≠ 0 by omega)
      have u1 := Int.emod_lt_of_pos d (show 0 < 5 * c by omega)
      have u2 : d % 6 * c ≤ 5 * 1000 := Int.mul_le_mul (by omega) hc1 (by omega) (by omega)
      have u3 : c * (d % 5) ≤ 1000 * 4 := Int.mul_le_mul hc1 (by omega) (by omega) (by omega)
      obtain ⟨e, rfl, he⟩ : ∃ e, mv = V.int e ∧ e ≤ 10000 := by
        simp at hm
        rcases hm with rfl | rfl | rfl
        · exact ⟨_, rfl, by omega⟩
        · exact ⟨_, rfl, by omega⟩
        · exact ⟨_, rfl, by omega⟩
      have hra8 := s8 _ _ hra
      have hz8 : (ts.map V.int).length < sizeLine := line_lt (by rw [List.length_map]; omega)
      walk_at "rd"
      obtain ⟨w, ew, hw1, hw2⟩ : ∃ w : Int, (if e > 1 then e else 1) = w ∧ 1 ≤ w ∧ w ≤ 10000 := ⟨_, rfl, by split <;> omega⟩
      rw [ew]
      walk_at "rd"
      refine ⟨ts ++ [w], _, _, rfl, same_new (s4.trans s8) nra, ?_, by simp [htl], fun t ht => ?_⟩
      · rw [upd_same, List.map_append]; rfl
      · rcases List.mem_append.mp ht with ht | ht
        · exact hts t ht
        · rw [List.mem_singleton.mp ht]; exact ⟨hw1, hw2⟩
    · obtain ⟨ts, x, y, rfl, s4, hra, htl, hts⟩ := h
      have hS4 := s4.seq hS2
      walk_at "rd"
      have hct : 0 < 4 * c := by omega
      have w0 := Int.emod_nonneg d20 (show 4 * c ≠ 0 by omega)
      have w1 := Int.emod_lt_of_pos d20 hct
      refine fun D0 nD0 => ?_
      generalize hH5 : upd H' D0 (.lst []) = H5
      have s5 : Same H' H5 := hH5 ▸ same_upd nD0
      have hD0 : H5 D0 = some (.lst []) := hH5 ▸ upd_same
      have hra5 := s5 _ _ hra
      have hSra : SqL K H5 ra (ts.map V.int) := SqL.of hra5
      have hdv : ∀ t : Int, 0 ≤ t → t ≤ 10000 → 0 ≤ (2 * t + c) / (2 * c) ∧ (2 * t + c) / (2 * c) ≤ 21000 := fun t h0 h1 => ⟨Int.ediv_nonneg (by omega) (by omega), by have := Int.ediv_le_self (a := 2 * t + c) (2 * c) (by omega); omega⟩
      have hcn : ∀ t ∈ ts, 1 ≤ cntF c t ∧ cntF c t ≤ 21000 := fun t ht => by
        have h1 := hts t ht
        have h2 := hdv t (by omega) h1.2
        unfold cntF
        split <;> omega
      have hfl : ∀ l : List Int, (∀ t ∈ l, 1 ≤ cntF c t ∧ cntF c t ≤ 21000) → (l.map (fixedOne c)).flatten.length ≤ 21000 * l.length := by
        intro l
        induction l with
        | nil => intro _; exact Nat.le_refl _
        | cons t l ih =>
          intro h
          have h1 := h t List.mem_cons_self
          have h2 := ih fun x hx => h x (List.mem_cons_of_mem _ hx)
          have h3 : (fixedOne c t).length = (cntF c t - 1).toNat + 1 := by unfold fixedOne; simp
          rw [List.map_cons, List.flatten_cons, List.length_append, List.length_cons, h3]
          omega
      walk_at "rd"
      refine for_pre (K := K) (a := ra) (ns := ts) (emb := V.int) (fun pre σ H' => ∃ (D : Addr) (x8 y8 : Option V), σ = [some (.ref a), some (.ref r), some (.int c), some (.ref ra), x, y, some (.int (d20 % (4 * c))), some (.ref D), x8, y8, none, none] ∧ Same H5 H' ∧ H' D = some (.lst ((pre.map (fixedOne c)).flatten.map V.int))) ⟨D0, _, _, rfl, Same.refl _, hD0⟩ (fun pre σ H' h => by obtain ⟨_, _, _, _, s, _⟩ := h; exact s.seq hSra) (fun pre b post σ H' hpre h => ?_) (fun σ H' h => ?_)
      · obtain ⟨D, x8, y8, rfl, s6, hD⟩ := h
        have hb : b ∈ ts := by rw [hpre]; simp
        have hbb := hts b hb
        have hcb := hcn b hb
        have hpl := hfl pre fun t ht => hcn t (by rw [hpre]; simp [ht])
        have hpl2 : pre.length ≤ 15 := by have := congrArg List.length hpre; simp at this; omega
        walk_at "rd"
        refine ⟨fun σ H'' => H'' = H' ∧ σ = [some (.ref a), some (.ref r), some (.int c), some (.ref ra), x, y, some (.int (d20 % (4 * c))), some (.ref D), some (.int b), some (.int (cntF c b)), none, none], ?_, ?_⟩
        · have ea := cntF_alt c b
          walk_at "rd"
          refine iteB (fun d => ?_) (fun d => ?_)
          · rw [if_pos (of_decide_eq_true d)] at ea
            walk_at "rd"
            rw [← ea]
            rfl
          · rw [if_neg (of_decide_eq_false d)] at ea
            rw [← ea]
            exact ⟨rfl, rfl⟩
        · rintro σ H'' ⟨rfl, rfl⟩
          walk_at "rd"
          refine fun z nz => ?_
          generalize hHA : upd H'' z (.lst [V.int 0]) = HA
          have sA : Same H'' HA := hHA ▸ same_upd nz
          have hzA : HA z = some (.lst [V.int 0]) := hHA ▸ upd_same
          have hDA := sA _ _ hD
          walk_at "rd"
          refine fun w nw => ?_
          generalize hHB : upd HA w (.lst (List.replicate (cntF c b - 1).toNat [V.int 0]).flatten) = HB
          have sB : Same HA HB := hHB ▸ same_upd nw
          have hwB : HB w = some (.lst (List.replicate (cntF c b - 1).toNat [V.int 0]).flatten) := hHB ▸ upd_same
          have hDB := sB _ _ hDA
          have zB : ((pre.map (fixedOne c)).flatten.map V.int).length + (List.replicate (cntF c b - 1).toNat [V.int 0]).flatten.length ≤ sizeLine := line_of (by rw [rep_ints, List.length_map, List.length_map, List.length_replicate]; omega)
          walk_at "rd"
          refine fun u nu => ?_
          generalize hHC : upd HB u (.lst ((pre.map (fixedOne c)).flatten.map V.int ++ (List.replicate (cntF c b - 1).toNat [V.int 0]).flatten)) = HC
          have sC : Same HB HC := hHC ▸ same_upd nu
          have huC : HC u = some (.lst ((pre.map (fixedOne c)).flatten.map V.int ++ (List.replicate (cntF c b - 1).toNat [V.int 0]).flatten)) := hHC ▸ upd_same
          walk_at "rd"
          refine fun z2 nz2 => ?_
          generalize hHD : upd HC z2 (.lst [V.int 1]) = HD
          have sD : Same HC HD := hHD ▸ same_upd nz2
          have hzD : HD z2 = some (.lst [V.int 1]) := hHD ▸ upd_same
          have huD := sD _ _ huC
          have zD : ((pre.map (fixedOne c)).flatten.map V.int ++ (List.replicate (cntF c b - 1).toNat [V.int 0]).flatten).length + [V.int 1].length ≤ sizeLine := line_of (by rw [List.length_append, rep_ints, List.length_map, List.length_map, List.length_replicate]; show _ + 1 ≤ _; omega)
          walk_at "rd"
          refine fun D2 nD2 => ?_
          refine ⟨D2, _, _, rfl, same_nx ((((s6.trans sA).trans sB).trans sC).trans sD) nD2, ?_⟩
          rw [upd_same, List.map_append, List.flatten_append, List.map_append, rep_ints]
          simp only [List.map_cons, List.map_nil, List.flatten_cons, List.flatten_nil, List.append_nil, fixedOne, List.map_append, List.append_assoc]
      · obtain ⟨D, x8, y8, rfl, s6, hD⟩ := h
        walk_at "rd"
        have hrr := hdv (d20 % (4 * c)) w0 (by omega)
        have hpl := hfl ts hcn
        have htl2 : ts.length ≤ 15 := by omega
        refine fun z nz => ?_
        generalize hHA : upd H' z (.lst [V.int 0]) = HA
        have sA : Same H' HA := hHA ▸ same_upd nz
        have hzA : HA z = some (.lst [V.int 0]) := hHA ▸ upd_same
        have hDA := sA _ _ hD
        walk_at "rd"
        refine fun w nw => ?_
        generalize hHB : upd HA w (.lst (List.replicate ((2 * (d20 % (4 * c)) + c) / (2 * c)).toNat [V.int 0]).flatten) = HB
        have sB : Same HA HB := hHB ▸ same_upd nw
        have hwB : HB w = some (.lst (List.replicate ((2 * (d20 % (4 * c)) + c) / (2 * c)).toNat [V.int 0]).flatten) := hHB ▸ upd_same
        have hDB := sB _ _ hDA
        have zB : ((ts.map (fixedOne c)).flatten.map V.int).length + (List.replicate ((2 * (d20 % (4 * c)) + c) / (2 * c)).toNat [V.int 0]).flatten.length ≤ sizeLine := line_of (by rw [rep_ints, List.length_map, List.length_map, List.length_replicate]; omega)
        walk_at "rd"
        refine fun u nu => ?_
        have efx : (fixedM c ts (d20 % (4 * c))).map V.int = (ts.map (fixedOne c)).flatten.map V.int ++ (List.replicate ((2 * (d20 % (4 * c)) + c) / (2 * c)).toNat [V.int 0]).flatten := by unfold fixedM; rw [List.map_append, rep_ints]
        have lfx : (fixedM c ts (d20 % (4 * c))).length < 1000000 := by unfold fixedM; rw [List.length_append, List.length_replicate]; omega
        rw [← efx]
        generalize hHC : upd HB u (.lst ((fixedM c ts (d20 % (4 * c))).map V.int)) = HC
        have sC : Same HB HC := hHC ▸ same_upd nu
        have huC : HC u = some (.lst ((fixedM c ts (d20 % (4 * c))).map V.int)) := hHC ▸ upd_same
        have hra6 := sC _ _ (sB _ _ (sA _ _ (s6 _ _ hra5)))
        have okR : ReadOk ts (d20 % (4 * c)) := ⟨by omega, ⟨w0, by omega⟩, fun t ht => by have := hts t ht; omega⟩
        walk_at "rd"
        refine fun z1 dz nz1 ndz nez => ?_
        refine ⟨z1, dz, ra, ts, _, rfl, upd_same, (Same.init0 (Same.refl HC) nz1 ndz).seq (SqL.of hra6), by omega, fun _ H9 hR9 b9 => ⟨rfl, ?_⟩, fun no => absurd okR no⟩
        have s9 : Same HC H9 := Same.init (Same.refl HC) nz1 ndz b9
        walk_at "rd"
        refine ⟨z1, ts, _, c, rfl, hR9, fun no => absurd hc no, fun _ => ⟨okR, by omega, fun H10 f s10 nf hf => ?_⟩⟩
        have hu10 := s10 _ _ (s9 _ _ huC)
        have hra10 := s10 _ _ (s9 _ _ hra6)
        have hl10 := ((((((((s12.trans s4).trans s5).trans s6).trans sA).trans sB).trans sC).trans s9).trans s10).seq hl
        walk_at "rd"
        refine ⟨f, u, _, rfl, SqL.of hf, SqL.of hu10, by omega, ?_⟩
        walk_at "rd"
        refine ⟨a, ns, _, rfl, hl10, by decide, fun gv => ?_⟩
        walk_at "rd"
        refine And.intro (show (0 : Int) < 10 ^ (29 : Int).toNat by decide) ?_
        have g0 := Int.emod_nonneg gv (show (10 : Int) ^ (29 : Int).toNat ≠ 0 by decide)
        walk_at "rd"
        refine fun tp ntp => ?_
        have s11 : Same H10 (upd H10 tp (.tup [V.int (9 - gv % 10 ^ (29 : Int).toNat), V.int (1001 + gv % 10 ^ (29 : Int).toNat)])) := same_upd ntp
        have hTp : SqT K (upd H10 tp (.tup [V.int (9 - gv % 10 ^ (29 : Int).toNat), V.int (1001 + gv % 10 ^ (29 : Int).toNat)])) tp (([9 - gv % 10 ^ (29 : Int).toNat, 1001 + gv % 10 ^ (29 : Int).toNat] : List Int).map V.int) := SqT.of upd_same
        walk_at "rd"
        refine for_preT (K := K) (a := tp) (ns := [9 - gv % 10 ^ (29 : Int).toNat, 1001 + gv % 10 ^ (29 : Int).toNat]) (emb := V.int) (fun pre σ H' => Same H10 H' ∧ SqT K H' tp (([9 - gv % 10 ^ (29 : Int).toNat, 1001 + gv % 10 ^ (29 : Int).toNat] : List Int).map V.int) ∧ ∃ w : Option V, σ = [some (.ref a), some (.ref r), some (.int c), some (.ref ra), x, y, some (.int (d20 % (4 * c))), some (.ref u), x8, y8, some (.int (gv % 10 ^ (29 : Int).toNat)), w]) ⟨s11, hTp, _, rfl⟩ (fun pre σ H' h => h.2.1) (fun pre b post σ H' hpre h => ?_) (fun σ H' h => ?_)
        · obtain ⟨s14, hT14, w, rfl⟩ := h
          have hb : b = 9 - gv % 10 ^ (29 : Int).toNat ∨ b = 1001 + gv % 10 ^ (29 : Int).toNat := by
            have hm : b ∈ ([9 - gv % 10 ^ (29 : Int).toNat, 1001 + gv % 10 ^ (29 : Int).toNat] : List Int) := by rw [hpre]; simp
            simpa using hm
          have hbad : ¬ CellOk b := fun z => by obtain ⟨z1, z2⟩ := z; omega
          have hra11 := s14 _ _ hra10
          walk_at "rd"
          refine fun z2 dz2 nz2 ndz2 nez2 => ?_
          refine ⟨z2, dz2, ra, ts, _, rfl, upd_same, (Same.init0 (Same.refl H') nz2 ndz2).seq (SqL.of hra11), by omega, fun _ H12 hR12 b12 => ⟨rfl, ?_⟩, fun no => absurd okR no⟩
          have s13 : Same H' H12 := Same.init (Same.refl H') nz2 ndz2 b12
          walk_at "rd"
          refine ⟨z2, ts, _, b, rfl, hR12, fun _ => ⟨true, T.exm_InvalidCell_InvalidCell, fun _ a0 na0 => ?_, fun z => Bool.noConfusion z⟩, fun ok => absurd ok hbad⟩
          exact ⟨s14.trans s13, s13.sqt hT14, _, rfl⟩
        · obtain ⟨_, _, w, rfl⟩ := h
          walk_at "rd"
          exact q _
end
theorem all_mk {l : PySem.W.OpenLaw} {w : World} {K : PySem.W.Frag} {h : Heap} {mg : Str → Option Value} {fa : Addr} (X : K.In h) (G : h.Ns mainGlobals mg) (hfa : mg "law" = some (.ref fa))
    {f_z_law_draws : Addr} {od_z_law_draws an_z_law_draws : Option Addr} {sl_z_law_draws : Array (Option Value)} {oc_z_law_draws kV_z_law_draws dc_z_law_draws pm_z_law_draws cd_z_law_draws ct_z_law_draws : Value}
    {f_z_law_cell : Addr} {od_z_law_cell an_z_law_cell : Option Addr} {sl_z_law_cell : Array (Option Value)} {oc_z_law_cell kV_z_law_cell dc_z_law_cell pm_z_law_cell cd_z_law_cell ct_z_law_cell : Value}
    {f_z_law_is_int : Addr} {od_z_law_is_int an_z_law_is_int : Option Addr} {sl_z_law_is_int : Array (Option Value)} {oc_z_law_is_int kV_z_law_is_int dc_z_law_is_int pm_z_law_is_int cd_z_law_is_int ct_z_law_is_int : Value}
    {f_z_law_ints : Addr} {od_z_law_ints an_z_law_ints : Option Addr} {sl_z_law_ints : Array (Option Value)} {oc_z_law_ints kV_z_law_ints dc_z_law_ints pm_z_law_ints cd_z_law_ints ct_z_law_ints : Value}
    {f_z_law_is_list : Addr} {od_z_law_is_list an_z_law_is_list : Option Addr} {sl_z_law_is_list : Array (Option Value)} {oc_z_law_is_list kV_z_law_is_list dc_z_law_is_list pm_z_law_is_list cd_z_law_is_list ct_z_law_is_list : Value}
    {f_demand_cell : Addr} {od_demand_cell an_demand_cell : Option Addr} {sl_demand_cell : Array (Option Value)} {oc_demand_cell kV_demand_cell dc_demand_cell pm_demand_cell cd_demand_cell ct_demand_cell : Value}
    {f_Read_init : Addr} {od_Read_init an_Read_init : Option Addr} {sl_Read_init : Array (Option Value)} {oc_Read_init kV_Read_init dc_Read_init pm_Read_init cd_Read_init ct_Read_init : Value}
    {f_fixed_cells : Addr} {od_fixed_cells an_fixed_cells : Option Addr} {sl_fixed_cells : Array (Option Value)} {oc_fixed_cells kV_fixed_cells dc_fixed_cells pm_fixed_cells cd_fixed_cells ct_fixed_cells : Value}
    {f_law : Addr} {od_law an_law : Option Addr} {sl_law : Array (Option Value)} {oc_law kV_law dc_law pm_law cd_law ct_law : Value}
    {t_MOST_INTERVALS : Tok}
    {t_LONGEST : Tok}
    {t_SHORTEST_CELL : Tok}
    {t_LONGEST_CELL : Tok}
    {C_InvalidCell : Addr}
    {C_InvalidRead : Addr}
    {C_Read : Addr}
    (a_InvalidCell : PySem.W.nsIn K mainGlobals "InvalidCell" = some (some (.ref C_InvalidCell)))
    (a_InvalidRead : PySem.W.nsIn K mainGlobals "InvalidRead" = some (some (.ref C_InvalidRead)))
    (a_Read : PySem.W.nsIn K mainGlobals "Read" = some (some (.ref C_Read)))
    (a_z_law_draws : PySem.W.nsIn K mainGlobals "_law_draws" = some (some (.ref f_z_law_draws)))
    (l_z_law_draws : K.lookup f_z_law_draws = some ⟨oc_z_law_draws, od_z_law_draws, .func (PySem.W.fnOf "_law_draws" "_law_draws" (defArgs s_z_law_draws) (defBody s_z_law_draws) (defScope s_z_law_draws) .none kV_z_law_draws dc_z_law_draws pm_z_law_draws an_z_law_draws cd_z_law_draws ct_z_law_draws), sl_z_law_draws⟩)
    (c_z_law_draws : PySem.W.codeIn K cd_z_law_draws "_law_draws" = true)
    (k_z_law_draws : PySem.W.keepIn K (.ref f_z_law_draws) = true)
    (a_z_law_cell : PySem.W.nsIn K mainGlobals "_law_cell" = some (some (.ref f_z_law_cell)))
    (l_z_law_cell : K.lookup f_z_law_cell = some ⟨oc_z_law_cell, od_z_law_cell, .func (PySem.W.fnOf "_law_cell" "_law_cell" (defArgs s_z_law_cell) (defBody s_z_law_cell) (defScope s_z_law_cell) .none kV_z_law_cell dc_z_law_cell pm_z_law_cell an_z_law_cell cd_z_law_cell ct_z_law_cell), sl_z_law_cell⟩)
    (c_z_law_cell : PySem.W.codeIn K cd_z_law_cell "_law_cell" = true)
    (k_z_law_cell : PySem.W.keepIn K (.ref f_z_law_cell) = true)
    (a_z_law_is_int : PySem.W.nsIn K mainGlobals "_law_is_int" = some (some (.ref f_z_law_is_int)))
    (l_z_law_is_int : K.lookup f_z_law_is_int = some ⟨oc_z_law_is_int, od_z_law_is_int, .func (PySem.W.fnOf "_law_is_int" "_law_is_int" (defArgs s_z_law_is_int) (defBody s_z_law_is_int) (defScope s_z_law_is_int) .none kV_z_law_is_int dc_z_law_is_int pm_z_law_is_int an_z_law_is_int cd_z_law_is_int ct_z_law_is_int), sl_z_law_is_int⟩)
    (c_z_law_is_int : PySem.W.codeIn K cd_z_law_is_int "_law_is_int" = true)
    (k_z_law_is_int : PySem.W.keepIn K (.ref f_z_law_is_int) = true)
    (a_z_law_ints : PySem.W.nsIn K mainGlobals "_law_ints" = some (some (.ref f_z_law_ints)))
    (l_z_law_ints : K.lookup f_z_law_ints = some ⟨oc_z_law_ints, od_z_law_ints, .func (PySem.W.fnOf "_law_ints" "_law_ints" (defArgs s_z_law_ints) (defBody s_z_law_ints) (defScope s_z_law_ints) .none kV_z_law_ints dc_z_law_ints pm_z_law_ints an_z_law_ints cd_z_law_ints ct_z_law_ints), sl_z_law_ints⟩)
    (c_z_law_ints : PySem.W.codeIn K cd_z_law_ints "_law_ints" = true)
    (k_z_law_ints : PySem.W.keepIn K (.ref f_z_law_ints) = true)
    (a_z_law_is_list : PySem.W.nsIn K mainGlobals "_law_is_list" = some (some (.ref f_z_law_is_list)))
    (l_z_law_is_list : K.lookup f_z_law_is_list = some ⟨oc_z_law_is_list, od_z_law_is_list, .func (PySem.W.fnOf "_law_is_list" "_law_is_list" (defArgs s_z_law_is_list) (defBody s_z_law_is_list) (defScope s_z_law_is_list) .none kV_z_law_is_list dc_z_law_is_list pm_z_law_is_list an_z_law_is_list cd_z_law_is_list ct_z_law_is_list), sl_z_law_is_list⟩)
    (c_z_law_is_list : PySem.W.codeIn K cd_z_law_is_list "_law_is_list" = true)
    (k_z_law_is_list : PySem.W.keepIn K (.ref f_z_law_is_list) = true)
    (a_demand_cell : PySem.W.nsIn K mainGlobals "demand_cell" = some (some (.ref f_demand_cell)))
    (l_demand_cell : K.lookup f_demand_cell = some ⟨oc_demand_cell, od_demand_cell, .func (PySem.W.fnOf "demand_cell" "demand_cell" (defArgs s_demand_cell) (defBody s_demand_cell) (defScope s_demand_cell) .none kV_demand_cell dc_demand_cell pm_demand_cell an_demand_cell cd_demand_cell ct_demand_cell), sl_demand_cell⟩)
    (c_demand_cell : PySem.W.codeIn K cd_demand_cell "demand_cell" = true)
    (k_demand_cell : PySem.W.keepIn K (.ref f_demand_cell) = true)
    (a_Read_init : PySem.W.findIn K (.ref C_Read) "__init__" = some (some (.ref f_Read_init)))
    (i_Read_init : PySem.W.isFn K (.ref f_Read_init) = true)
    (l_Read_init : K.lookup f_Read_init = some ⟨oc_Read_init, od_Read_init, .func (PySem.W.fnOf "__init__" "Read.__init__" (defArgs s_Read_init) (defBody s_Read_init) (defScope s_Read_init) .none kV_Read_init dc_Read_init pm_Read_init an_Read_init cd_Read_init ct_Read_init), sl_Read_init⟩)
    (c_Read_init : PySem.W.codeIn K cd_Read_init "Read.__init__" = true)
    (k_Read_init : PySem.W.keepIn K (.ref f_Read_init) = true)
    (a_fixed_cells : PySem.W.nsIn K mainGlobals "fixed_cells" = some (some (.ref f_fixed_cells)))
    (l_fixed_cells : K.lookup f_fixed_cells = some ⟨oc_fixed_cells, od_fixed_cells, .func (PySem.W.fnOf "fixed_cells" "fixed_cells" (defArgs s_fixed_cells) (defBody s_fixed_cells) (defScope s_fixed_cells) .none kV_fixed_cells dc_fixed_cells pm_fixed_cells an_fixed_cells cd_fixed_cells ct_fixed_cells), sl_fixed_cells⟩)
    (c_fixed_cells : PySem.W.codeIn K cd_fixed_cells "fixed_cells" = true)
    (k_fixed_cells : PySem.W.keepIn K (.ref f_fixed_cells) = true)
    (a_law : PySem.W.nsIn K mainGlobals "law" = some (some (.ref f_law)))
    (l_law : K.lookup f_law = some ⟨oc_law, od_law, .func (PySem.W.fnOf "law" "law" (defArgs s_law) (defBody s_law) (defScope s_law) .none kV_law dc_law pm_law an_law cd_law ct_law), sl_law⟩)
    (c_law : PySem.W.codeIn K cd_law "law" = true)
    (k_law : PySem.W.keepIn K (.ref f_law) = true)
    (z_all : PySem.W.nsIn K mainGlobals "all" = some none)
    (z_bool : PySem.W.nsIn K mainGlobals "bool" = some none)
    (z_int : PySem.W.nsIn K mainGlobals "int" = some none)
    (z_isinstance : PySem.W.nsIn K mainGlobals "isinstance" = some none)
    (z_len : PySem.W.nsIn K mainGlobals "len" = some none)
    (z_list : PySem.W.nsIn K mainGlobals "list" = some none)
    (z_max : PySem.W.nsIn K mainGlobals "max" = some none)
    (z_range : PySem.W.nsIn K mainGlobals "range" = some none)
    (z_tuple : PySem.W.nsIn K mainGlobals "tuple" = some none)
    (a_MOST_INTERVALS : PySem.W.nsIn K mainGlobals "MOST_INTERVALS" = some (some (.int (60000) t_MOST_INTERVALS)))
    (a_LONGEST : PySem.W.nsIn K mainGlobals "LONGEST" = some (some (.int (1000000) t_LONGEST)))
    (a_SHORTEST_CELL : PySem.W.nsIn K mainGlobals "SHORTEST_CELL" = some (some (.int (10) t_SHORTEST_CELL)))
    (a_LONGEST_CELL : PySem.W.nsIn K mainGlobals "LONGEST_CELL" = some (some (.int (1000) t_LONGEST_CELL)))
    (x_InvalidCell : PySem.W.excIn K C_InvalidCell [.type "ValueError", .type "Exception", .type "BaseException", .type "object"] "ValueError.__new__" = true)
    (k_InvalidCell : PySem.W.keepIn K (.ref C_InvalidCell) = true)
    (xb_InvalidCell : PySem.W.subIn K (.ref C_InvalidCell) (.type "BaseException") = some true)
    (xt_InvalidCell : PySem.W.typeIn K (.ref C_InvalidCell) = some (.type "type"))
    (xd_InvalidCell : PySem.W.hasDictIn K C_InvalidCell = true)
    (x_InvalidRead : PySem.W.excIn K C_InvalidRead [.type "ValueError", .type "Exception", .type "BaseException", .type "object"] "ValueError.__new__" = true)
    (k_InvalidRead : PySem.W.keepIn K (.ref C_InvalidRead) = true)
    (xb_InvalidRead : PySem.W.subIn K (.ref C_InvalidRead) (.type "BaseException") = some true)
    (xt_InvalidRead : PySem.W.typeIn K (.ref C_InvalidRead) = some (.type "type"))
    (xd_InvalidRead : PySem.W.hasDictIn K C_InvalidRead = true)
    (su_InvalidCell_InvalidCell : PySem.W.subIn K (.ref C_InvalidCell) (.ref C_InvalidCell) = some true)
    (su_InvalidRead_InvalidCell : PySem.W.subIn K (.ref C_InvalidRead) (.ref C_InvalidCell) = some false)
    (pg_Read : PySem.W.plainGet K C_Read Str.empty = true)
    (hd_Read : PySem.W.hasDictIn K C_Read = true)
    (po_Read : PySem.W.plainOver K C_Read = true)
    (sa_Read : PySem.W.findIn K (.ref C_Read) "__setattr__" = some (some (.builtin "object.__setattr__")))
    (mk_Read : PySem.W.makesIn K C_Read = true)
    (kc_Read : PySem.W.keepIn K (.ref C_Read) = true)
    (na_Read_intervals : PySem.W.findIn K (.ref C_Read) "intervals" = some none)
    (na_Read_rest : PySem.W.findIn K (.ref C_Read) "rest" = some none) :
    ∃ fd : FuncData, (∀ (s : Shared) (v : Value), BindsTo s fd ⟨[v], []⟩ [("_law_script", v)]) ∧ ∀ base : Heap, K.In base → base.Ns mainGlobals mg → FnOk l.prog w K mg base CX0 4 fa fd ["_law_script"] (sp_law K) := by
  have e := hfa.symm.trans (PySem.W.mg_of X G a_law)
  cases e
  have T : Txt K mg (Ad.mk f_z_law_draws (PySem.W.fnOf "_law_draws" "_law_draws" (defArgs s_z_law_draws) (defBody s_z_law_draws) (defScope s_z_law_draws) .none kV_z_law_draws dc_z_law_draws pm_z_law_draws an_z_law_draws cd_z_law_draws ct_z_law_draws) f_z_law_cell (PySem.W.fnOf "_law_cell" "_law_cell" (defArgs s_z_law_cell) (defBody s_z_law_cell) (defScope s_z_law_cell) .none kV_z_law_cell dc_z_law_cell pm_z_law_cell an_z_law_cell cd_z_law_cell ct_z_law_cell) f_z_law_is_int (PySem.W.fnOf "_law_is_int" "_law_is_int" (defArgs s_z_law_is_int) (defBody s_z_law_is_int) (defScope s_z_law_is_int) .none kV_z_law_is_int dc_z_law_is_int pm_z_law_is_int an_z_law_is_int cd_z_law_is_int ct_z_law_is_int) f_z_law_ints (PySem.W.fnOf "_law_ints" "_law_ints" (defArgs s_z_law_ints) (defBody s_z_law_ints) (defScope s_z_law_ints) .none kV_z_law_ints dc_z_law_ints pm_z_law_ints an_z_law_ints cd_z_law_ints ct_z_law_ints) f_z_law_is_list (PySem.W.fnOf "_law_is_list" "_law_is_list" (defArgs s_z_law_is_list) (defBody s_z_law_is_list) (defScope s_z_law_is_list) .none kV_z_law_is_list dc_z_law_is_list pm_z_law_is_list an_z_law_is_list cd_z_law_is_list ct_z_law_is_list) f_demand_cell (PySem.W.fnOf "demand_cell" "demand_cell" (defArgs s_demand_cell) (defBody s_demand_cell) (defScope s_demand_cell) .none kV_demand_cell dc_demand_cell pm_demand_cell an_demand_cell cd_demand_cell ct_demand_cell) f_Read_init (PySem.W.fnOf "__init__" "Read.__init__" (defArgs s_Read_init) (defBody s_Read_init) (defScope s_Read_init) .none kV_Read_init dc_Read_init pm_Read_init an_Read_init cd_Read_init ct_Read_init) f_fixed_cells (PySem.W.fnOf "fixed_cells" "fixed_cells" (defArgs s_fixed_cells) (defBody s_fixed_cells) (defScope s_fixed_cells) .none kV_fixed_cells dc_fixed_cells pm_fixed_cells an_fixed_cells cd_fixed_cells ct_fixed_cells) fa (PySem.W.fnOf "law" "law" (defArgs s_law) (defBody s_law) (defScope s_law) .none kV_law dc_law pm_law an_law cd_law ct_law) t_MOST_INTERVALS t_LONGEST t_SHORTEST_CELL t_LONGEST_CELL C_InvalidCell C_InvalidRead C_Read) := {
    F_z_law_draws := fun_mk (st := s_z_law_draws) l_z_law_draws c_z_law_draws k_z_law_draws,
    g_z_law_draws := PySem.W.mg_of X G a_z_law_draws,
    b_z_law_draws := (fun_mk (st := s_z_law_draws) l_z_law_draws c_z_law_draws k_z_law_draws).binds (ps := ["_law_cell_here", "_law_count"]) fun _ _ _ _ _ _ us hl => match us, hl with | [_, _], _ => rfl,
    F_z_law_cell := fun_mk (st := s_z_law_cell) l_z_law_cell c_z_law_cell k_z_law_cell,
    g_z_law_cell := PySem.W.mg_of X G a_z_law_cell,
    b_z_law_cell := (fun_mk (st := s_z_law_cell) l_z_law_cell c_z_law_cell k_z_law_cell).binds (ps := ["_law_script", "_law_k"]) fun _ _ _ _ _ _ us hl => match us, hl with | [_, _], _ => rfl,
    F_z_law_is_int := fun_mk (st := s_z_law_is_int) l_z_law_is_int c_z_law_is_int k_z_law_is_int,
    g_z_law_is_int := PySem.W.mg_of X G a_z_law_is_int,
    b_z_law_is_int := (fun_mk (st := s_z_law_is_int) l_z_law_is_int c_z_law_is_int k_z_law_is_int).binds (ps := ["_law_x"]) fun _ _ _ _ _ _ us hl => match us, hl with | [_], _ => rfl,
    F_z_law_ints := fun_mk (st := s_z_law_ints) l_z_law_ints c_z_law_ints k_z_law_ints,
    g_z_law_ints := PySem.W.mg_of X G a_z_law_ints,
    b_z_law_ints := (fun_mk (st := s_z_law_ints) l_z_law_ints c_z_law_ints k_z_law_ints).binds (ps := ["_law_x", "_law_kind"]) fun _ _ _ _ _ _ us hl => match us, hl with | [_, _], _ => rfl,
    F_z_law_is_list := fun_mk (st := s_z_law_is_list) l_z_law_is_list c_z_law_is_list k_z_law_is_list,
    g_z_law_is_list := PySem.W.mg_of X G a_z_law_is_list,
    b_z_law_is_list := (fun_mk (st := s_z_law_is_list) l_z_law_is_list c_z_law_is_list k_z_law_is_list).binds (ps := ["_law_x", "_law_due"]) fun _ _ _ _ _ _ us hl => match us, hl with | [_, _], _ => rfl,
    F_demand_cell := fun_mk (st := s_demand_cell) l_demand_cell c_demand_cell k_demand_cell,
    g_demand_cell := PySem.W.mg_of X G a_demand_cell,
    b_demand_cell := (fun_mk (st := s_demand_cell) l_demand_cell c_demand_cell k_demand_cell).binds (ps := ["cell"]) fun _ _ _ _ _ _ us hl => match us, hl with | [_], _ => rfl,
    F_Read_init := fun_mk (st := s_Read_init) l_Read_init c_Read_init k_Read_init,
    b_Read_init := (fun_mk (st := s_Read_init) l_Read_init c_Read_init k_Read_init).binds (ps := ["self", "intervals", "rest"]) fun _ _ _ _ _ _ us hl => match us, hl with | [_, _, _], _ => rfl,
    F_fixed_cells := fun_mk (st := s_fixed_cells) l_fixed_cells c_fixed_cells k_fixed_cells,
    g_fixed_cells := PySem.W.mg_of X G a_fixed_cells,
    b_fixed_cells := (fun_mk (st := s_fixed_cells) l_fixed_cells c_fixed_cells k_fixed_cells).binds (ps := ["read", "cell"]) fun _ _ _ _ _ _ us hl => match us, hl with | [_, _], _ => rfl,
    F_law := fun_mk (st := s_law) l_law c_law k_law,
    g_law := PySem.W.mg_of X G a_law,
    b_law := (fun_mk (st := s_law) l_law c_law k_law).binds (ps := ["_law_script"]) fun _ _ _ _ _ _ us hl => match us, hl with | [_], _ => rfl,
    n_all := PySem.W.mg_none_of X G z_all,
    n_bool := PySem.W.mg_none_of X G z_bool,
    n_int := PySem.W.mg_none_of X G z_int,
    n_isinstance := PySem.W.mg_none_of X G z_isinstance,
    n_len := PySem.W.mg_none_of X G z_len,
    n_list := PySem.W.mg_none_of X G z_list,
    n_max := PySem.W.mg_none_of X G z_max,
    n_range := PySem.W.mg_none_of X G z_range,
    n_tuple := PySem.W.mg_none_of X G z_tuple,
    g_MOST_INTERVALS := PySem.W.mg_of X G a_MOST_INTERVALS,
    g_LONGEST := PySem.W.mg_of X G a_LONGEST,
    g_SHORTEST_CELL := PySem.W.mg_of X G a_SHORTEST_CELL,
    g_LONGEST_CELL := PySem.W.mg_of X G a_LONGEST_CELL,
    g_InvalidCell := PySem.W.mg_of X G a_InvalidCell,
    x_InvalidCell := x_InvalidCell,
    k_InvalidCell := k_InvalidCell,
    xb_InvalidCell := xb_InvalidCell,
    xt_InvalidCell := xt_InvalidCell,
    xd_InvalidCell := xd_InvalidCell,
    g_InvalidRead := PySem.W.mg_of X G a_InvalidRead,
    x_InvalidRead := x_InvalidRead,
    k_InvalidRead := k_InvalidRead,
    xb_InvalidRead := xb_InvalidRead,
    xt_InvalidRead := xt_InvalidRead,
    xd_InvalidRead := xd_InvalidRead,
    exm_InvalidCell_InvalidCell := PySem.W.exm_ref xb_InvalidCell xd_InvalidCell xt_InvalidCell su_InvalidCell_InvalidCell,
    exm_InvalidRead_InvalidCell := PySem.W.exm_ref xb_InvalidCell xd_InvalidCell xt_InvalidCell su_InvalidRead_InvalidCell,
    c_Read := ⟨pg_Read, hd_Read, po_Read, sa_Read⟩,
    g_Read := PySem.W.mg_of X G a_Read,
    na_Read_intervals := na_Read_intervals,
    na_Read_rest := na_Read_rest,
    M_Read := ⟨mk_Read, a_Read_init, i_Read_init, kc_Read⟩ }
  exact ⟨_, fun s v => .of_eq rfl, fun base _ _ => ok_law T⟩
end Pf
open PySem PySem.W PyProof.Rows
set_option maxRecDepth 100000 in
set_option maxHeartbeats 0 in
theorem PySem.Challenge.cw_discwright_k06_fixed_clock_holds : PySem.Challenge.rw_discwright_k06_fixed_clock.Holds := by
  w_on; o_law; k_head; (case hw => w_witness2)
  k_fill
  refine L2.walk_of (l := PySem.Challenge.rw_discwright_k06_fixed_clock) (n := 63) (k := 4) (x := "_law_script") (CX := fun _ => L2.CX0) (sp := fun w => Pf.sp_law _) rfl (by decide) rfl ⟨rfl, by decide, by decide⟩ (fun w h Y => PySem.W.kIn_of Y) ?F (fun _ _ a ns hl _ hS => ⟨a, ns, rfl, hS, hl, fun _ => rfl⟩) (fun _ _ _ _ _ h => h)
  case F =>
    intro w mg fa h KX G hmg
    refine' Pf.all_mk KX G hmg ?a_InvalidCell ?a_InvalidRead ?a_Read ?a_z_law_draws ?l_z_law_draws ?c_z_law_draws ?k_z_law_draws ?a_z_law_cell ?l_z_law_cell ?c_z_law_cell ?k_z_law_cell ?a_z_law_is_int ?l_z_law_is_int ?c_z_law_is_int ?k_z_law_is_int ?a_z_law_ints ?l_z_law_ints ?c_z_law_ints ?k_z_law_ints ?a_z_law_is_list ?l_z_law_is_list ?c_z_law_is_list ?k_z_law_is_list ?a_demand_cell ?l_demand_cell ?c_demand_cell ?k_demand_cell ?a_Read_init ?i_Read_init ?l_Read_init ?c_Read_init ?k_Read_init ?a_fixed_cells ?l_fixed_cells ?c_fixed_cells ?k_fixed_cells ?a_law ?l_law ?c_law ?k_law ?z_all ?z_bool ?z_int ?z_isinstance ?z_len ?z_list ?z_max ?z_range ?z_tuple ?a_MOST_INTERVALS ?a_LONGEST ?a_SHORTEST_CELL ?a_LONGEST_CELL ?x_InvalidCell ?k_InvalidCell ?xb_InvalidCell ?xt_InvalidCell ?xd_InvalidCell ?x_InvalidRead ?k_InvalidRead ?xb_InvalidRead ?xt_InvalidRead ?xd_InvalidRead ?su_InvalidCell_InvalidCell ?su_InvalidRead_InvalidCell ?pg_Read ?hd_Read ?po_Read ?sa_Read ?mk_Read ?kc_Read ?na_Read_intervals ?na_Read_rest
    (case a_InvalidCell => k_is); (case a_InvalidRead => k_is); (case a_Read => k_is); (case a_z_law_draws => k_is); (case l_z_law_draws => k_is); (case c_z_law_draws => k_is); (case k_z_law_draws => k_is); (case a_z_law_cell => k_is); (case l_z_law_cell => k_is); (case c_z_law_cell => k_is); (case k_z_law_cell => k_is); (case a_z_law_is_int => k_is); (case l_z_law_is_int => k_is); (case c_z_law_is_int => k_is); (case k_z_law_is_int => k_is); (case a_z_law_ints => k_is); (case l_z_law_ints => k_is); (case c_z_law_ints => k_is); (case k_z_law_ints => k_is); (case a_z_law_is_list => k_is); (case l_z_law_is_list => k_is); (case c_z_law_is_list => k_is); (case k_z_law_is_list => k_is); (case a_demand_cell => k_is); (case l_demand_cell => k_is); (case c_demand_cell => k_is); (case k_demand_cell => k_is); (case a_Read_init => k_is); (case i_Read_init => k_is); (case l_Read_init => k_is); (case c_Read_init => k_is); (case k_Read_init => k_is); (case a_fixed_cells => k_is); (case l_fixed_cells => k_is); (case c_fixed_cells => k_is); (case k_fixed_cells => k_is); (case a_law => k_is); (case l_law => k_is); (case c_law => k_is); (case k_law => k_is); (case z_all => k_is); (case z_bool => k_is); (case z_int => k_is); (case z_isinstance => k_is); (case z_len => k_is); (case z_list => k_is); (case z_max => k_is); (case z_range => k_is); (case z_tuple => k_is); (case a_MOST_INTERVALS => k_is); (case a_LONGEST => k_is); (case a_SHORTEST_CELL => k_is); (case a_LONGEST_CELL => k_is); (case x_InvalidCell => k_exc); (case k_InvalidCell => k_is); (case xb_InvalidCell => k_is); (case xt_InvalidCell => k_is); (case xd_InvalidCell => k_is); (case x_InvalidRead => k_exc); (case k_InvalidRead => k_is); (case xb_InvalidRead => k_is); (case xt_InvalidRead => k_is); (case xd_InvalidRead => k_is); (case su_InvalidCell_InvalidCell => (first | rfl | k_is)); (case su_InvalidRead_InvalidCell => (first | rfl | k_is)); (case pg_Read => k_is); (case hd_Read => k_is); (case po_Read => k_is); (case sa_Read => k_is); (case mk_Read => k_is); (case kc_Read => k_is); (case na_Read_intervals => k_is); (case na_Read_rest => k_is)

