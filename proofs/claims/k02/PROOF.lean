import PyProof.Rows.All
import Wide.All
import OpenK.AllK
import Wide.FinOn
import HandS.ForMost
import HandS.ForExc
import HandS.IsInst
import PySem.Challenge.RW_discwright_k02_cyclic_checks
set_option Elab.async false
set_option linter.all false
set_option maxRecDepth 100000
set_option autoImplicit false
set_option maxHeartbeats 4000000
namespace Pf
open PySem PySem.Spec PyProof.Rows L2
/-! ### heaps -/
theorem same_new {H H' : Hp} {p : Addr} {o : HO} (s : Same H H') (h : H p = none) : Same H (upd H' p o) := fun b x e => by
  rw [upd_ne (ne_of_none e h)]
  exact s b x e
theorem same_upd {H : Hp} {p : Addr} {o : HO} (h : H p = none) : Same H (upd H p o) := same_new (Same.refl H) h
theorem same_nx {H H' : Hp} {p : Addr} {o : HO} (s : Same H H') (h : H' p = none) : Same H (upd H' p o) := same_new s (s.free h)
theorem at_new {H : Hp} {p q : Addr} {o x : HO} (h : H p = none) (e : H q = some x) : upd H p o q = some x := same_upd h q x e
theorem _root_.L2.Same.sqt {K : PySem.W.Frag} {H H' : Hp} {a : Addr} {xs : List V} (e : Same H H') (h : SqT K H a xs) : SqT K H' a xs := by
  rcases h with (h | ⟨o, h⟩) | h
  · exact .inl (.inl (e _ _ h))
  · exact .inl (.inr ⟨o, e _ _ h⟩)
  · exact .inr h
theorem line_of {n : Nat} (h : n ≤ 16777216) : n ≤ sizeLine := by rw [sizeLine_eq]; exact h
theorem line_lt {n : Nat} (h : n < 16777216) : n < sizeLine := by rw [sizeLine_eq]; exact h
theorem map_at {α β : Type} {f : α → β} {xs : List α} {i : Nat} {y : β} (h : (xs.map f)[i]? = some y) : ∃ x, xs[i]? = some x ∧ y = f x := by
  rw [List.getElem?_map] at h
  cases e : xs[i]? with
  | none => rw [e] at h; cases h
  | some x => rw [e] at h; exact ⟨x, rfl, (Option.some.inj h).symm⟩
theorem take_more {α : Type} {l : List α} {i : Nat} {x : α} (h : l[i]? = some x) : l.take (i + 1) = l.take i ++ [x] := by
  rw [List.take_add_one, h]; rfl
theorem cut_at {α : Type} {l : List α} {i : Nat} {x : α} (h : l[i]? = some x) : l = l.take i ++ x :: l.drop (i + 1) := by
  obtain ⟨hi, e⟩ := List.getElem?_eq_some_iff.mp h
  rw [← e, ← List.drop_eq_getElem_cons hi, List.take_append_drop]
/-! ### tests -/
theorem iteD {p A B : Prop} [Decidable p] (h1 : p → A) (h2 : ¬ p → B) : if decide p = true then A else B := by
  by_cases h : p
  · rw [if_pos (decide_eq_true h)]; exact h1 h
  · rw [if_neg (by simp [h])]; exact h2 h
theorem iteDn {p A B : Prop} [Decidable p] (h1 : ¬ p → A) (h2 : p → B) : if (!decide p) = true then A else B := by
  by_cases h : p
  · rw [if_neg (by simp [h])]; exact h2 h
  · rw [if_pos (by simp [h])]; exact h1 h
theorem iteI {a b : Int} {A B : Prop} (h1 : a = b → A) (h2 : a ≠ b → B) : if decide (V.int a = V.int b) = true then A else B :=
  iteD (fun e => h1 (V.int.inj e)) (fun e => h2 fun z => e (congrArg V.int z))
theorem iteIn {a b : Int} {A B : Prop} (h1 : a ≠ b → A) (h2 : a = b → B) : if (!decide (V.int a = V.int b)) = true then A else B :=
  iteDn (fun e => h1 fun z => e (congrArg V.int z)) (fun e => h2 (V.int.inj e))
/-! ### loops over a list by what has been taken -/
theorem for_pre {α : Type} {K : PySem.W.Frag} {a : Addr} {ns : List α} {emb : α → V} {g : TG} {tb : TS} {D : Ends} {σ : L2.St} {H : Hp} (S : List α → L2.St → Hp → Prop) (h0 : S [] σ H) (hl : ∀ pre σ H, S pre σ H → SqL K H a (ns.map emb))
    (hs : ∀ pre n post σ H, ns = pre ++ n :: post → S pre σ H → g (emb n) σ H fun σ2 H2 => tb { D with nx := S (pre ++ [n]), ct := S (pre ++ [n]), bk := D.nx } σ2 H2) (hd : ∀ σ H, S ns σ H → D.nx σ H) :
    ∃ W : Nat → Nat → L2.St → Hp → Prop, (∃ m, W 0 m σ H) ∧ ∀ i m σ H, W i m σ H →
      ((Itl K a).stop i H ∧ D.nx σ H) ∨ ((Itl K a).go i H ∧ ∃ N : L2.St → Hp → Prop, (∀ σ' H', N σ' H' → ∃ m', m' < m ∧ W (i + 1) m' σ' H') ∧ ∀ x H', (Itl K a).yld i H x H' → g x σ H' fun σ2 H2 => tb { D with nx := N, ct := N, bk := D.nx } σ2 H2) := by
  refine for_list (K := K) (a := a) (xs := ns.map emb) (fun i => S (ns.take i)) (by rw [List.take_zero]; exact h0) (fun i σ H _ h => hl _ σ H h) (fun i x σ H hi h => ?_) (fun σ H h => hd σ H ?_)
  · obtain ⟨n, hn, rfl⟩ := map_at hi
    have := hs (ns.take i) n (ns.drop (i + 1)) σ H (cut_at hn) h
    rw [← take_more hn] at this
    exact this
  · rw [List.length_map, List.take_length] at h; exact h
theorem for_preT {α : Type} {K : PySem.W.Frag} {a : Addr} {ns : List α} {emb : α → V} {g : TG} {tb : TS} {D : Ends} {σ : L2.St} {H : Hp} (S : List α → L2.St → Hp → Prop) (h0 : S [] σ H) (hl : ∀ pre σ H, S pre σ H → SqT K H a (ns.map emb))
    (hs : ∀ pre n post σ H, ns = pre ++ n :: post → S pre σ H → g (emb n) σ H fun σ2 H2 => tb { D with nx := S (pre ++ [n]), ct := S (pre ++ [n]), bk := D.nx } σ2 H2) (hd : ∀ σ H, S ns σ H → D.nx σ H) :
    ∃ W : Nat → Nat → L2.St → Hp → Prop, (∃ m, W 0 m σ H) ∧ ∀ i m σ H, W i m σ H →
      ((Itt K a).stop i H ∧ D.nx σ H) ∨ ((Itt K a).go i H ∧ ∃ N : L2.St → Hp → Prop, (∀ σ' H', N σ' H' → ∃ m', m' < m ∧ W (i + 1) m' σ' H') ∧ ∀ x H', (Itt K a).yld i H x H' → g x σ H' fun σ2 H2 => tb { D with nx := N, ct := N, bk := D.nx } σ2 H2) := by
  refine for_tup (K := K) (a := a) (xs := ns.map emb) (fun i => S (ns.take i)) (by rw [List.take_zero]; exact h0) (fun i σ H _ h => hl _ σ H h) (fun i x σ H hi h => ?_) (fun σ H h => hd σ H ?_)
  · obtain ⟨n, hn, rfl⟩ := map_at hi
    have := hs (ns.take i) n (ns.drop (i + 1)) σ H (cut_at hn) h
    rw [← take_more hn] at this
    exact this
  · rw [List.length_map, List.take_length] at h; exact h
/-! ### comprehensions: what is made so far, by what has been taken -/
section
variable {α : Type} {K : PySem.W.Frag} {a : Addr} {ns : List α} {emb : α → V} {g : TG} {tt : TT} {te : TE} {vs : List Nat} {σ : L2.St} {H1 : Hp} {D : Addr} {Qd : Hp → Prop}
/-- all but what stands at D is kept -/
def But (D : Addr) (H H' : Hp) : Prop := ∀ b o, b ≠ D → H b = some o → H' b = some o
theorem But.upd {D : Addr} {H : Hp} {o : HO} : But D H (upd H D o) := fun b _ hb e => by rw [upd_ne hb]; exact e
theorem _root_.L2.Same.but {D : Addr} {H H' H'' : Hp} (s : Same H H') (hD : H D = none) (b : But D H' H'') : Same H H'' := fun c o e => b c o (ne_of_none e hD) (s c o e)
def LcS (S : List α → List V → Hp → Prop) (D : Addr) (pre : List α) (H : Hp) : Prop := ∃ acc, S pre acc H ∧ H D = some (.lst acc) ∧ acc.length ≤ pre.length
theorem LcS.step {S : List α → List V → Hp → Prop} {pre : List α} {n : α} {acc : List V} {y : V} {H4 : Hp} (hz : pre.length < 16777216) (hm : ∀ pre acc H H', S pre acc H → But D H H' → S pre acc H') (ha : acc.length ≤ pre.length)
    (e : H4 D = some (.lst acc)) (s4 : S (pre ++ [n]) (acc ++ [y]) H4) : ∃ acc, H4 D = some (.lst acc) ∧ acc.length < sizeLine ∧ LcS S D (pre ++ [n]) (upd H4 D (.lst (acc ++ [y]))) :=
  ⟨acc, e, line_lt (by omega), acc ++ [y], hm _ _ _ _ s4 But.upd, upd_same, by simp [List.length_append]; exact ha⟩
theorem LcS.skip {S : List α → List V → Hp → Prop} {pre : List α} {n : α} {acc : List V} {H4 : Hp} (ha : acc.length ≤ pre.length) (e : H4 D = some (.lst acc)) (s4 : S (pre ++ [n]) acc H4) : LcS S D (pre ++ [n]) H4 :=
  ⟨acc, s4, e, by simp [List.length_append]; omega⟩
/-- what a turn is to show -/
def LcTurn (S : List α → List V → Hp → Prop) (D : Addr) (emb : α → V) (ns : List α) (g : TG) (tt : TT) (te : TE) (vs : List Nat) (σ : L2.St) : Prop :=
  ∀ pre n post acc H (Qy : V → Hp → Prop) (Qn : Hp → Prop), ns = pre ++ n :: post → S pre acc H → H D = some (.lst acc) →
    (∀ y H4, H4 D = some (.lst acc) → S (pre ++ [n]) (acc ++ [y]) H4 → Qy y H4) → (∀ H3, H3 D = some (.lst acc) → S (pre ++ [n]) acc H3 → Qn H3) →
    g (emb n) (wipe σ vs) H fun σ2 H2 => wipe σ2 vs = wipe σ vs ∧ tt σ2 H2 fun b H3 => if b = true then te σ2 H3 Qy else Qn H3
theorem lc_pre (S : List α → List V → Hp → Prop) (hz : ns.length < 16777216) (h0 : S [] [] (upd H1 D (.lst []))) (hl : ∀ pre acc H, S pre acc H → SqL K H a (ns.map emb))
    (hm : ∀ pre acc H H', S pre acc H → But D H H' → S pre acc H') (hs : LcTurn S D emb ns g tt te vs σ) (hd : ∀ acc H, S ns acc H → H D = some (.lst acc) → Qd H) :
    ∃ W : Nat → Nat → Hp → Prop, (∃ m, W 0 m (upd H1 D (.lst []))) ∧ ∀ i m H, W i m H →
      ((Itl K a).stop i H ∧ Qd H) ∨ ((Itl K a).go i H ∧ ∃ Nx : Hp → Prop, (∀ H', Nx H' → ∃ m', m' < m ∧ W (i + 1) m' H') ∧ ∀ x H', (Itl K a).yld i H x H' → g x (wipe σ vs) H' fun σ2 H2 => wipe σ2 vs = wipe σ vs ∧ tt σ2 H2 fun b H3 =>
        if b = true then te σ2 H3 fun y H4 => ∃ acc, H4 D = some (.lst acc) ∧ acc.length < sizeLine ∧ Nx (upd H4 D (.lst (acc ++ [y]))) else Nx H3) := by
  refine lc_list (K := K) (a := a) (xs := ns.map emb) (fun i => LcS S D (ns.take i)) ⟨[], by rw [List.take_zero]; exact h0, upd_same, Nat.zero_le _⟩ (fun i H _ ⟨acc, h, _, _⟩ => hl _ _ H h) (fun i x H hi h => ?_) (fun H h => ?_)
  · obtain ⟨n, hn, rfl⟩ := map_at hi
    obtain ⟨acc, h1, h2, h3⟩ := h
    have hlt : (ns.take i).length < 16777216 := Nat.lt_of_le_of_lt (by rw [List.length_take]; exact Nat.min_le_right _ _) hz
    rw [take_more hn]
    exact hs (ns.take i) n (ns.drop (i + 1)) acc H _ _ (cut_at hn) h1 h2 (fun y H4 e s4 => LcS.step hlt hm h3 e s4) fun H3 e s3 => LcS.skip h3 e s3
  · rw [List.length_map, List.take_length] at h
    obtain ⟨acc, h1, h2, _⟩ := h
    exact hd acc H h1 h2
theorem lc_preT (S : List α → List V → Hp → Prop) (hz : ns.length < 16777216) (h0 : S [] [] (upd H1 D (.lst []))) (hl : ∀ pre acc H, S pre acc H → SqT K H a (ns.map emb))
    (hm : ∀ pre acc H H', S pre acc H → But D H H' → S pre acc H') (hs : LcTurn S D emb ns g tt te vs σ) (hd : ∀ acc H, S ns acc H → H D = some (.lst acc) → Qd H) :
    ∃ W : Nat → Nat → Hp → Prop, (∃ m, W 0 m (upd H1 D (.lst []))) ∧ ∀ i m H, W i m H →
      ((Itt K a).stop i H ∧ Qd H) ∨ ((Itt K a).go i H ∧ ∃ Nx : Hp → Prop, (∀ H', Nx H' → ∃ m', m' < m ∧ W (i + 1) m' H') ∧ ∀ x H', (Itt K a).yld i H x H' → g x (wipe σ vs) H' fun σ2 H2 => wipe σ2 vs = wipe σ vs ∧ tt σ2 H2 fun b H3 =>
        if b = true then te σ2 H3 fun y H4 => ∃ acc, H4 D = some (.lst acc) ∧ acc.length < sizeLine ∧ Nx (upd H4 D (.lst (acc ++ [y]))) else Nx H3) := by
  refine lc_tup (K := K) (a := a) (xs := ns.map emb) (fun i => LcS S D (ns.take i)) ⟨[], by rw [List.take_zero]; exact h0, upd_same, Nat.zero_le _⟩ (fun i H _ ⟨acc, h, _, _⟩ => hl _ _ H h) (fun i x H hi h => ?_) (fun H h => ?_)
  · obtain ⟨n, hn, rfl⟩ := map_at hi
    obtain ⟨acc, h1, h2, h3⟩ := h
    have hlt : (ns.take i).length < 16777216 := Nat.lt_of_le_of_lt (by rw [List.length_take]; exact Nat.min_le_right _ _) hz
    rw [take_more hn]
    exact hs (ns.take i) n (ns.drop (i + 1)) acc H _ _ (cut_at hn) h1 h2 (fun y H4 e s4 => LcS.step hlt hm h3 e s4) fun H3 e s3 => LcS.skip h3 e s3
  · rw [List.length_map, List.take_length] at h
    obtain ⟨acc, h1, h2, _⟩ := h
    exact hd acc H h1 h2
/-- by a function of the item, kept as a test says; what was tracked stands -/
def LcFun (f : α → V) (p : α → Bool) (ns : List α) (H1 : Hp) (emb : α → V) (g : TG) (tt : TT) (te : TE) (vs : List Nat) (σ : L2.St) : Prop :=
  ∀ n H (Qy : V → Hp → Prop) (Qn : Hp → Prop), n ∈ ns → Same H1 H → (p n = true → ∀ H4, Same H H4 → Qy (f n) H4) → (p n = false → ∀ H3, Same H H3 → Qn H3) →
    g (emb n) (wipe σ vs) H fun σ2 H2 => wipe σ2 vs = wipe σ vs ∧ tt σ2 H2 fun b H3 => if b = true then te σ2 H3 Qy else Qn H3
theorem LcFun.turn {f : α → V} {p : α → Bool} (hD : H1 D = none) (h : LcFun f p ns H1 emb g tt te vs σ) : LcTurn (fun pre acc H => Same H1 H ∧ acc = (pre.filter p).map f) D emb ns g tt te vs σ := by
  rintro pre n post acc H Qy Qn e ⟨s, rfl⟩ hl hy hn
  refine h n H Qy Qn (by rw [e]; simp) s (fun c H4 s4 => hy _ H4 (s4 _ _ hl) ⟨s.trans s4, ?_⟩) (fun c H3 s3 => hn H3 (s3 _ _ hl) ⟨s.trans s3, ?_⟩)
  · simp [List.filter_append, List.filter_cons, c]
  · simp [List.filter_append, List.filter_cons, c]
theorem lc_fun (f : α → V) (p : α → Bool) (hD : H1 D = none) (hz : ns.length < 16777216) (hl : SqL K H1 a (ns.map emb)) (hs : LcFun f p ns H1 emb g tt te vs σ) (hd : ∀ H, Same H1 H → H D = some (.lst ((ns.filter p).map f)) → Qd H) :
    ∃ W : Nat → Nat → Hp → Prop, (∃ m, W 0 m (upd H1 D (.lst []))) ∧ ∀ i m H, W i m H →
      ((Itl K a).stop i H ∧ Qd H) ∨ ((Itl K a).go i H ∧ ∃ Nx : Hp → Prop, (∀ H', Nx H' → ∃ m', m' < m ∧ W (i + 1) m' H') ∧ ∀ x H', (Itl K a).yld i H x H' → g x (wipe σ vs) H' fun σ2 H2 => wipe σ2 vs = wipe σ vs ∧ tt σ2 H2 fun b H3 =>
        if b = true then te σ2 H3 fun y H4 => ∃ acc, H4 D = some (.lst acc) ∧ acc.length < sizeLine ∧ Nx (upd H4 D (.lst (acc ++ [y]))) else Nx H3) :=
  lc_pre (fun pre acc H => Same H1 H ∧ acc = (pre.filter p).map f) hz ⟨same_upd hD, rfl⟩ (fun _ _ _ h => h.1.seq hl) (fun _ _ _ _ h b => ⟨h.1.but hD b, h.2⟩) (hs.turn hD) fun acc H h e => hd H h.1 (by rw [e, h.2])
theorem lc_funT (f : α → V) (p : α → Bool) (hD : H1 D = none) (hz : ns.length < 16777216) (hl : SqT K H1 a (ns.map emb)) (hs : LcFun f p ns H1 emb g tt te vs σ) (hd : ∀ H, Same H1 H → H D = some (.lst ((ns.filter p).map f)) → Qd H) :
    ∃ W : Nat → Nat → Hp → Prop, (∃ m, W 0 m (upd H1 D (.lst []))) ∧ ∀ i m H, W i m H →
      ((Itt K a).stop i H ∧ Qd H) ∨ ((Itt K a).go i H ∧ ∃ Nx : Hp → Prop, (∀ H', Nx H' → ∃ m', m' < m ∧ W (i + 1) m' H') ∧ ∀ x H', (Itt K a).yld i H x H' → g x (wipe σ vs) H' fun σ2 H2 => wipe σ2 vs = wipe σ vs ∧ tt σ2 H2 fun b H3 =>
        if b = true then te σ2 H3 fun y H4 => ∃ acc, H4 D = some (.lst acc) ∧ acc.length < sizeLine ∧ Nx (upd H4 D (.lst (acc ++ [y]))) else Nx H3) :=
  lc_preT (fun pre acc H => Same H1 H ∧ acc = (pre.filter p).map f) hz ⟨same_upd hD, rfl⟩ (fun _ _ _ h => h.1.sqt hl) (fun _ _ _ _ h b => ⟨h.1.but hD b, h.2⟩) (hs.turn hD) fun acc H h e => hd H h.1 (by rw [e, h.2])
end
/-! over a range: the turns are 0 .. n - 1 -/
section
variable {lo : Int} {n : Nat} {g : TG} {tt : TT} {te : TE} {vs : List Nat} {σ : L2.St} {H1 : Hp} {D : Addr} {Qd : Hp → Prop}
theorem lc_preR (S : Nat → List V → Hp → Prop) (hz : n < 16777216) (h0 : S 0 [] (upd H1 D (.lst []))) (hm : ∀ i acc H H', S i acc H → But D H H' → S i acc H')
    (hs : ∀ i acc H (Qy : V → Hp → Prop) (Qn : Hp → Prop), i < n → S i acc H → H D = some (.lst acc) → (∀ y H4, H4 D = some (.lst acc) → S (i + 1) (acc ++ [y]) H4 → Qy y H4) → (∀ H3, H3 D = some (.lst acc) → S (i + 1) acc H3 → Qn H3) →
      g (.int (lo + i)) (wipe σ vs) H fun σ2 H2 => wipe σ2 vs = wipe σ vs ∧ tt σ2 H2 fun b H3 => if b = true then te σ2 H3 Qy else Qn H3)
    (hd : ∀ acc H, S n acc H → H D = some (.lst acc) → Qd H) :
    ∃ W : Nat → Nat → Hp → Prop, (∃ m, W 0 m (upd H1 D (.lst []))) ∧ ∀ i m H, W i m H →
      ((Itr lo n).stop i H ∧ Qd H) ∨ ((Itr lo n).go i H ∧ ∃ Nx : Hp → Prop, (∀ H', Nx H' → ∃ m', m' < m ∧ W (i + 1) m' H') ∧ ∀ x H', (Itr lo n).yld i H x H' → g x (wipe σ vs) H' fun σ2 H2 => wipe σ2 vs = wipe σ vs ∧ tt σ2 H2 fun b H3 =>
        if b = true then te σ2 H3 fun y H4 => ∃ acc, H4 D = some (.lst acc) ∧ acc.length < sizeLine ∧ Nx (upd H4 D (.lst (acc ++ [y]))) else Nx H3) := by
  refine lc_range (lo := lo) (n := n) (fun i H => ∃ acc, S i acc H ∧ H D = some (.lst acc) ∧ acc.length ≤ i) ⟨[], h0, upd_same, Nat.le_refl _⟩ (fun i H hi h => ?_) (fun H h => ?_)
  · obtain ⟨acc, h1, h2, h3⟩ := h
    exact hs i acc H _ _ hi h1 h2 (fun y H4 e s4 => ⟨acc, e, line_lt (by omega), acc ++ [y], hm _ _ _ _ s4 But.upd, upd_same, by simp [List.length_append]; exact h3⟩) fun H3 e s3 => ⟨acc, s3, e, by omega⟩
  · obtain ⟨acc, h1, h2, _⟩ := h
    exact hd acc H h1 h2
end
/-! ### a statement's end by a word of one's own -/
def tCut (t u : TS) : TS := fun D σ H => ∃ R : L2.St → Hp → Prop, t { D with nx := R } σ H ∧ ∀ σ' H', R σ' H' → u D σ' H'
theorem pss_cut {X : Cx} {st : Stmt} {rest : List Stmt} {t u : TS} (h1 : PS X st t) (h2 : PSs X rest u) : PSs X (st :: rest) (tCut t u) := by
  refine ⟨fun pins s σ H D I ⟨R, h, hr⟩ => ?_⟩
  refine wpAny_execs_cons (thn (h1.run pins s σ H { D with nx := R } I h) fun f s1 q => ?_)
  cases f with
  | next =>
    obtain ⟨σ', H', I', q⟩ := q
    exact h2.run pins s1 σ' H' D I' (hr _ _ q)
  | ret v => exact q
  | brk => exact q
  | cont => exact q
/-! ### reading, step by step -/
local macro_rules | `(tactic| walk_at "side") => `(tactic| first
  | rfl
  | exact ⟨by decide, by decide⟩
  | exact .inr ⟨by decide, by decide⟩
  | exact .inl ⟨by decide, by decide⟩
  | exact (by decide : (0 : Int) < _)
  | exact line_of (by simp)
  | assumption
  | omega
  | (unfold CPow; omega)
  | (unfold CDiv; omega)
  | (unfold CMul; omega)
  | (constructor <;> omega))
local macro_rules | `(tactic| walk_at "ne") => `(tactic| first | assumption | exact Ne.symm (by assumption) | exact ne_of_none (by assumption) (by assumption) | exact (ne_of_none (by assumption) (by assumption)).symm | exact ne_of (by assumption) (by assumption) (by intro z; cases z))
local macro_rules | `(tactic| walk_at "hp0") => `(tactic| first | assumption | exact upd_same)
local macro_rules | `(tactic| walk_at "hp1") => `(tactic| first | assumption | exact upd_same | (with_reducible refine Eq.trans (upd_ne ?_) ?_; (focus walk_at "ne"); walk_at "hp0"))
local macro_rules | `(tactic| walk_at "hp2") => `(tactic| first | assumption | exact upd_same | (with_reducible refine Eq.trans (upd_ne ?_) ?_; (focus walk_at "ne"); walk_at "hp1"))
local macro_rules | `(tactic| walk_at "hp") => `(tactic| first | assumption | exact upd_same | (with_reducible refine Eq.trans (upd_ne ?_) ?_; (focus walk_at "ne"); walk_at "hp2"))
local macro_rules | `(tactic| walk_at "sq") => `(tactic| first | assumption | exact SqL.of (by walk_at "hp") | exact SqT.of (by walk_at "hp") | exact Same.seq (by assumption) (by assumption) | exact L2.Same.sqt (by assumption) (by assumption))
local macro_rules | `(tactic| walk_at "rd1") => `(tactic| first
  | refine ⟨_, rfl, ?_⟩
  | refine ⟨_, _, rfl, rfl, ?_⟩
  | refine ⟨_, _, _, _, rfl, rfl, (by walk_at "sq"), by rfl, ?_⟩
  | refine ⟨_, _, _, _, rfl, rfl, (by walk_at "hp"), by rfl, ?_⟩
  | refine ⟨_, _, rfl, .inl (by walk_at "sq"), ?_⟩
  | refine ⟨_, _, rfl, .inr (by walk_at "sq"), ?_⟩
  | refine .inl ⟨_, rfl, ?_⟩
  | refine And.intro rfl ?_
  | refine And.intro (by walk_at "side") ?_
  | (show if true = true then _ else _; refine iteT ?_)
  | (show if false = true then _ else _; refine iteF ?_))
local macro_rules | `(tactic| walk_at "rd") => `(tactic| repeat (walk_at "rd1"))
/-! ### own data: a value's type -/
theorem but_trans {D : Addr} {H H' H'' : Hp} (a : But D H H') (b : But D H' H'') : But D H H'' := fun c o n e => b c o n (a c o n e)
theorem but_refl {D : Addr} {H : Hp} : But D H H := fun _ _ _ e => e
theorem but_new {D p : Addr} {o : HO} {H H' : Hp} (a : But D H H') (h : H' p = none) : But D H (upd H' p o) := fun c x n e => by
  rw [upd_ne (ne_of_none (a c x n e) h)]; exact a c x n e
/-! ### the rules with the written part K named (a comprehension's reading must not speak of its own block) -/
section
variable {X : Cx} (K : PySem.W.Frag) (eK : X.K = K := by rfl) {e a b o value : Expr} {es : List Expr} {f : Str} {pos pos' tpos apos cpos : Pos} {ta tb tv te tl to : TE} {t : TA} {tg : Expr} {op : Operator}
include eK
theorem ix_listK : IxR X (rIxL K) := by subst eK; exact ix_list
theorem ix_tupK : IxR X (rIxT K) := by subst eK; exact ix_tup
theorem ix_seqK : IxR X (rIx K) := by subst eK; exact ix_seq
theorem sl_listK : SlR X (rSlL K) := by subst eK; exact sl_list
theorem sl_tupK : SlR X (rSlT K) := by subst eK; exact sl_tup
theorem op_inK : OpR X (compareOp .In) (rIn K false) := by subst eK; exact op_in_seq
theorem op_notInK : OpR X (compareOp .NotIn) (rIn K true) := by subst eK; exact op_notIn_seq
theorem op_eqDK (hu : X.A.units + 64 < cLine) : OpR X (compareOp .Eq) (rEqD K) := by subst eK; exact op_eqD hu
theorem op_neDK (hu : X.A.units + 64 < cLine) : OpR X (compareOp .NotEq) (rNeD K) := by subst eK; exact op_neD hu
theorem op_catTK : OpR X (binaryOp .Add) (rCatT K) := by subst eK; exact op_catT
def rLenS (K : PySem.W.Frag) : List V → Hp → VK → Prop := fun xs H Q => ∃ p ys, xs = [.ref p] ∧ (SqL K H p ys ∨ SqT K H p ys) ∧ Q (.int ys.length) H
def rListOf (K : PySem.W.Frag) : List V → Hp → VK → Prop := fun xs H Q => ∃ p ys, xs = [.ref p] ∧ (SqL K H p ys ∨ SqT K H p ys) ∧ ∀ l, H l = none → Q (.ref l) (upd H l (.lst ys))
def rTupOf (K : PySem.W.Frag) : List V → Hp → VK → Prop := fun xs H Q => ∃ p ys, xs = [.ref p] ∧ ((SqL K H p ys ∧ ∀ l, H l = none → Q (.ref l) (upd H l (.tup ys))) ∨ (SqT K H p ys ∧ Q (.ref p) H))
theorem call_lenK : CallR X (.builtin "len") (rLenS K) := by subst eK; exact call_len_seq
theorem call_listK : CallR X (.type "list") (rListOf K) := by subst eK; exact call_list_of
theorem call_tupleK : CallR X (.type "tuple") (rTupOf K) := by subst eK; exact call_tuple_of
theorem cr_sumK (hc : X.calm = true) : CallR X (.builtin "sum") (rSum K) := by subst eK; exact cr_sum hc
theorem cr_maxK (hc : X.calm = true) : CallR X (.builtin "max") (rMax K) := by subst eK; exact cr_max hc
theorem cr_minK (hc : X.calm = true) : CallR X (.builtin "min") (rMin K) := by subst eK; exact cr_min hc
theorem cr_anyK (hc : X.calm = true) : CallR X (.builtin "any") (rAny K) := by subst eK; exact cr_any hc
theorem cr_allK (hc : X.calm = true) : CallR X (.builtin "all") (rAll K) := by subst eK; exact cr_all hc
theorem pi_listK (hl : PE X e tl) : PI X tg e (iList K tl) := by subst eK; exact pi_list hl
theorem pi_tupK (hl : PE X e tl) : PI X tg e (iTup K tl) := by subst eK; exact pi_tup hl
theorem pe_fldK (he : PE X e ta) (hb : attributeBase e f X.env (eval e X.env) = eval e X.env) : PE X (.Attribute e f pos) (tFld K ta f) := by subst eK; exact pe_fld he hb
def tTruth (K : PySem.W.Frag) (ta : TE) : TT := fun σ H Q => ta σ H fun x H' => ∃ k, TruV K x H' k ∧ Q k H'
theorem pt_truthK (ha : PE X a ta) (he : ∀ whole, isTrue a X.env whole = (do let v ← whole; standAt a.pos; holding [v] (truthy v))) : PT X a (tTruth K ta) := by subst eK; exact pt_truth ha he
theorem ps_fldK (ha : PE X o ta) (hv : PE X value tv) (hs : swapsWith value (some (.Attribute o f pos')) pos.line X.env = pure false) : PS X (.Assign [.Attribute o f pos'] value pos) (sFld K ta tv f) := by subst eK; exact ps_fld ha hv hs
end
theorem pe_bmK {X : Cx} (K : PySem.W.Frag) {T id : String} {name : Str} {r : V → List V → Hp → VK → Prop} {o e : Expr} {es : List Expr} {apos cpos : Pos} {to : TE} {t : TA} (pa : PlainAttrs T) (slot : Slot T name id) (hty : typeOf (.builtin id) = pure (.type "method_descriptor")) (hm : MtR X id r) (ho : PE X o to) (ha : PA X (e :: es) t) (eK : X.K = K := by rfl)
    (hbase : attributeBase o name X.env (eval o X.env) = eval o X.env := by rfl)
    (hfew : ((backTo cpos (starEach (e :: es) X.env)).all (fun x => !x.1) && (backToKw cpos (keywordEach [] X.env)).all (fun x => x.1.isSome)
      && decide ((e :: es).length + ([] : List Keyword).length + (if ([] : List Keyword).isEmpty then 0 else 1) < 30)) = true := by rfl)
    (hline : (apos.endLine == cpos.line) = true := by rfl) (hs : starEach (e :: es) X.env = (false, eval e X.env) :: starEach es X.env := by rfl) (hplain : (backTo cpos (starEach es X.env)).any (·.1) = false := by rfl) :
    PE X (.Call (.Attribute o name apos) (e :: es) [] cpos) (tBM K T r to t) := by subst eK; exact pe_bm pa slot hty hm ho ha hbase hfew hline hs hplain
theorem pe_bm0K {X : Cx} (K : PySem.W.Frag) {T id : String} {name : Str} {r : V → List V → Hp → VK → Prop} {o : Expr} {apos cpos : Pos} {to : TE} (pa : PlainAttrs T) (slot : Slot T name id) (hty : typeOf (.builtin id) = pure (.type "method_descriptor")) (hm : MtR X id r) (ho : PE X o to) (eK : X.K = K := by rfl)
    (hbase : attributeBase o name X.env (eval o X.env) = eval o X.env := by rfl) (hline : (apos.endLine == cpos.line) = true := by rfl) : PE X (.Call (.Attribute o name apos) [] [] cpos) (tBM0 K T r to) := by subst eK; exact pe_bm0 pa slot hty hm ho hbase hline
/-! ### == of lists and tuples of ints -/
theorem dpA_ints {K : PySem.W.Frag} {H : Hp} : ∀ ns : List Int, DpAll K H (ns.map V.int) (ns.map PyData.int)
  | [] => .nil
  | n :: ns => .cons (.int n) (dpA_ints ns)
theorem canA_ints : ∀ ns : List Int, PyData.canLayAll0 (ns.map PyData.int) = true
  | [] => rfl
  | n :: ns => by show (true && PyData.canLayAll0 (ns.map PyData.int)) = true; rw [canA_ints ns]; rfl
theorem depA_ints : ∀ ns : List Int, PyData.depthAll (ns.map PyData.int) = 0
  | [] => rfl
  | n :: ns => by show max 0 (PyData.depthAll (ns.map PyData.int)) = 0; rw [depA_ints ns]; rfl
theorem shaped_li (ns : List Int) : SeqAt.shaped (.list (ns.map PyData.int)) = true := by
  show (PyData.canLayAll0 (ns.map PyData.int) && decide (PyData.depthAll (ns.map PyData.int) + 1 ≤ 64)) = true
  rw [canA_ints, depA_ints]; rfl
theorem shaped_ti (ns : List Int) : SeqAt.shaped (.tuple (ns.map PyData.int)) = true := by
  show (PyData.canLayAll0 (ns.map PyData.int) && decide (PyData.depthAll (ns.map PyData.int) + 1 ≤ 64)) = true
  rw [canA_ints, depA_ints]; rfl
theorem eqvA_ints : ∀ ns ms : List Int, PyData.eqvAll (ns.map PyData.int) (ms.map PyData.int) = decide (ns = ms)
  | [], [] => rfl
  | [], _ :: _ => rfl
  | _ :: _, [] => rfl
  | n :: ns, m :: ms => by
    show ((n == m) && PyData.eqvAll (ns.map PyData.int) (ms.map PyData.int)) = _
    rw [eqvA_ints ns ms]
    by_cases h : n = m <;> by_cases h2 : ns = ms <;> simp [h, h2]
section
variable {K : PySem.W.Frag} {H : Hp} {a b : Addr} {ns ms : List Int} {Q : VK}
theorem eqd_ll (h1 : SqL K H a (ns.map V.int)) (h2 : SqL K H b (ms.map V.int)) (q : Q (.bl (decide (ns = ms))) H) : rEqD K (.ref a) (.ref b) H Q :=
  ⟨_, _, .lst h1 (dpA_ints ns), .lst h2 (dpA_ints ms), shaped_li ns, shaped_li ms, by rw [show PyData.eqv (.list (ns.map PyData.int)) (.list (ms.map PyData.int)) = _ from eqvA_ints ns ms]; exact q⟩
theorem ned_ll (h1 : SqL K H a (ns.map V.int)) (h2 : SqL K H b (ms.map V.int)) (q : Q (.bl (!decide (ns = ms))) H) : rNeD K (.ref a) (.ref b) H Q :=
  ⟨_, _, .lst h1 (dpA_ints ns), .lst h2 (dpA_ints ms), shaped_li ns, shaped_li ms, by rw [show PyData.eqv (.list (ns.map PyData.int)) (.list (ms.map PyData.int)) = _ from eqvA_ints ns ms]; exact q⟩
theorem eqd_tt (h1 : SqT K H a (ns.map V.int)) (h2 : SqT K H b (ms.map V.int)) (q : Q (.bl (decide (ns = ms))) H) : rEqD K (.ref a) (.ref b) H Q :=
  ⟨_, _, .tup h1 (dpA_ints ns), .tup h2 (dpA_ints ms), shaped_ti ns, shaped_ti ms, by rw [show PyData.eqv (.tuple (ns.map PyData.int)) (.tuple (ms.map PyData.int)) = _ from eqvA_ints ns ms]; exact q⟩
theorem ned_tt (h1 : SqT K H a (ns.map V.int)) (h2 : SqT K H b (ms.map V.int)) (q : Q (.bl (!decide (ns = ms))) H) : rNeD K (.ref a) (.ref b) H Q :=
  ⟨_, _, .tup h1 (dpA_ints ns), .tup h2 (dpA_ints ms), shaped_ti ns, shaped_ti ms, by rw [show PyData.eqv (.tuple (ns.map PyData.int)) (.tuple (ms.map PyData.int)) = _ from eqvA_ints ns ms]; exact q⟩
end
/-! ### isinstance -/
theorem kb1 : kitB "list" "tuple" = some false := by decide +kernel
theorem kb2 : kitB "list" "list" = some true := by decide +kernel
theorem kb3 : kitB "tuple" "tuple" = some true := by decide +kernel
theorem kb4 : kitB "tuple" "list" = some false := by decide +kernel
theorem kb5 : kitB "NoneType" "tuple" = some false := by decide +kernel
theorem kb6 : kitB "NoneType" "list" = some false := by decide +kernel
theorem kb7 : kitB "bool" "tuple" = some false := by decide +kernel
theorem kb8 : kitB "bool" "list" = some false := by decide +kernel
theorem kb9 : kitB "bool" "bool" = some true := by decide +kernel
theorem kb10 : kitB "bool" "int" = some true := by decide +kernel
theorem kb11 : kitB "int" "tuple" = some false := by decide +kernel
theorem kb12 : kitB "int" "list" = some false := by decide +kernel
theorem kb13 : kitB "int" "bool" = some false := by decide +kernel
theorem kb14 : kitB "int" "int" = some true := by decide +kernel
theorem kb15 : kitB "str" "tuple" = some false := by decide +kernel
theorem kb16 : kitB "str" "list" = some false := by decide +kernel
theorem kb17 : kitB "str" "bool" = some false := by decide +kernel
theorem kb18 : kitB "str" "int" = some false := by decide +kernel
theorem kb19 : kitB "str" "str" = some true := by decide +kernel
theorem tyx_list {K : PySem.W.Frag} {H : Hp} {a : Addr} {xs : List V} (h : SqL K H a xs) : TyX K H (.ref a) (.type "list") := by
  rcases h with (h | ⟨o, h⟩) | ⟨o, its, n, h, c, _⟩
  · exact .base (.lst h)
  · exact .base (.frz h)
  · exact .kList h c
theorem tyx_tup {K : PySem.W.Frag} {H : Hp} {a : Addr} {xs : List V} (h : SqT K H a xs) : TyX K H (.ref a) (.type "tuple") := by
  rcases h with (h | ⟨o, h⟩) | ⟨o, its, n, h, c, _⟩
  · exact .base (.tup h)
  · exact .fTuple h
  · exact .kTuple h c
theorem call_isiK2 {X : Cx} (K : PySem.W.Frag) (eK : X.K = K := by rfl) : CallR X (.builtin "isinstance") (rIsi K) := by subst eK; exact call_isi
theorem tyx_non {K : PySem.W.Frag} {H : Hp} : TyX K H .non (.type "NoneType") := .base .non
theorem tyx_bl {K : PySem.W.Frag} {H : Hp} (b : Bool) : TyX K H (.bl b) (.type "bool") := .base (.bl b)
theorem tyx_int {K : PySem.W.Frag} {H : Hp} (b : Int) : TyX K H (.int b) (.type "int") := .base (.int b)
theorem tyx_str {K : PySem.W.Frag} {H : Hp} (b : Str) : TyX K H (.str b) (.type "str") := .base (.str b)
local macro_rules | `(tactic| walk_at "isi") => `(tactic| (refine ⟨_, _, _, _, _, rfl, .ty _, (by first | exact tyx_int _ | exact tyx_bl _ | exact tyx_non | exact tyx_str _ | exact tyx_list (by walk_at "sq") | exact tyx_tup (by walk_at "sq")),
  kit_ty (by with_reducible first | exact kb1 | exact kb2 | exact kb3 | exact kb4 | exact kb5 | exact kb6 | exact kb7 | exact kb8 | exact kb9 | exact kb10 | exact kb11 | exact kb12 | exact kb13 | exact kb14 | exact kb15 | exact kb16 | exact kb17 | exact kb18 | exact kb19), ?_⟩))
local macro_rules | `(tactic| walk_at "rdi") => `(tactic| repeat (first | walk_at "rd1" | walk_at "isi"))
def topS (i : Nat) : Stmt := PySem.Challenge.pw_discwright_k02_cyclic_checks.main.body.getD i (.Pass ⟨0, 0, 0, 0⟩)
abbrev s_z_law_pool : Stmt := topS 11
abbrev N_z_law_pool : List Str := ["_law_script", "_law_salt", "_law_cell"]
theorem sc_z_law_pool : FnScope N_z_law_pool ["_law_script"] (defScope s_z_law_pool) := ⟨rfl, rfl, rfl, by decide +kernel, rfl, by decide +kernel, by decide +kernel⟩
abbrev s_z_law_same : Stmt := topS 14
abbrev N_z_law_same : List Str := ["_law_actual", "_law_due", "_law_k"]
theorem sc_z_law_same : FnScope N_z_law_same ["_law_actual", "_law_due"] (defScope s_z_law_same) := ⟨rfl, rfl, rfl, by decide +kernel, rfl, by decide +kernel, by decide +kernel⟩
abbrev s_z_law_spread : Stmt := topS 12
abbrev N_z_law_spread : List Str := ["_law_cell", "_law_mixed", "_law_wide", "_law_k"]
theorem sc_z_law_spread : FnScope N_z_law_spread ["_law_cell"] (defScope s_z_law_spread) := ⟨rfl, rfl, rfl, by decide +kernel, rfl, by decide +kernel, by decide +kernel⟩
abbrev s_z_law_draw : Stmt := topS 13
abbrev N_z_law_draw : List Str := ["_law_pool_here", "_law_many", "_law_cell", "_law_mixed", "_law_value"]
theorem sc_z_law_draw : FnScope N_z_law_draw ["_law_pool_here", "_law_many"] (defScope s_z_law_draw) := ⟨rfl, rfl, rfl, by decide +kernel, rfl, by decide +kernel, by decide +kernel⟩
abbrev s_z_law_some_bytes : Stmt := topS 17
abbrev N_z_law_some_bytes : List Str := ["_law_pool_here", "_law_most", "_law_count", "_law_way", "_law_k"]
theorem sc_z_law_some_bytes : FnScope N_z_law_some_bytes ["_law_pool_here", "_law_most"] (defScope s_z_law_some_bytes) := ⟨rfl, rfl, rfl, by decide +kernel, rfl, by decide +kernel, by decide +kernel⟩
abbrev s_byte_bits : Stmt := topS 6
abbrev N_byte_bits : List Str := ["value", "weight"]
theorem sc_byte_bits : FnScope N_byte_bits ["value"] (defScope s_byte_bits) := ⟨rfl, rfl, rfl, by decide +kernel, rfl, by decide +kernel, by decide +kernel⟩
abbrev s_exclusive : Stmt := topS 7
abbrev N_exclusive : List Str := ["first", "second"]
theorem sc_exclusive : FnScope N_exclusive ["first", "second"] (defScope s_exclusive) := ⟨rfl, rfl, rfl, by decide +kernel, rfl, by decide +kernel, by decide +kernel⟩
abbrev s_step : Stmt := topS 8
abbrev N_step : List Str := ["number", "value", "bit", "top"]
theorem sc_step : FnScope N_step ["number", "value"] (defScope s_step) := ⟨rfl, rfl, rfl, by decide +kernel, rfl, by decide +kernel, by decide +kernel⟩
abbrev s_crc : Stmt := topS 9
abbrev N_crc : List Str := ["values", "number", "value"]
theorem sc_crc : FnScope N_crc ["values"] (defScope s_crc) := ⟨rfl, rfl, rfl, by decide +kernel, rfl, by decide +kernel, by decide +kernel⟩
abbrev s_z_law_or : Stmt := topS 15
abbrev N_z_law_or : List Str := ["_law_a", "_law_b"]
theorem sc_z_law_or : FnScope N_z_law_or ["_law_a", "_law_b"] (defScope s_z_law_or) := ⟨rfl, rfl, rfl, by decide +kernel, rfl, by decide +kernel, by decide +kernel⟩
abbrev s_z_law_check : Stmt := topS 16
abbrev N_z_law_check : List Str := ["_law_values", "_law_number", "_law_value", "_law_k", "_law_top"]
theorem sc_z_law_check : FnScope N_z_law_check ["_law_values"] (defScope s_z_law_check) := ⟨rfl, rfl, rfl, by decide +kernel, rfl, by decide +kernel, by decide +kernel⟩
abbrev s_law : Stmt := topS 18
abbrev N_law : List Str := ["_law_script", "_law_pool_here", "_law_turn", "_law_values", "_law_keep"]
theorem sc_law : FnScope N_law ["_law_script"] (defScope s_law) := ⟨rfl, rfl, rfl, by decide +kernel, rfl, by decide +kernel, by decide +kernel⟩
structure Ad where
  f_z_law_pool : Addr
  d_z_law_pool : FuncData
  f_z_law_same : Addr
  d_z_law_same : FuncData
  f_z_law_spread : Addr
  d_z_law_spread : FuncData
  f_z_law_draw : Addr
  d_z_law_draw : FuncData
  f_z_law_some_bytes : Addr
  d_z_law_some_bytes : FuncData
  f_byte_bits : Addr
  d_byte_bits : FuncData
  f_exclusive : Addr
  d_exclusive : FuncData
  f_step : Addr
  d_step : FuncData
  f_crc : Addr
  d_crc : FuncData
  f_z_law_or : Addr
  d_z_law_or : FuncData
  f_z_law_check : Addr
  d_z_law_check : FuncData
  f_law : Addr
  d_law : FuncData
  a_BIT_WEIGHTS : Addr
  t_CRC_START : Tok
  t_CRC_MASK : Tok
  t_WORD : Tok
  t_TOP : Tok
structure Txt (K : PySem.W.Frag) (mg : Str → Option Value) (ad : Ad) : Prop where
  F_z_law_pool : Fun K "_law_pool" "_law_pool" s_z_law_pool ad.f_z_law_pool ad.d_z_law_pool
  g_z_law_pool : mg "_law_pool" = some (.ref ad.f_z_law_pool)
  b_z_law_pool : Binds K ad.d_z_law_pool ["_law_script"] []
  F_z_law_same : Fun K "_law_same" "_law_same" s_z_law_same ad.f_z_law_same ad.d_z_law_same
  g_z_law_same : mg "_law_same" = some (.ref ad.f_z_law_same)
  b_z_law_same : Binds K ad.d_z_law_same ["_law_actual", "_law_due"] []
  F_z_law_spread : Fun K "_law_spread" "_law_spread" s_z_law_spread ad.f_z_law_spread ad.d_z_law_spread
  g_z_law_spread : mg "_law_spread" = some (.ref ad.f_z_law_spread)
  b_z_law_spread : Binds K ad.d_z_law_spread ["_law_cell"] []
  F_z_law_draw : Fun K "_law_draw" "_law_draw" s_z_law_draw ad.f_z_law_draw ad.d_z_law_draw
  g_z_law_draw : mg "_law_draw" = some (.ref ad.f_z_law_draw)
  b_z_law_draw : Binds K ad.d_z_law_draw ["_law_pool_here", "_law_many"] []
  F_z_law_some_bytes : Fun K "_law_some_bytes" "_law_some_bytes" s_z_law_some_bytes ad.f_z_law_some_bytes ad.d_z_law_some_bytes
  g_z_law_some_bytes : mg "_law_some_bytes" = some (.ref ad.f_z_law_some_bytes)
  b_z_law_some_bytes : Binds K ad.d_z_law_some_bytes ["_law_pool_here", "_law_most"] []
  F_byte_bits : Fun K "byte_bits" "byte_bits" s_byte_bits ad.f_byte_bits ad.d_byte_bits
  g_byte_bits : mg "byte_bits" = some (.ref ad.f_byte_bits)
  b_byte_bits : Binds K ad.d_byte_bits ["value"] []
  F_exclusive : Fun K "exclusive" "exclusive" s_exclusive ad.f_exclusive ad.d_exclusive
  g_exclusive : mg "exclusive" = some (.ref ad.f_exclusive)
  b_exclusive : Binds K ad.d_exclusive ["first", "second"] []
  F_step : Fun K "step" "step" s_step ad.f_step ad.d_step
  g_step : mg "step" = some (.ref ad.f_step)
  b_step : Binds K ad.d_step ["number", "value"] []
  F_crc : Fun K "crc" "crc" s_crc ad.f_crc ad.d_crc
  g_crc : mg "crc" = some (.ref ad.f_crc)
  b_crc : Binds K ad.d_crc ["values"] []
  F_z_law_or : Fun K "_law_or" "_law_or" s_z_law_or ad.f_z_law_or ad.d_z_law_or
  g_z_law_or : mg "_law_or" = some (.ref ad.f_z_law_or)
  b_z_law_or : Binds K ad.d_z_law_or ["_law_a", "_law_b"] []
  F_z_law_check : Fun K "_law_check" "_law_check" s_z_law_check ad.f_z_law_check ad.d_z_law_check
  g_z_law_check : mg "_law_check" = some (.ref ad.f_z_law_check)
  b_z_law_check : Binds K ad.d_z_law_check ["_law_values"] []
  F_law : Fun K "law" "law" s_law ad.f_law ad.d_law
  g_law : mg "law" = some (.ref ad.f_law)
  b_law : Binds K ad.d_law ["_law_script"] []
  n_bool : mg "bool" = none
  n_int : mg "int" = none
  n_isinstance : mg "isinstance" = none
  n_len : mg "len" = none
  n_list : mg "list" = none
  n_range : mg "range" = none
  n_str : mg "str" = none
  n_tuple : mg "tuple" = none
  g_BIT_WEIGHTS : mg "BIT_WEIGHTS" = some (.ref ad.a_BIT_WEIGHTS)
  q_BIT_WEIGHTS : ∀ H, SqT K H ad.a_BIT_WEIGHTS (([128, 64, 32, 16, 8, 4, 2, 1] : List Int).map V.int)
  g_CRC_START : mg "CRC_START" = some (.int (65535) ad.t_CRC_START)
  g_CRC_MASK : mg "CRC_MASK" = some (.int (4129) ad.t_CRC_MASK)
  g_WORD : mg "WORD" = some (.int (65536) ad.t_WORD)
  g_TOP : mg "TOP" = some (.int (32768) ad.t_TOP)
section
variable {P : Program} {w : World} {K : PySem.W.Frag} {mg : Str → Option Value} {base : Heap} {ad : Ad}
/-- the pool at p over the script's copy at q -/
def PoolAt (H : Hp) (p q : Addr) (ns : List Int) : Prop := ∃ i cur cnt salt : Int, H p = some (.lst [.ref q, .int i, .int cur, .int cnt, .int salt]) ∧ H q = some (.lst (ns.map V.int)) ∧ q ≠ p ∧ 0 ≤ i
theorem PoolAt.but {H H' : Hp} {p q D : Addr} {ns : List Int} (h : PoolAt H p q ns) (b : But D H H') (np : p ≠ D) (nq : q ≠ D) : PoolAt H' p q ns := by
  obtain ⟨i, cur, cnt, salt, h1, h2, h3, h4⟩ := h
  exact ⟨i, cur, cnt, salt, b _ _ np h1, b _ _ nq h2, h3, h4⟩
theorem PoolAt.same {H H' : Hp} {p q : Addr} {ns : List Int} (h : PoolAt H p q ns) (b : Same H H') : PoolAt H' p q ns := by
  obtain ⟨i, cur, cnt, salt, h1, h2, h3, h4⟩ := h
  exact ⟨i, cur, cnt, salt, b _ _ h1, b _ _ h2, h3, h4⟩
theorem PoolAt.np {H : Hp} {p q D : Addr} {ns : List Int} (h : PoolAt H p q ns) (n : H D = none) : p ≠ D := by
  obtain ⟨i, cur, cnt, salt, h1, h2, h3, h4⟩ := h
  exact ne_of_none h1 n
theorem PoolAt.nq {H : Hp} {p q D : Addr} {ns : List Int} (h : PoolAt H p q ns) (n : H D = none) : q ≠ D := by
  obtain ⟨i, cur, cnt, salt, h1, h2, h3, h4⟩ := h
  exact ne_of_none h2 n
theorem PoolAt.new {H : Hp} {p q D : Addr} {ns : List Int} {o : HO} (h : PoolAt H p q ns) (n : H D = none) : PoolAt (upd H D o) p q ns := h.same (same_upd n)
def sp_z_law_pool (K : PySem.W.Frag) : Sp := fun vs H Q _ => ∃ (a : Addr) (ns : List Int), vs = [.ref a] ∧ SqL K H a (ns.map V.int) ∧ ∀ H' p q, Same H H' → H p = none → H q = none → PoolAt H' p q ns → Q (.ref p) H'
theorem ok_z_law_pool (T : Txt K mg ad) : FnOk P w K mg base CX0 1 ad.f_z_law_pool ad.d_z_law_pool ["_law_script"]  (sp_z_law_pool K) := by
  refine T.F_z_law_pool.ok sc_z_law_pool (fun vs H Q E h => ?_) (fun cdv A outer s H vs Q E hr h => ?_)
  · obtain ⟨a, ns, rfl, _⟩ := h; rfl
  · obtain ⟨a, ns, rfl, hl, q⟩ := h
    refine ⟨_, (pss_cons (ps_set (i := 1) sc_z_law_pool.nd rfl (.inl rfl) pe_int)
      (pss_cons (ps_for PassesOwn.never rfl (pi_listK K (hl := (pe_slice (sl_listK K) (pv 0) po_none (po_some pe_int)))) (pg_name (i := 2) sc_z_law_pool.nd rfl (.inl rfl))
      (pss_one (ps_set (i := 1) sc_z_law_pool.nd rfl (.inl rfl) (pe_op op_mod (pe_callTy call_int1 (by rfl) T.n_int (by decide +kernel) (pa_cons (pe_op op_add (pe_op op_mul (pv 1) pe_int) (pv 2)) pa_nil)) pe_int))))
      (pss_one (ps_ret (pe_lst (pa_cons (pe_callTy (call_listK K) (by rfl) T.n_list (by decide +kernel) (pa_cons (pv 0) pa_nil)) (pa_cons pe_int (pa_cons pe_int (pa_cons pe_int (pa_cons (pv 1) pa_nil)))))))))), ?_⟩
    refine ⟨_, rfl, _, rfl, _, _, rfl, hl, fun p np => ?_⟩
    have e1 : cutV (ns.map V.int) none (some 63) = ((ns.take 63).map V.int) := by
      unfold cutV
      rw [HT.sIx_none, show HT.sIx (ns.map V.int).length (ns.map V.int).length (some 63) = min 63 (ns.map V.int).length from HT.sIx_nat _ _ 63, List.drop_zero, Nat.sub_zero, List.length_map, List.map_take]
      by_cases h : 63 ≤ ns.length
      · rw [Nat.min_eq_left h]
      · rw [Nat.min_eq_right (by omega), List.take_of_length_le (by simp), List.take_of_length_le (by simp; omega)]
    rw [e1]
    have s1 : Same H (upd H p (.lst ((ns.take 63).map V.int))) := same_upd np
    refine ⟨p, rfl, ⟨_, SqL.of upd_same⟩, for_pre (K := K) (ns := ns.take 63) (emb := V.int) (fun pre σ H' => H' = upd H p (.lst ((ns.take 63).map V.int)) ∧ ∃ x y, σ = [some (.ref a), some (.int x), y]) ⟨rfl, _, _, rfl⟩ (fun pre σ H' h => by rw [h.1]; exact SqL.of upd_same) (fun pre b post σ H' hpre h => ?_) (fun σ H' h => ?_)⟩
    · obtain ⟨rfl, x, y, rfl⟩ := h
      walk_at "rd"
      exact ⟨_, _, rfl⟩
    · obtain ⟨rfl, x, y, rfl⟩ := h
      refine ⟨_, rfl, _, _, rfl, .inl (s1.seq hl), fun l nl => ?_⟩
      walk_at "rd"
      refine fun r nr => ?_
      have nlr : l ≠ r := ne_of_none upd_same nr
      exact q _ r l (same_nx (same_nx s1 nl) nr) (s1.free ((same_upd nl).free nr)) (s1.free nl) ⟨0, 0, 0, x, upd_same, by rw [upd_ne nlr, upd_same], nlr, by decide⟩
def isScal : V → Prop
  | .non | .bl _ | .int _ | .str _ => True
  | _ => False
def SameAt (K : PySem.W.Frag) (H : Hp) : Nat → V → V → Prop
  | 0, x, y => x = y ∧ isScal x
  | n + 1, x, y => (x = y ∧ isScal x) ∨ ∃ a b xs ys, x = .ref a ∧ y = .ref b ∧ ((SqL K H a xs ∧ SqL K H b ys) ∨ (SqT K H a xs ∧ SqT K H b ys)) ∧ xs.length = ys.length ∧ xs.length < 2 ^ 62 ∧ ∀ (i : Nat) u v, xs[i]? = some u → ys[i]? = some v → SameAt K H n u v
theorem SameAt.mono {K : PySem.W.Frag} {H : Hp} : ∀ {n : Nat} {x y : V}, SameAt K H n x y → SameAt K H (n + 1) x y
  | 0, _, _, h => Or.inl h
  | n + 1, _, _, h => by
    rcases h with h | ⟨a, b, xs, ys, h1, h2, h3, h4, h5, h6⟩
    · exact .inl h
    · exact .inr ⟨a, b, xs, ys, h1, h2, h3, h4, h5, fun i u v e1 e2 => (h6 i u v e1 e2).mono⟩
theorem SameAt.le {K : PySem.W.Frag} {H : Hp} {n m : Nat} {x y : V} (h : SameAt K H n x y) (l : n ≤ m) : SameAt K H m x y := by
  induction l with
  | refl => exact h
  | step _ ih => exact ih.mono
theorem SameAt.scal {K : PySem.W.Frag} {H : Hp} {n : Nat} {x : V} (h : isScal x) : SameAt K H n x x := by cases n with
  | zero => exact ⟨rfl, h⟩
  | succ n => exact Or.inl ⟨rfl, h⟩
theorem _root_.L2.Same.sameAt {K : PySem.W.Frag} {H H' : Hp} (s : Same H H') : ∀ {n : Nat} {x y : V}, SameAt K H n x y → SameAt K H' n x y
  | 0, _, _, h => h
  | n + 1, _, _, h => by
    rcases h with h | ⟨a, b, xs, ys, h1, h2, h3, h4, h5, h6⟩
    · exact .inl h
    · refine .inr ⟨a, b, xs, ys, h1, h2, ?_, h4, h5, fun i u v e1 e2 => s.sameAt (h6 i u v e1 e2)⟩
      rcases h3 with ⟨p, q⟩ | ⟨p, q⟩
      · exact .inl ⟨s.seq p, s.seq q⟩
      · exact .inr ⟨s.sqt p, s.sqt q⟩
/-- two lists of scalars -/
theorem SameAt.lst {K : PySem.W.Frag} {H : Hp} {a b : Addr} {xs : List V} (h1 : SqL K H a xs) (h2 : SqL K H b xs) (hs : ∀ x ∈ xs, isScal x) (hz : xs.length < 2 ^ 62) : SameAt K H 1 (.ref a) (.ref b) :=
  Or.inr ⟨a, b, xs, xs, rfl, rfl, .inl ⟨h1, h2⟩, rfl, hz, fun i u v e1 e2 => by rw [e1] at e2; cases e2; exact ⟨rfl, hs u (List.mem_of_getElem? e1)⟩⟩
theorem SameAt.tup {K : PySem.W.Frag} {H : Hp} {a b : Addr} {xs : List V} (h1 : SqT K H a xs) (h2 : SqT K H b xs) (hs : ∀ x ∈ xs, isScal x) (hz : xs.length < 2 ^ 62) : SameAt K H 1 (.ref a) (.ref b) :=
  Or.inr ⟨a, b, xs, xs, rfl, rfl, .inr ⟨h1, h2⟩, rfl, hz, fun i u v e1 e2 => by rw [e1] at e2; cases e2; exact ⟨rfl, hs u (List.mem_of_getElem? e1)⟩⟩
theorem scal_ints {ns : List Int} : ∀ x ∈ ns.map V.int, isScal x := fun x h => by obtain ⟨n, _, rfl⟩ := List.mem_map.mp h; exact True.intro
def sp_z_law_same (K : PySem.W.Frag) : Nat → Sp
  | 0 => fun _ _ _ _ => False
  | n + 1 => fun vs H Q _ => ∃ x y, vs = [x, y] ∧ SameAt K H n x y ∧ Q (.bl true) H
theorem ok_z_law_same_n (T : Txt K mg ad) : ∀ n, FnOk P w K mg base CX0 n ad.f_z_law_same ad.d_z_law_same ["_law_actual", "_law_due"] (sp_z_law_same K n)
  | 0 => ⟨fun _ _ _ _ h => h.elim, fun _ _ _ _ _ _ _ _ _ _ _ _ _ h => h.elim⟩
  | n + 1 => by
    have IH := ok_z_law_same_n T n
    refine T.F_z_law_same.ok sc_z_law_same (fun vs H Q E h => ?_) (fun cdv A outer s H vs Q E hr h => ?_)
    · obtain ⟨a, b, rfl, _⟩ := h; rfl
    · obtain ⟨x, y, rfl, hs, q⟩ := h
      refine ⟨_, (pss_cons (ps_if (PW.pt (pw_or (pt_val (pe_callB (call_isiK2 K) (by rfl) T.n_isinstance (by decide +kernel) (pa_cons (pv 1) (pa_cons (pe_bltn (v := V.ty "tuple") rfl T.n_tuple (by decide +kernel) rfl) pa_nil)))) (pw_or1 (pt_val (pe_callB (call_isiK2 K) (by rfl) T.n_isinstance (by decide +kernel) (pa_cons (pv 1) (pa_cons (pe_bltn (v := V.ty "list") rfl T.n_list (by decide +kernel) rfl) pa_nil)))))))
      (pss_cons (ps_if (PW.pt (pw_or (pt_cmpR op_ne (pe_callB (call_isiK2 K) (by rfl) T.n_isinstance (by decide +kernel) (pa_cons (pv 1) (pa_cons (pe_bltn (v := V.ty "tuple") rfl T.n_tuple (by decide +kernel) rfl) pa_nil))) (pe_callB (call_isiK2 K) (by rfl) T.n_isinstance (by decide +kernel) (pa_cons (pv 0) (pa_cons (pe_bltn (v := V.ty "tuple") rfl T.n_tuple (by decide +kernel) rfl) pa_nil))) (nomark _)) (pw_or1 (pt_cmpR op_ne (pe_callB (call_isiK2 K) (by rfl) T.n_isinstance (by decide +kernel) (pa_cons (pv 1) (pa_cons (pe_bltn (v := V.ty "list") rfl T.n_list (by decide +kernel) rfl) pa_nil))) (pe_callB (call_isiK2 K) (by rfl) T.n_isinstance (by decide +kernel) (pa_cons (pv 0) (pa_cons (pe_bltn (v := V.ty "list") rfl T.n_list (by decide +kernel) rfl) pa_nil))) (nomark _)))))
      (pss_one (ps_ret pe_bl))
      pss_nil)
      (pss_cons (ps_if (pt_cmpR op_ne (pe_callB (call_lenK K) (by rfl) T.n_len (by decide +kernel) (pa_cons (pv 0) pa_nil)) (pe_callB (call_lenK K) (by rfl) T.n_len (by decide +kernel) (pa_cons (pv 1) pa_nil)) (nomark _))
      (pss_one (ps_ret pe_bl))
      pss_nil)
      (pss_cons (ps_for PassesOwn.never rfl (pi_range1 (by rfl) T.n_range (pa_cons (pe_callB (call_lenK K) (by rfl) T.n_len (by decide +kernel) (pa_cons (pv 1) pa_nil)) pa_nil)) (pg_name (i := 2) sc_z_law_same.nd rfl (.inl rfl))
      (pss_one (ps_if (pt_not (pt_val (pe_call IH hr rfl T.g_z_law_same T.F_z_law_same.kp T.b_z_law_same .nil pass0 (pa_cons (pe_ix (ix_seqK K) (pv 0) (pv 2) (fun _ _ => rfl)) (pa_cons (pe_ix (ix_seqK K) (pv 1) (pv 2) (fun _ _ => rfl)) pa_nil)))))
      (pss_one (ps_ret pe_bl))
      pss_nil)))
      (pss_one (ps_ret pe_bl)))))
      pss_nil)
      (pss_cons (ps_if (pt_cmpR op_isN (pv 1) pe_non (nomark _))
      (pss_one (ps_ret (pe_cmpR op_isN (pv 0) pe_non (nomark _))))
      pss_nil)
      (pss_cons (ps_if (pt_val (pe_callB (call_isiK2 K) (by rfl) T.n_isinstance (by decide +kernel) (pa_cons (pv 1) (pa_cons (pe_bltn (v := V.ty "bool") rfl T.n_bool (by decide +kernel) rfl) pa_nil))))
      (pss_one (ps_ret (pe_and (pe_callB (call_isiK2 K) (by rfl) T.n_isinstance (by decide +kernel) (pa_cons (pv 0) (pa_cons (pe_bltn (v := V.ty "bool") rfl T.n_bool (by decide +kernel) rfl) pa_nil))) (pe_one (pe_cmpR op_eq (pv 0) (pv 1) (nomark _))))))
      pss_nil)
      (pss_cons (ps_if (pt_val (pe_callB (call_isiK2 K) (by rfl) T.n_isinstance (by decide +kernel) (pa_cons (pv 1) (pa_cons (pe_bltn (v := V.ty "int") rfl T.n_int (by decide +kernel) rfl) pa_nil))))
      (pss_one (ps_ret (pe_and (pe_callB (call_isiK2 K) (by rfl) T.n_isinstance (by decide +kernel) (pa_cons (pv 0) (pa_cons (pe_bltn (v := V.ty "int") rfl T.n_int (by decide +kernel) rfl) pa_nil))) (pe_and (pe_not (pe_callB (call_isiK2 K) (by rfl) T.n_isinstance (by decide +kernel) (pa_cons (pv 0) (pa_cons (pe_bltn (v := V.ty "bool") rfl T.n_bool (by decide +kernel) rfl) pa_nil)))) (pe_one (pe_cmpR op_eq (pv 0) (pv 1) (nomark _)))))))
      pss_nil)
      (pss_one (ps_ret (pe_and (pe_callB (call_isiK2 K) (by rfl) T.n_isinstance (by decide +kernel) (pa_cons (pv 0) (pa_cons (pe_bltn (v := V.ty "str") rfl T.n_str (by decide +kernel) rfl) pa_nil))) (pe_one (pe_cmpR op_eq (pv 0) (pv 1) (nomark _)))))))))), ?_⟩
      have hc : (x = y ∧ isScal x) ∨ ∃ m a b xs ys, n = m + 1 ∧ x = .ref a ∧ y = .ref b ∧ ((SqL K H a xs ∧ SqL K H b ys) ∨ (SqT K H a xs ∧ SqT K H b ys)) ∧ xs.length = ys.length ∧ xs.length < 2 ^ 62 ∧ ∀ (i : Nat) u v, xs[i]? = some u → ys[i]? = some v → SameAt K H m u v := by
        cases n with
        | zero => exact .inl hs
        | succ m =>
          rcases hs with hs | ⟨a, b, xs, ys, hs⟩
          · exact .inl hs
          · exact .inr ⟨m, a, b, xs, ys, rfl, hs⟩
      rcases hc with ⟨rfl, hx⟩ | ⟨m, a, b, xs, ys, rfl, rfl, rfl, hk, hlen, hz, hel⟩
      · cases x with
        | non => walk_at "rdi"; exact q
        | bl b => walk_at "rdi"; show Q (V.bl (decide (V.bl b = V.bl b))) H; rw [decide_eq_true rfl]; exact q
        | int b => walk_at "rdi"; show Q (V.bl (decide (V.int b = V.int b))) H; rw [decide_eq_true rfl]; exact q
        | str b => walk_at "rdi"; show Q (V.bl (decide (V.str b = V.str b))) H; rw [decide_eq_true rfl]; exact q
        | byt b => exact hx.elim
        | flt b => exact hx.elim
        | ref b => exact hx.elim
        | ty b => exact hx.elim
      · rcases hk with ⟨h1, h2⟩ | ⟨h1, h2⟩
        all_goals
          walk_at "rdi"
          refine iteIn (fun c => absurd (congrArg Int.ofNat hlen) c) (fun _ => ?_)
          walk_at "rdi"
          refine for_range (lo := 0) (n := ys.length) (fun i σ H' => H' = H ∧ ∃ z, σ = [some (.ref a), some (.ref b), z]) ⟨rfl, _, rfl⟩ (fun i σ H' hi h => ?_) (fun σ H' h => ?_)
          · obtain ⟨rfl, z, rfl⟩ := h
            have hix : i < xs.length := by omega
            have hiy : i < ys.length := hi
            have ex : atI xs (0 + (i : Int)) = some xs[i] := at_of (j := i) (by omega) (List.getElem?_eq_getElem hix)
            have ey : atI ys (0 + (i : Int)) = some ys[i] := at_of (j := i) (by omega) (List.getElem?_eq_getElem hiy)
            walk_at "rdi"
            first
              | refine Or.inl ⟨a, xs, _, _, rfl, rfl, h1, ex, ?_⟩
              | refine Or.inr (Or.inl ⟨a, xs, _, _, rfl, rfl, h1, ex, ?_⟩)
            walk_at "rd"
            first
              | refine Or.inl ⟨b, ys, _, _, rfl, rfl, h2, ey, ?_⟩
              | refine Or.inr (Or.inl ⟨b, ys, _, _, rfl, rfl, h2, ey, ?_⟩)
            refine ⟨_, _, rfl, hel i _ _ (List.getElem?_eq_getElem hix) (List.getElem?_eq_getElem hiy), ?_⟩
            walk_at "rd"
            exact ⟨_, rfl⟩
          · obtain ⟨rfl, z, rfl⟩ := h
            walk_at "rdi"
            exact q
theorem ok_z_law_same (T : Txt K mg ad) : FnOk P w K mg base CX0 8 ad.f_z_law_same ad.d_z_law_same ["_law_actual", "_law_due"]  (sp_z_law_same K 8) := ok_z_law_same_n T 8
def sp_z_law_spread : Sp := fun vs H Q _ => ∃ a : Int, vs = [.int a] ∧ ∀ b, Q (.int b) H
theorem ok_z_law_spread (T : Txt K mg ad) : FnOk P w K mg base CX0 1 ad.f_z_law_spread ad.d_z_law_spread ["_law_cell"]  sp_z_law_spread := by
  refine T.F_z_law_spread.ok sc_z_law_spread (fun vs H Q E h => ?_) (fun cdv A outer s H vs Q E hr h => ?_)
  · obtain ⟨a, rfl, _⟩ := h; rfl
  · obtain ⟨a, rfl, q⟩ := h
    refine ⟨_, (pss_cons (ps_set (i := 1) sc_z_law_spread.nd rfl (.inl rfl) (pe_op op_mod (pe_callTy call_int1 (by rfl) T.n_int (by decide +kernel) (pa_cons (pv 0) pa_nil)) pe_int))
      (pss_cons (ps_set (i := 2) sc_z_law_spread.nd rfl (.inl rfl) pe_int)
      (pss_cons (ps_for PassesOwn.never rfl (pi_range1 (by rfl) T.n_range (pa_cons pe_int pa_nil)) (pg_name (i := 3) sc_z_law_spread.nd rfl (.inl rfl))
      (pss_cons (ps_set (i := 1) sc_z_law_spread.nd rfl (.inl rfl) (pe_op op_mod (pe_callTy call_int1 (by rfl) T.n_int (by decide +kernel) (pa_cons (pe_op op_add (pe_op op_add (pe_op op_mul (pv 1) pe_int) pe_int) (pv 3)) pa_nil)) pe_int))
      (pss_one (ps_set (i := 2) sc_z_law_spread.nd rfl (.inl rfl) (pe_op op_add (pe_op op_mul (pv 2) pe_int) (pv 1))))))
      (pss_one (ps_ret (pv 2)))))), ?_⟩
    walk_at "rd"
    refine for_range (lo := 0) (n := 4) (fun i σ H' => H' = H ∧ ∃ x y z, σ = [some (.int a), some (.int x), some (.int y), z]) ⟨rfl, _, _, _, rfl⟩ (fun i σ H' hi h => ?_) (fun σ H' h => ?_)
    · obtain ⟨rfl, x, y, z, rfl⟩ := h
      walk_at "rd"
      exact ⟨_, _, _, rfl⟩
    · obtain ⟨rfl, x, y, z, rfl⟩ := h
      walk_at "rd"
      exact q _
def sp_z_law_draw : Sp := fun vs H Q _ => ∃ (p l : Addr) (ns : List Int) (m : Int), vs = [.ref p, .int m] ∧ PoolAt H p l ns ∧ 0 < m ∧ m < 1073741824 ∧ ∀ v H', 0 ≤ v → v < m → PoolAt H' p l ns → But p H H' → Q (.int v) H'
theorem ok_z_law_draw (T : Txt K mg ad) : FnOk P w K mg base CX0 2 ad.f_z_law_draw ad.d_z_law_draw ["_law_pool_here", "_law_many"]  sp_z_law_draw := by
  refine T.F_z_law_draw.ok sc_z_law_draw (fun vs H Q E h => ?_) (fun cdv A outer s H vs Q E hr h => ?_)
  · obtain ⟨p, l, ns, m, rfl, _⟩ := h; rfl
  · obtain ⟨p, l, ns, m, rfl, ⟨i, cur, cnt, salt, hp, hl, nlp, hi⟩, hm0, hm1, q⟩ := h
    refine ⟨_, (pss_cut (ps_if (PW.pt (pw_and (pt_cmpR op_le (pe_ix (ix_listK K) (pv 0) pe_int (fun _ _ => rfl)) pe_int (nomark _)) (pw_and1 (pt_cmpR op_lt (pe_ix (ix_listK K) (pv 0) pe_int (fun _ _ => rfl)) (pe_callB (call_lenK K) (by rfl) T.n_len (by decide +kernel) (pa_cons (pe_ix (ix_listK K) (pv 0) pe_int (fun _ _ => rfl)) pa_nil)) (nomark _)))))
      (pss_cons (ps_set (i := 2) sc_z_law_draw.nd rfl (.inl rfl) (pe_ix (ix_listK K) (pe_ix (ix_listK K) (pv 0) pe_int (fun _ _ => rfl)) (pe_ix (ix_listK K) (pv 0) pe_int (fun _ _ => rfl)) (fun _ _ => rfl)))
      (pss_cons (ps_asg (pe_op op_add (pe_ix (ix_listK K) (pv 0) pe_int (fun _ _ => rfl)) pe_int) (pg_sub (pv 0) pe_int set_list))
      (pss_cons (ps_asg (pv 2) (pg_sub (pv 0) pe_int set_list))
      (pss_one (ps_if (pt_cmpR op_lt (pv 2) pe_int (nomark _))
      (pss_one (ps_asg (pe_call (ok_z_law_spread (K := K) T) (hr.mono (by decide)) rfl T.g_z_law_spread T.F_z_law_spread.kp T.b_z_law_spread .nil pass0 (pa_cons (pv 2) pa_nil)) (pg_sub (pv 0) pe_int set_list)))
      pss_nil)))))
      pss_nil)
      (pss_cons (ps_asg (pe_op op_add (pe_ix (ix_listK K) (pv 0) pe_int (fun _ _ => rfl)) pe_int) (pg_sub (pv 0) pe_int set_list))
      (pss_cons (ps_if (pt_cmpR op_le (pe_ix (ix_listK K) (pv 0) pe_int (fun _ _ => rfl)) pe_int (nomark _))
      (pss_cons (ps_set (i := 3) sc_z_law_draw.nd rfl (.inl rfl) (pe_op op_mod (pe_callTy call_int1 (by rfl) T.n_int (by decide +kernel) (pa_cons (pe_op op_add (pe_op op_add (pe_op op_mul (pe_ix (ix_listK K) (pv 0) pe_int (fun _ _ => rfl)) pe_int) (pe_op op_mul (pe_ix (ix_listK K) (pv 0) pe_int (fun _ _ => rfl)) pe_int)) pe_int) pa_nil)) pe_int))
      (pss_cons (ps_set (i := 3) sc_z_law_draw.nd rfl (.inl rfl) (pe_op op_mod (pe_callTy call_int1 (by rfl) T.n_int (by decide +kernel) (pa_cons (pe_op op_add (pe_op op_mul (pv 3) pe_int) (pe_ix (ix_listK K) (pv 0) pe_int (fun _ _ => rfl))) pa_nil)) pe_int))
      (pss_one (ps_ret (pe_op op_mod (pe_op op_fdiv (pv 3) pe_int) (pv 1))))))
      pss_nil)
      (pss_cons (ps_set (i := 4) sc_z_law_draw.nd rfl (.inl rfl) (pe_op op_mod (pe_callTy call_int1 (by rfl) T.n_int (by decide +kernel) (pa_cons (pe_ix (ix_listK K) (pv 0) pe_int (fun _ _ => rfl)) pa_nil)) (pv 1)))
      (pss_cons (ps_asg (pe_op op_fdiv (pe_ix (ix_listK K) (pv 0) pe_int (fun _ _ => rfl)) (pv 1)) (pg_sub (pv 0) pe_int set_list))
      (pss_one (ps_ret (pv 4)))))))), ?_⟩
    refine ⟨fun σ H' => ∃ x i cur, σ = [some (.ref p), some (.int m), x, none, none] ∧ H' p = some (.lst [.ref l, .int i, .int cur, .int cnt, .int salt]) ∧ 0 ≤ i ∧ But p H H', ?_, ?_⟩
    · walk_at "rd"
      refine iteD (fun c1 => ?_) (fun c1 => ?_)
      · walk_at "rd"
        refine iteD (fun c2 => ?_) (fun c2 => ?_)
        · obtain ⟨k, rfl⟩ : ∃ k : Nat, i = k := ⟨i.toNat, by omega⟩
          rw [List.length_map] at c2
          have hk : k < ns.length := by omega
          walk_at "rd"
          refine ⟨_, _, _, _, rfl, rfl, SqL.of hl, atI_nat (v := V.int ns[k]) (by rw [List.getElem?_map, List.getElem?_eq_getElem hk]; rfl), ?_⟩
          walk_at "rd"
          refine iteD (fun c3 => ?_) (fun c3 => ?_)
          · walk_at "rd"
            refine fun z => ?_
            walk_at "rd"
            exact ⟨_, _, _, rfl, upd_same, by omega, fun b o n e => by rw [upd_ne n, upd_ne n, upd_ne n]; exact e⟩
          · walk_at "rd"
            exact ⟨_, _, _, rfl, upd_same, by omega, fun b o n e => by rw [upd_ne n, upd_ne n]; exact e⟩
        · exact ⟨_, _, _, rfl, hp, hi, but_refl⟩
      · walk_at "rd"
        exact ⟨_, _, _, rfl, hp, hi, but_refl⟩
    · rintro σ H1 ⟨x, i1, cur1, rfl, hp1, hi1, b1⟩
      have hl1 : H1 l = some (.lst (ns.map V.int)) := b1 _ _ nlp hl
      walk_at "rd"
      refine iteD (fun c => ?_) (fun c => ?_)
      · walk_at "rd"
        refine q _ _ (Int.emod_nonneg _ (by omega)) (Int.emod_lt_of_pos _ hm0) ⟨_, _, _, _, upd_same, by rw [upd_ne nlp]; exact hl1, nlp, hi1⟩ fun b o n e => by rw [upd_ne n]; exact b1 _ _ n e
      · walk_at "rd"
        exact q _ _ (Int.emod_nonneg _ (by omega)) (Int.emod_lt_of_pos _ hm0) ⟨_, _, _, _, upd_same, by rw [upd_ne nlp, upd_ne nlp]; exact hl1, nlp, hi1⟩ fun b o n e => by rw [upd_ne n, upd_ne n]; exact b1 _ _ n e
def Byte (n : Int) : Prop := 0 ≤ n ∧ n < 256
def sp_z_law_some_bytes : Sp := fun vs H Q _ => ∃ (p l : Addr) (sc : List Int) (m : Int), vs = [.ref p, .int m] ∧ PoolAt H p l sc ∧ 0 ≤ m ∧ m < 1000000 ∧ ∀ (ns : List Int) r H', (∀ n ∈ ns, Byte n) → (ns.length : Int) ≤ m → PoolAt H' p l sc → But p H H' → H r = none → H' r = some (.lst (ns.map V.int)) → Q (.ref r) H'
theorem But.free {D p : Addr} {H H' : Hp} (b : But D H H') (hD : ∃ o, H' D = some o) (n : H' p = none) : H p = none := by
  cases e : H p with
  | none => rfl
  | some o =>
    have np : p ≠ D := fun z => by obtain ⟨x, hx⟩ := hD; rw [z, hx] at n; cases n
    rw [b _ _ np e] at n; cases n
theorem PoolAt.some {H : Hp} {p q : Addr} {ns : List Int} (h : PoolAt H p q ns) : ∃ o, H p = some o := by
  obtain ⟨_, _, _, _, h1, _⟩ := h; exact ⟨_, h1⟩
/-- what a comprehension of drawn ints keeps -/
def DrawS (p l : Addr) (sc : List Int) (H : Hp) (P : Int → Prop) (i : Nat) (acc : List V) (H' : Hp) : Prop := PoolAt H' p l sc ∧ But p H H' ∧ ∃ ns : List Int, acc = ns.map V.int ∧ ns.length = i ∧ ∀ n ∈ ns, P n
theorem DrawS.start {p l D : Addr} {sc : List Int} {H : Hp} {P : Int → Prop} (h : PoolAt H p l sc) (hD : H D = none) : DrawS p l sc H P 0 [] (upd H D (.lst [])) :=
  ⟨h.new hD, but_new but_refl hD, [], rfl, rfl, fun _ h => nomatch h⟩
theorem DrawS.keep {p l D : Addr} {sc : List Int} {H : Hp} {P : Int → Prop} (h0 : PoolAt H p l sc) (hD : H D = none) (i : Nat) (acc : List V) (H1 H2 : Hp) (h : DrawS p l sc H P i acc H1) (b : But D H1 H2) : DrawS p l sc H P i acc H2 :=
  ⟨h.1.but b (h0.np hD) (h0.nq hD), fun c o n e => b c o (ne_of_none e hD) (h.2.1 c o n e), h.2.2⟩
theorem DrawS.more {p l : Addr} {sc : List Int} {H H1 H2 : Hp} {P : Int → Prop} {i : Nat} {acc : List V} {v : Int} (h : DrawS p l sc H P i acc H1) (hp : PoolAt H2 p l sc) (b : But p H1 H2) (hv : P v) : DrawS p l sc H P (i + 1) (acc ++ [V.int v]) H2 := by
  obtain ⟨_, b1, ns, rfl, rfl, hn⟩ := h
  refine ⟨hp, but_trans b1 b, ns ++ [v], by rw [List.map_append]; rfl, by simp, fun n h => ?_⟩
  rcases List.mem_append.mp h with h | h
  · exact hn n h
  · rw [List.mem_singleton.mp h]; exact hv
theorem ok_z_law_some_bytes (T : Txt K mg ad) : FnOk P w K mg base CX0 3 ad.f_z_law_some_bytes ad.d_z_law_some_bytes ["_law_pool_here", "_law_most"]  sp_z_law_some_bytes := by
  refine T.F_z_law_some_bytes.ok sc_z_law_some_bytes (fun vs H Q E h => ?_) (fun cdv A outer s H vs Q E hr h => ?_)
  · obtain ⟨p, l, sc, m, rfl, _⟩ := h; rfl
  · obtain ⟨p, l, sc, m, rfl, hp, hm0, hm1, q⟩ := h
    refine ⟨_, (pss_cons (ps_set (i := 2) sc_z_law_some_bytes.nd rfl (.inl rfl) (pe_call (ok_z_law_draw (K := K) T) (hr.mono (by decide)) rfl T.g_z_law_draw T.F_z_law_draw.kp T.b_z_law_draw .nil pass0 (pa_cons (pv 0) (pa_cons (pe_op op_add (pv 1) pe_int) pa_nil))))
      (pss_cons (ps_set (i := 3) sc_z_law_some_bytes.nd rfl (.inl rfl) (pe_call (ok_z_law_draw (K := K) T) (hr.mono (by decide)) rfl T.g_z_law_draw T.F_z_law_draw.kp T.b_z_law_draw .nil pass0 (pa_cons (pv 0) (pa_cons pe_int pa_nil))))
      (pss_cons (ps_if (pt_cmpR op_eq (pv 3) pe_int (nomark _))
      (pss_one (ps_ret (pe_op op_rep (pe_lst (pa_cons (pe_call (ok_z_law_draw (K := K) T) (hr.mono (by decide)) rfl T.g_z_law_draw T.F_z_law_draw.kp T.b_z_law_draw .nil pass0 (pa_cons (pv 0) (pa_cons pe_int pa_nil))) pa_nil)) (pv 2))))
      pss_nil)
      (pss_cons (ps_if (pt_cmpR op_eq (pv 3) pe_int (nomark _))
      (pss_one (ps_ret (pe_lc (own := [("_law_k", 4)]) (g := gName 4) (tt := tYes) (by rfl) sc_z_law_some_bytes.nd (pi_range1 (by rfl) T.n_range (pa_cons (pv 2) pa_nil)) (blkOk_by (N := N_z_law_some_bytes) (sc := defScope s_z_law_some_bytes) (by decide +kernel)) (fun _ _ _ _ _ => (pg_name (i := 4) sc_z_law_some_bytes.nd rfl (by first | exact .inl rfl | exact .inr rfl))) (fun _ _ _ _ _ => pts_nil) (fun _ _ _ _ _ => (pe_ix (ix_listK K) (pe_lst (pa_cons pe_int (pa_cons pe_int (pa_cons pe_int (pa_cons pe_int pa_nil))))) (pe_call (ok_z_law_draw (K := K) T) (hr.mono (by decide)) rfl T.g_z_law_draw T.F_z_law_draw.kp T.b_z_law_draw .nil pass0 (pa_cons (pv 0) (pa_cons pe_int pa_nil))) (fun _ _ => rfl))))))
      pss_nil)
      (pss_one (ps_ret (pe_lc (own := [("_law_k", 4)]) (g := gName 4) (tt := tYes) (by rfl) sc_z_law_some_bytes.nd (pi_range1 (by rfl) T.n_range (pa_cons (pv 2) pa_nil)) (blkOk_by (N := N_z_law_some_bytes) (sc := defScope s_z_law_some_bytes) (by decide +kernel)) (fun _ _ _ _ _ => (pg_name (i := 4) sc_z_law_some_bytes.nd rfl (by first | exact .inl rfl | exact .inr rfl))) (fun _ _ _ _ _ => pts_nil) (fun _ _ _ _ _ => (pe_call (ok_z_law_draw (K := K) T) (hr.mono (by decide)) rfl T.g_z_law_draw T.F_z_law_draw.kp T.b_z_law_draw .nil pass0 (pa_cons (pv 0) (pa_cons pe_int pa_nil))))))))))), ?_⟩
    walk_at "rd"
    refine ⟨p, l, sc, _, rfl, hp, by omega, by omega, fun c H1 hc0 hc1 hp1 b1 => ?_⟩
    walk_at "rd"
    refine ⟨p, l, sc, _, rfl, hp1, by omega, by omega, fun y H2 hy0 hy1 hp2 b2 => ?_⟩
    have b12 := but_trans b1 b2
    have q2 : ∀ (ns : List Int) r H', (∀ n ∈ ns, Byte n) → (ns.length : Int) ≤ m → PoolAt H' p l sc → But p H2 H' → H2 r = none → H' r = some (.lst (ns.map V.int)) → Q (.ref r) H' :=
      fun ns r H' h1 h2 h3 h4 h5 h6 => q ns r H' h1 h2 h3 (but_trans b12 h4) (b12.free hp2.some h5) h6
    walk_at "rd"
    refine iteI (fun e => ?_) (fun e => ?_)
    · walk_at "rd"
      refine ⟨p, l, sc, _, rfl, hp2, by omega, by omega, fun v H3 hv0 hv1 hp3 b3 => ?_⟩
      walk_at "rd"
      refine fun x nx => ?_
      walk_at "rd"
      refine ⟨_, _, _, rfl, rfl, upd_same, by omega, by omega, line_of (by simp; omega), fun r nr => ?_⟩
      have nr3 : H3 r = none := (same_upd nx).free nr
      refine q2 (List.replicate c.toNat v) r _ (fun n h => by rw [List.eq_of_mem_replicate h]; exact ⟨hv0, hv1⟩) (by simp; omega) ((hp3.new nx).new nr) (but_new (but_new b3 nx) nr) (b3.free hp3.some nr3) ?_
      rw [upd_same, List.map_replicate]
      congr 2
      generalize c.toNat = k
      induction k with
      | zero => rfl
      | succ k ih => rw [List.replicate_succ, List.flatten_cons, ih]; rfl
    · walk_at "rd"
      refine iteI (fun e => ?_) (fun e => ?_)
      · walk_at "rd"
        refine fun D hD => lc_preR (DrawS p l sc H2 Byte) (by omega) (DrawS.start hp2 hD) (DrawS.keep hp2 hD) (fun i acc H' Qy Qn hi hs hl hy hn => ?_) (fun acc H' hs hl => ?_)
        · walk_at "rd"
          refine fun t nt => ?_
          walk_at "rd"
          refine ⟨p, l, sc, _, rfl, hs.1.new nt, by omega, by omega, fun v H3 hv0 hv1 hp3 b3 => ?_⟩
          have ht : H3 t = some (.lst [V.int 0, V.int 255, V.int 1, V.int 128]) := b3 _ _ (hs.1.np nt).symm upd_same
          have b4 : But p H' H3 := but_trans (but_new but_refl nt) b3
          have hv : v = 0 ∨ v = 1 ∨ v = 2 ∨ v = 3 := by omega
          rcases hv with rfl | rfl | rfl | rfl
          all_goals
            refine ⟨t, _, _, _, rfl, rfl, SqL.of ht, rfl, ?_⟩
            exact hy _ _ (b4 _ _ (hp2.np hD).symm hl) (hs.more hp3 b4 (by constructor <;> decide))
        · obtain ⟨h1, h2, ns, rfl, h3, h4⟩ := hs
          exact q2 ns D H' h4 (by omega) h1 h2 hD hl
      · walk_at "rd"
        refine fun D hD => lc_preR (DrawS p l sc H2 Byte) (by omega) (DrawS.start hp2 hD) (DrawS.keep hp2 hD) (fun i acc H' Qy Qn hi hs hl hy hn => ?_) (fun acc H' hs hl => ?_)
        · walk_at "rd"
          refine ⟨p, l, sc, _, rfl, hs.1, by omega, by omega, fun v H3 hv0 hv1 hp3 b3 => ?_⟩
          exact hy _ _ (b3 _ _ (hp2.np hD).symm hl) (hs.more hp3 b3 ⟨hv0, hv1⟩)
        · obtain ⟨h1, h2, ns, rfl, h3, h4⟩ := hs
          exact q2 ns D H' h4 (by omega) h1 h2 hD hl
def bitsM (v : Int) : List Int := [128, 64, 32, 16, 8, 4, 2, 1].map fun w => v / w % 2
def sp_byte_bits : Sp := fun vs H Q _ => ∃ v : Int, vs = [.int v] ∧ ∀ H' p, Same H H' → H p = none → H' p = some (.lst ((bitsM v).map V.int)) → Q (.ref p) H'
theorem ok_byte_bits (T : Txt K mg ad) : FnOk P w K mg base CX0 1 ad.f_byte_bits ad.d_byte_bits ["value"]  sp_byte_bits := by
  refine T.F_byte_bits.ok sc_byte_bits (fun vs H Q E h => ?_) (fun cdv A outer s H vs Q E hr h => ?_)
  · obtain ⟨v, rfl, _⟩ := h; rfl
  · obtain ⟨v, rfl, q⟩ := h
    refine ⟨_, (pss_one (ps_ret (pe_lc (own := [("weight", 1)]) (g := gName 1) (tt := tYes) (by rfl) sc_byte_bits.nd (pi_tupK K (hl := (pe_glob (v := V.ref _) rfl T.g_BIT_WEIGHTS rfl))) (blkOk_by (N := N_byte_bits) (sc := defScope s_byte_bits) (by decide +kernel)) (fun _ _ _ _ _ => (pg_name (i := 1) sc_byte_bits.nd rfl (by first | exact .inl rfl | exact .inr rfl))) (fun _ _ _ _ _ => pts_nil) (fun _ _ _ _ _ => (pe_op op_mod (pe_op op_fdiv (pv 0) (pv 1)) pe_int))))), ?_⟩
    refine ⟨_, rfl, ⟨_, T.q_BIT_WEIGHTS _⟩, fun D hD => lc_funT (K := K) (fun w => V.int (v / w % 2)) (fun _ => true) hD (by decide) (T.q_BIT_WEIGHTS _) (fun w H' Qy Qn hw sm hy hn => ?_) (fun H' sm e => q H' D sm hD (by rw [e]; rfl))⟩
    have hw0 := (by decide : ∀ w ∈ ([128, 64, 32, 16, 8, 4, 2, 1] : List Int), 0 < w ∧ w < 1073741824) w hw
    walk_at "rd"
    exact hy rfl _ (Same.refl _)
def sp_exclusive : Sp := fun vs H Q _ => ∃ a b : Int, vs = [.int a, .int b] ∧ Q (.int (Builtin.bitXor a b)) H
theorem ok_exclusive (T : Txt K mg ad) : FnOk P w K mg base CX0 1 ad.f_exclusive ad.d_exclusive ["first", "second"]  sp_exclusive := by
  refine T.F_exclusive.ok sc_exclusive (fun vs H Q E h => ?_) (fun cdv A outer s H vs Q E hr h => ?_)
  · obtain ⟨a, b, rfl, _⟩ := h; rfl
  · obtain ⟨a, b, rfl, q⟩ := h
    refine ⟨_, (pss_one (ps_ret (pe_op op_xor (pv 0) (pv 1)))), ?_⟩
    walk_at "rd"
    exact q
def stepB (n bit : Int) : Int := if n / 32768 = bit then 2 * n % 65536 else Builtin.bitXor (2 * n % 65536) 4129
def stepM (n v : Int) : Int := (bitsM v).foldl stepB n
def sp_step : Sp := fun vs H Q _ => ∃ n v : Int, vs = [.int n, .int v] ∧ ∀ H', Same H H' → Q (.int (stepM n v)) H'
theorem ok_step (T : Txt K mg ad) : FnOk P w K mg base CX0 2 ad.f_step ad.d_step ["number", "value"]  sp_step := by
  refine T.F_step.ok sc_step (fun vs H Q E h => ?_) (fun cdv A outer s H vs Q E hr h => ?_)
  · obtain ⟨a, b, rfl, _⟩ := h; rfl
  · obtain ⟨n, v, rfl, q⟩ := h
    refine ⟨_, (pss_cons (ps_for PassesOwn.never rfl (pi_listK K (hl := (pe_call (ok_byte_bits (K := K) T) (hr.mono (by decide)) rfl T.g_byte_bits T.F_byte_bits.kp T.b_byte_bits .nil pass0 (pa_cons (pv 1) pa_nil)))) (pg_name (i := 2) sc_step.nd rfl (.inl rfl))
      (pss_cons (ps_set (i := 3) sc_step.nd rfl (.inl rfl) (pe_op op_fdiv (pv 0) (pe_glob (v := V.int _) rfl T.g_TOP ⟨_, rfl⟩)))
      (pss_cons (ps_set (i := 0) sc_step.nd rfl (.inl rfl) (pe_op op_mod (pe_op op_mul pe_int (pv 0)) (pe_glob (v := V.int _) rfl T.g_WORD ⟨_, rfl⟩)))
      (pss_one (ps_if (pt_cmpR op_ne (pv 3) (pv 2) (nomark _))
      (pss_one (ps_set (i := 0) sc_step.nd rfl (.inl rfl) (pe_call (ok_exclusive (K := K) T) (hr.mono (by decide)) rfl T.g_exclusive T.F_exclusive.kp T.b_exclusive .nil pass0 (pa_cons (pv 0) (pa_cons (pe_glob (v := V.int _) rfl T.g_CRC_MASK ⟨_, rfl⟩) pa_nil)))))
      pss_nil)))))
      (pss_one (ps_ret (pv 0)))), ?_⟩
    refine ⟨_, rfl, v, rfl, fun H1 p s1 np hp => ?_⟩
    refine ⟨p, rfl, ⟨_, SqL.of hp⟩, for_pre (K := K) (ns := bitsM v) (emb := V.int) (fun pre σ H' => H' = H1 ∧ ∃ x y, σ = [some (.int (pre.foldl stepB n)), some (.int v), x, y]) ⟨rfl, _, _, rfl⟩ (fun pre σ H' h => by rw [h.1]; exact SqL.of hp) (fun pre b post σ H' hpre h => ?_) (fun σ H' h => ?_)⟩
    · obtain ⟨rfl, x, y, rfl⟩ := h
      walk_at "rd"
      have e : (pre ++ [b]).foldl stepB n = stepB (pre.foldl stepB n) b := by rw [List.foldl_append]; rfl
      rw [e]
      refine iteIn (fun c => ?_) (fun c => ?_)
      · walk_at "rd"
        rw [show stepB (pre.foldl stepB n) b = _ from if_neg c]
        exact ⟨_, _, rfl⟩
      · rw [show stepB (pre.foldl stepB n) b = _ from if_pos c]
        exact ⟨rfl, _, _, rfl⟩
    · obtain ⟨rfl, x, y, rfl⟩ := h
      walk_at "rd"
      exact q _ s1
def crcM (ns : List Int) : Int := ns.foldl stepM 65535
def sp_crc (K : PySem.W.Frag) : Sp := fun vs H Q _ => ∃ (a : Addr) (ns : List Int), vs = [.ref a] ∧ SqL K H a (ns.map V.int) ∧ ∀ H', Same H H' → Q (.int (crcM ns)) H'
theorem ok_crc (T : Txt K mg ad) : FnOk P w K mg base CX0 3 ad.f_crc ad.d_crc ["values"]  (sp_crc K) := by
  refine T.F_crc.ok sc_crc (fun vs H Q E h => ?_) (fun cdv A outer s H vs Q E hr h => ?_)
  · obtain ⟨a, ns, rfl, _⟩ := h; rfl
  · obtain ⟨a, ns, rfl, hl, q⟩ := h
    refine ⟨_, (pss_cons (ps_set (i := 1) sc_crc.nd rfl (.inl rfl) (pe_glob (v := V.int _) rfl T.g_CRC_START ⟨_, rfl⟩))
      (pss_cons (ps_for PassesOwn.never rfl (pi_listK K (hl := (pv 0))) (pg_name (i := 2) sc_crc.nd rfl (.inl rfl))
      (pss_one (ps_set (i := 1) sc_crc.nd rfl (.inl rfl) (pe_call (ok_step (K := K) T) (hr.mono (by decide)) rfl T.g_step T.F_step.kp T.b_step .nil pass0 (pa_cons (pv 1) (pa_cons (pv 2) pa_nil))))))
      (pss_one (ps_ret (pv 1))))), ?_⟩
    refine ⟨_, rfl, a, rfl, ⟨_, hl⟩, for_pre (K := K) (ns := ns) (emb := V.int) (fun pre σ H' => Same H H' ∧ ∃ x, σ = [some (.ref a), some (.int (pre.foldl stepM 65535)), x]) ⟨Same.refl _, _, rfl⟩ (fun pre σ H' h => h.1.seq hl) (fun pre b post σ H' hpre h => ?_) (fun σ H' h => ?_)⟩
    · obtain ⟨sm, x, rfl⟩ := h
      refine ⟨_, rfl, _, rfl, _, _, rfl, fun H2 s2 => ?_⟩
      refine ⟨sm.trans s2, some (.int b), ?_⟩
      rw [List.foldl_append]
      rfl
    · obtain ⟨sm, x, rfl⟩ := h
      exact ⟨_, rfl, q _ sm⟩
def sp_z_law_or : Sp := fun vs H Q _ => ∃ a b : Int, vs = [.int a, .int b] ∧ Q (.int (Builtin.bitXor a b)) H
theorem ok_z_law_or (T : Txt K mg ad) : FnOk P w K mg base CX0 1 ad.f_z_law_or ad.d_z_law_or ["_law_a", "_law_b"]  sp_z_law_or := by
  refine T.F_z_law_or.ok sc_z_law_or (fun vs H Q E h => ?_) (fun cdv A outer s H vs Q E hr h => ?_)
  · obtain ⟨a, b, rfl, _⟩ := h; rfl
  · obtain ⟨a, b, rfl, q⟩ := h
    refine ⟨_, (pss_one (ps_ret (pe_op op_sub (pe_op op_or (pv 0) (pv 1)) (pe_op op_and (pv 0) (pv 1))))), ?_⟩
    walk_at "rd"
    show Q (.int (Builtin.bitOr a b - Builtin.bitAnd a b)) H
    rw [bitOr_and, show a + b - Builtin.bitAnd a b - Builtin.bitAnd a b = Builtin.bitXor a b by rw [bitXor_and]; omega]
    exact q
theorem bit15 {n : Int} (h0 : 0 ≤ n) (h1 : n < 65536) : Builtin.bitAnd (n / 2 ^ (15 : Int).toNat) 1 = n / 32768 := by
  rw [bitAnd_m1]
  have : (2 : Int) ^ (15 : Int).toNat = 32768 := by decide
  rw [this]
  omega
theorem shl1 {n : Int} (h0 : 0 ≤ n) : Builtin.bitAnd (n * 2 ^ (1 : Int).toNat) 65535 = 2 * n % 65536 := by
  have e : (2 : Int) ^ (1 : Int).toNat = 2 := by decide
  rw [e, show (65535 : Int) = 2 ^ 16 - 1 by decide, Bits.bitAnd_mask 16 (by omega), Int.mul_comm]
  rfl
theorem stepB_lt {n b : Int} (h0 : 0 ≤ n) (h1 : n < 65536) : 0 ≤ stepB n b ∧ stepB n b < 65536 := by
  unfold stepB
  have a0 : 0 ≤ 2 * n % 65536 := Int.emod_nonneg _ (by decide)
  have a1 : 2 * n % 65536 < 65536 := Int.emod_lt_of_pos _ (by decide)
  split
  · exact ⟨a0, a1⟩
  · refine ⟨Bits.bitXor_nonneg a0 (by decide), ?_⟩
    rw [Bits.bitXor_pp a0 (by decide)]
    have := Nat.xor_lt_two_pow (n := 16) (x := (2 * n % 65536).toNat) (y := (4129 : Int).toNat) (by omega) (by decide)
    omega
theorem bitsM_at (v : Int) : bitsM v = [v / 128 % 2, v / 64 % 2, v / 32 % 2, v / 16 % 2, v / 8 % 2, v / 4 % 2, v / 2 % 2, v / 1 % 2] := rfl
theorem bitsM_get (v : Int) {i : Nat} (h : i < 8) : (bitsM v)[i]? = some (v / 2 ^ (7 - (i : Int)).toNat % 2) := by
  have : i = 0 ∨ i = 1 ∨ i = 2 ∨ i = 3 ∨ i = 4 ∨ i = 5 ∨ i = 6 ∨ i = 7 := by omega
  rcases this with rfl | rfl | rfl | rfl | rfl | rfl | rfl | rfl <;> rfl
theorem stepM_lt {n v : Int} (h0 : 0 ≤ n) (h1 : n < 65536) : 0 ≤ stepM n v ∧ stepM n v < 65536 := by
  unfold stepM
  generalize bitsM v = l
  induction l generalizing n with
  | nil => exact ⟨h0, h1⟩
  | cons b l ih => obtain ⟨a, c⟩ := stepB_lt (b := b) h0 h1; exact ih a c
theorem crcFrom_lt {ns : List Int} : ∀ {n : Int}, 0 ≤ n → n < 65536 → 0 ≤ ns.foldl stepM n ∧ ns.foldl stepM n < 65536 := by
  induction ns with
  | nil => exact fun h0 h1 => ⟨h0, h1⟩
  | cons v l ih => exact fun h0 h1 => ih (stepM_lt h0 h1).1 (stepM_lt h0 h1).2
theorem crcM_lt (ns : List Int) : 0 ≤ crcM ns ∧ crcM ns < 65536 := crcFrom_lt (by decide) (by decide)
theorem stepsB_lt {l : List Int} : ∀ {n : Int}, 0 ≤ n → n < 65536 → 0 ≤ l.foldl stepB n ∧ l.foldl stepB n < 65536 := by
  induction l with
  | nil => exact fun h0 h1 => ⟨h0, h1⟩
  | cons v l ih => exact fun h0 h1 => ih (stepB_lt h0 h1).1 (stepB_lt h0 h1).2
def sp_z_law_check (K : PySem.W.Frag) : Sp := fun vs H Q _ => ∃ (a : Addr) (ns : List Int), vs = [.ref a] ∧ SqL K H a (ns.map V.int) ∧ (∀ n ∈ ns, Byte n) ∧ Q (.int (crcM ns)) H
theorem ok_z_law_check (T : Txt K mg ad) : FnOk P w K mg base CX0 2 ad.f_z_law_check ad.d_z_law_check ["_law_values"]  (sp_z_law_check K) := by
  refine T.F_z_law_check.ok sc_z_law_check (fun vs H Q E h => ?_) (fun cdv A outer s H vs Q E hr h => ?_)
  · obtain ⟨a, ns, rfl, _⟩ := h; rfl
  · obtain ⟨a, ns, rfl, hl, hb, q⟩ := h
    refine ⟨_, (pss_cons (ps_set (i := 1) sc_z_law_check.nd rfl (.inl rfl) pe_int)
      (pss_cons (ps_for PassesOwn.never rfl (pi_listK K (hl := (pv 0))) (pg_name (i := 2) sc_z_law_check.nd rfl (.inl rfl))
      (pss_one (ps_for PassesOwn.never rfl (pi_range1 (by rfl) T.n_range (pa_cons pe_int pa_nil)) (pg_name (i := 3) sc_z_law_check.nd rfl (.inl rfl))
      (pss_cons (ps_set (i := 4) sc_z_law_check.nd rfl (.inl rfl) (pe_op op_and (pe_op op_shr (pv 1) pe_int) pe_int))
      (pss_cons (ps_set (i := 1) sc_z_law_check.nd rfl (.inl rfl) (pe_op op_and (pe_op op_shl (pv 1) pe_int) pe_int))
      (pss_one (ps_if (pt_cmpR op_ne (pv 4) (pe_op op_and (pe_op op_shr (pv 2) (pe_op op_sub pe_int (pv 3))) pe_int) (nomark _))
      (pss_one (ps_set (i := 1) sc_z_law_check.nd rfl (.inl rfl) (pe_call (ok_z_law_or (K := K) T) (hr.mono (by decide)) rfl T.g_z_law_or T.F_z_law_or.kp T.b_z_law_or .nil pass0 (pa_cons (pv 1) (pa_cons pe_int pa_nil)))))
      pss_nil)))))))
      (pss_one (ps_ret (pv 1))))), ?_⟩
    refine ⟨_, rfl, a, rfl, ⟨_, hl⟩, for_pre (K := K) (ns := ns) (emb := V.int) (fun pre σ H' => H' = H ∧ ∃ n x y z, σ = [some (.ref a), some (.int n), x, y, z] ∧ n = pre.foldl stepM 65535) ⟨rfl, _, _, _, _, rfl, rfl⟩ (fun pre σ H' h => h.1 ▸ hl) (fun pre v post σ H' hpre h => ?_) (fun σ H' h => ?_)⟩
    · obtain ⟨rfl, n, x, y, z, rfl, hn⟩ := h
      have hn := hn.symm
      have hv : Byte v := hb v (by rw [hpre]; simp)
      obtain ⟨c0, c1⟩ := crcFrom_lt (ns := pre) (n := 65535) (by decide) (by decide)
      rw [hn] at c0 c1
      walk_at "rd"
      refine for_range (lo := 0) (n := 8) (fun i σ H'' => H'' = H' ∧ ∃ m y z, σ = [some (.ref a), some (.int m), some (.int v), y, z] ∧ m = ((bitsM v).take i).foldl stepB n) ⟨rfl, _, _, _, rfl, rfl⟩ (fun i σ H'' hi h => ?_) (fun σ H'' h => ?_)
      · obtain ⟨rfl, m, y, z, rfl, em⟩ := h
        obtain ⟨d0, d1⟩ := stepsB_lt (l := (bitsM v).take i) c0 c1
        have eb := bitsM_get v hi
        rw [take_more eb, List.foldl_append, ← em]
        rw [← em] at d0 d1
        have e1 := bit15 d0 d1
        have e2 := shl1 d0
        have e3 := bitAnd_m1 (v / 2 ^ (7 - (0 + (i : Int))).toNat)
        rw [show (7 - (0 + (i : Int))) = 7 - (i : Int) by omega] at e3
        walk_at "rd"
        refine iteIn (fun c => ?_) (fun c => ?_)
        · rw [show (7 - (0 + (i : Int))) = 7 - (i : Int) by omega, e1, e3] at c
          walk_at "rd"
          refine ⟨_, _, _, rfl, ?_⟩
          show _ = stepB m _
          rw [show stepB m _ = _ from if_neg c, e2]
        · rw [show (7 - (0 + (i : Int))) = 7 - (i : Int) by omega, e1, e3] at c
          refine ⟨rfl, _, _, _, rfl, ?_⟩
          show _ = stepB m _
          rw [show stepB m _ = _ from if_pos c, ← e2]
      · obtain ⟨rfl, m, y, z, rfl, em⟩ := h
        refine ⟨rfl, m, _, _, _, rfl, ?_⟩
        rw [List.foldl_append, hn, em]
        rfl
    · obtain ⟨rfl, n, x, y, z, rfl, en⟩ := h
      walk_at "rd"
      subst en
      exact q
def sp_law (K : PySem.W.Frag) : Sp := fun vs H Q _ => ∃ (a : Addr) (ns : List Int), vs = [.ref a] ∧ SqL K H a (ns.map V.int) ∧ ns.length ≤ 63 ∧ ∀ H', Q (.bl true) H'
theorem ok_law (T : Txt K mg ad) : FnOk P w K mg base CX0 9 ad.f_law ad.d_law ["_law_script"]  (sp_law K) := by
  refine T.F_law.ok sc_law (fun vs H Q E h => ?_) (fun cdv A outer s H vs Q E hr h => ?_)
  · obtain ⟨a, ns, rfl, _⟩ := h; rfl
  · obtain ⟨a, ns, rfl, hl, hlen, q⟩ := h
    refine ⟨_, (pss_cons (ps_set (i := 1) sc_law.nd rfl (.inl rfl) (pe_call (ok_z_law_pool (K := K) T) (hr.mono (by decide)) rfl T.g_z_law_pool T.F_z_law_pool.kp T.b_z_law_pool .nil pass0 (pa_cons (pv 0) pa_nil)))
      (pss_cons (ps_for PassesOwn.never rfl (pi_range1 (by rfl) T.n_range (pa_cons pe_int pa_nil)) (pg_name (i := 2) sc_law.nd rfl (.inl rfl))
      (pss_cons (ps_set (i := 3) sc_law.nd rfl (.inl rfl) (pe_call (ok_z_law_some_bytes (K := K) T) (hr.mono (by decide)) rfl T.g_z_law_some_bytes T.F_z_law_some_bytes.kp T.b_z_law_some_bytes .nil pass0 (pa_cons (pv 1) (pa_cons pe_int pa_nil))))
      (pss_cons (ps_set (i := 4) sc_law.nd rfl (.inl rfl) (pe_callTy (call_listK K) (by rfl) T.n_list (by decide +kernel) (pa_cons (pv 3) pa_nil)))
      (pss_one (ps_if (PW.pt (pw_or (pt_not (pt_val (pe_call (ok_z_law_same (K := K) T) (hr.mono (by decide)) rfl T.g_z_law_same T.F_z_law_same.kp T.b_z_law_same .nil pass0 (pa_cons (pe_call (ok_crc (K := K) T) (hr.mono (by decide)) rfl T.g_crc T.F_crc.kp T.b_crc .nil pass0 (pa_cons (pv 3) pa_nil)) (pa_cons (pe_call (ok_z_law_check (K := K) T) (hr.mono (by decide)) rfl T.g_z_law_check T.F_z_law_check.kp T.b_z_law_check .nil pass0 (pa_cons (pv 3) pa_nil)) pa_nil))))) (pw_or1 (pt_cmpR (op_neDK K (hu := hr.units)) (pv 3) (pv 4) (nomark _)))))
      (pss_one (ps_ret pe_bl))
      pss_nil)))))
      (pss_one (ps_ret (pe_call (ok_z_law_same (K := K) T) (hr.mono (by decide)) rfl T.g_z_law_same T.F_z_law_same.kp T.b_z_law_same .nil pass0 (pa_cons (pe_call (ok_crc (K := K) T) (hr.mono (by decide)) rfl T.g_crc T.F_crc.kp T.b_crc .nil pass0 (pa_cons (pe_lst pa_nil) pa_nil)) (pa_cons pe_int pa_nil))))))), ?_⟩
    refine ⟨_, rfl, a, ns, rfl, hl, fun H1 p l s1 np nl hp => ?_⟩
    refine ⟨3, rfl, by decide, by decide, for_range (lo := 0) (n := 3) (fun i σ H' => PoolAt H' p l ns ∧ ∃ x y z, σ = [some (.ref a), some (.ref p), x, y, z]) ⟨hp, _, _, _, rfl⟩ (fun i σ H' hi h => ?_) (fun σ H' h => ?_)⟩
    · obtain ⟨hp', x, y, z, rfl⟩ := h
      walk_at "rd"
      refine ⟨p, l, ns, _, rfl, hp', by decide, by decide, fun bs r H2 hb hbl hp2 b2 hr2 hr => ?_⟩
      have hz : bs.length < 16777216 := by omega
      walk_at "rd"
      refine fun k nk => ?_
      have nrk : r ≠ k := ne_of_none hr nk
      have hk : upd H2 k (.lst (bs.map V.int)) k = some (.lst (bs.map V.int)) := upd_same
      have hr' : upd H2 k (.lst (bs.map V.int)) r = some (.lst (bs.map V.int)) := by rw [upd_ne nrk]; exact hr
      walk_at "rd"
      refine ⟨r, bs, rfl, SqL.of hr', fun H3 s3 => ?_⟩
      walk_at "rd"
      refine ⟨r, bs, rfl, s3.seq (SqL.of hr'), hb, ?_⟩
      refine ⟨_, _, rfl, SameAt.scal True.intro, ?_⟩
      walk_at "rd"
      refine ned_ll (s3.seq (SqL.of hr')) (s3.seq (SqL.of hk)) ?_
      rw [decide_eq_true rfl]
      walk_at "rd"
      exact ⟨((hp2.new nk).same s3), _, _, _, rfl⟩
    · obtain ⟨hp', x, y, z, rfl⟩ := h
      walk_at "rd"
      refine fun t nt => ?_
      walk_at "rd"
      refine ⟨t, [], rfl, SqL.of upd_same, fun H3 s3 => ?_⟩
      exact ⟨_, _, rfl, SameAt.scal True.intro, q _⟩
end
theorem all_mk {l : PySem.W.OpenLaw} {w : World} {K : PySem.W.Frag} {h : Heap} {mg : Str → Option Value} {fa : Addr} (X : K.In h) (G : h.Ns mainGlobals mg) (hfa : mg "law" = some (.ref fa))
    {f_z_law_pool : Addr} {od_z_law_pool an_z_law_pool : Option Addr} {sl_z_law_pool : Array (Option Value)} {oc_z_law_pool kV_z_law_pool dc_z_law_pool pm_z_law_pool cd_z_law_pool ct_z_law_pool : Value}
    {f_z_law_same : Addr} {od_z_law_same an_z_law_same : Option Addr} {sl_z_law_same : Array (Option Value)} {oc_z_law_same kV_z_law_same dc_z_law_same pm_z_law_same cd_z_law_same ct_z_law_same : Value}
    {f_z_law_spread : Addr} {od_z_law_spread an_z_law_spread : Option Addr} {sl_z_law_spread : Array (Option Value)} {oc_z_law_spread kV_z_law_spread dc_z_law_spread pm_z_law_spread cd_z_law_spread ct_z_law_spread : Value}
    {f_z_law_draw : Addr} {od_z_law_draw an_z_law_draw : Option Addr} {sl_z_law_draw : Array (Option Value)} {oc_z_law_draw kV_z_law_draw dc_z_law_draw pm_z_law_draw cd_z_law_draw ct_z_law_draw : Value}
    {f_z_law_some_bytes : Addr} {od_z_law_some_bytes an_z_law_some_bytes : Option Addr} {sl_z_law_some_bytes : Array (Option Value)} {oc_z_law_some_bytes kV_z_law_some_bytes dc_z_law_some_bytes pm_z_law_some_bytes cd_z_law_some_bytes ct_z_law_some_bytes : Value}
    {f_byte_bits : Addr} {od_byte_bits an_byte_bits : Option Addr} {sl_byte_bits : Array (Option Value)} {oc_byte_bits kV_byte_bits dc_byte_bits pm_byte_bits cd_byte_bits ct_byte_bits : Value}
    {f_exclusive : Addr} {od_exclusive an_exclusive : Option Addr} {sl_exclusive : Array (Option Value)} {oc_exclusive kV_exclusive dc_exclusive pm_exclusive cd_exclusive ct_exclusive : Value}
    {f_step : Addr} {od_step an_step : Option Addr} {sl_step : Array (Option Value)} {oc_step kV_step dc_step pm_step cd_step ct_step : Value}
    {f_crc : Addr} {od_crc an_crc : Option Addr} {sl_crc : Array (Option Value)} {oc_crc kV_crc dc_crc pm_crc cd_crc ct_crc : Value}
    {f_z_law_or : Addr} {od_z_law_or an_z_law_or : Option Addr} {sl_z_law_or : Array (Option Value)} {oc_z_law_or kV_z_law_or dc_z_law_or pm_z_law_or cd_z_law_or ct_z_law_or : Value}
    {f_z_law_check : Addr} {od_z_law_check an_z_law_check : Option Addr} {sl_z_law_check : Array (Option Value)} {oc_z_law_check kV_z_law_check dc_z_law_check pm_z_law_check cd_z_law_check ct_z_law_check : Value}
    {f_law : Addr} {od_law an_law : Option Addr} {sl_law : Array (Option Value)} {oc_law kV_law dc_law pm_law cd_law ct_law : Value}
    {a_BIT_WEIGHTS : Addr} {t0_BIT_WEIGHTS t1_BIT_WEIGHTS t2_BIT_WEIGHTS t3_BIT_WEIGHTS t4_BIT_WEIGHTS t5_BIT_WEIGHTS t6_BIT_WEIGHTS t7_BIT_WEIGHTS : Tok} {od_BIT_WEIGHTS : Option Addr} {n_BIT_WEIGHTS : Nat} {sl_BIT_WEIGHTS : Array (Option Value)}
    {t_CRC_START : Tok}
    {t_CRC_MASK : Tok}
    {t_WORD : Tok}
    {t_TOP : Tok}
    (a_z_law_pool : PySem.W.nsIn K mainGlobals "_law_pool" = some (some (.ref f_z_law_pool)))
    (l_z_law_pool : K.lookup f_z_law_pool = some ⟨oc_z_law_pool, od_z_law_pool, .func (PySem.W.fnOf "_law_pool" "_law_pool" (defArgs s_z_law_pool) (defBody s_z_law_pool) (defScope s_z_law_pool) .none kV_z_law_pool dc_z_law_pool pm_z_law_pool an_z_law_pool cd_z_law_pool ct_z_law_pool), sl_z_law_pool⟩)
    (c_z_law_pool : PySem.W.codeIn K cd_z_law_pool "_law_pool" = true)
    (k_z_law_pool : PySem.W.keepIn K (.ref f_z_law_pool) = true)
    (a_z_law_same : PySem.W.nsIn K mainGlobals "_law_same" = some (some (.ref f_z_law_same)))
    (l_z_law_same : K.lookup f_z_law_same = some ⟨oc_z_law_same, od_z_law_same, .func (PySem.W.fnOf "_law_same" "_law_same" (defArgs s_z_law_same) (defBody s_z_law_same) (defScope s_z_law_same) .none kV_z_law_same dc_z_law_same pm_z_law_same an_z_law_same cd_z_law_same ct_z_law_same), sl_z_law_same⟩)
    (c_z_law_same : PySem.W.codeIn K cd_z_law_same "_law_same" = true)
    (k_z_law_same : PySem.W.keepIn K (.ref f_z_law_same) = true)
    (a_z_law_spread : PySem.W.nsIn K mainGlobals "_law_spread" = some (some (.ref f_z_law_spread)))
    (l_z_law_spread : K.lookup f_z_law_spread = some ⟨oc_z_law_spread, od_z_law_spread, .func (PySem.W.fnOf "_law_spread" "_law_spread" (defArgs s_z_law_spread) (defBody s_z_law_spread) (defScope s_z_law_spread) .none kV_z_law_spread dc_z_law_spread pm_z_law_spread an_z_law_spread cd_z_law_spread ct_z_law_spread), sl_z_law_spread⟩)
    (c_z_law_spread : PySem.W.codeIn K cd_z_law_spread "_law_spread" = true)
    (k_z_law_spread : PySem.W.keepIn K (.ref f_z_law_spread) = true)
    (a_z_law_draw : PySem.W.nsIn K mainGlobals "_law_draw" = some (some (.ref f_z_law_draw)))
    (l_z_law_draw : K.lookup f_z_law_draw = some ⟨oc_z_law_draw, od_z_law_draw, .func (PySem.W.fnOf "_law_draw" "_law_draw" (defArgs s_z_law_draw) (defBody s_z_law_draw) (defScope s_z_law_draw) .none kV_z_law_draw dc_z_law_draw pm_z_law_draw an_z_law_draw cd_z_law_draw ct_z_law_draw), sl_z_law_draw⟩)
    (c_z_law_draw : PySem.W.codeIn K cd_z_law_draw "_law_draw" = true)
    (k_z_law_draw : PySem.W.keepIn K (.ref f_z_law_draw) = true)
    (a_z_law_some_bytes : PySem.W.nsIn K mainGlobals "_law_some_bytes" = some (some (.ref f_z_law_some_bytes)))
    (l_z_law_some_bytes : K.lookup f_z_law_some_bytes = some ⟨oc_z_law_some_bytes, od_z_law_some_bytes, .func (PySem.W.fnOf "_law_some_bytes" "_law_some_bytes" (defArgs s_z_law_some_bytes) (defBody s_z_law_some_bytes) (defScope s_z_law_some_bytes) .none kV_z_law_some_bytes dc_z_law_some_bytes pm_z_law_some_bytes an_z_law_some_bytes cd_z_law_some_bytes ct_z_law_some_bytes), sl_z_law_some_bytes⟩)
    (c_z_law_some_bytes : PySem.W.codeIn K cd_z_law_some_bytes "_law_some_bytes" = true)
    (k_z_law_some_bytes : PySem.W.keepIn K (.ref f_z_law_some_bytes) = true)
    (a_byte_bits : PySem.W.nsIn K mainGlobals "byte_bits" = some (some (.ref f_byte_bits)))
    (l_byte_bits : K.lookup f_byte_bits = some ⟨oc_byte_bits, od_byte_bits, .func (PySem.W.fnOf "byte_bits" "byte_bits" (defArgs s_byte_bits) (defBody s_byte_bits) (defScope s_byte_bits) .none kV_byte_bits dc_byte_bits pm_byte_bits an_byte_bits cd_byte_bits ct_byte_bits), sl_byte_bits⟩)
    (c_byte_bits : PySem.W.codeIn K cd_byte_bits "byte_bits" = true)
    (k_byte_bits : PySem.W.keepIn K (.ref f_byte_bits) = true)
    (a_exclusive : PySem.W.nsIn K mainGlobals "exclusive" = some (some (.ref f_exclusive)))
    (l_exclusive : K.lookup f_exclusive = some ⟨oc_exclusive, od_exclusive, .func (PySem.W.fnOf "exclusive" "exclusive" (defArgs s_exclusive) (defBody s_exclusive) (defScope s_exclusive) .none kV_exclusive dc_exclusive pm_exclusive an_exclusive cd_exclusive ct_exclusive), sl_exclusive⟩)
    (c_exclusive : PySem.W.codeIn K cd_exclusive "exclusive" = true)
    (k_exclusive : PySem.W.keepIn K (.ref f_exclusive) = true)
    (a_step : PySem.W.nsIn K mainGlobals "step" = some (some (.ref f_step)))
    (l_step : K.lookup f_step = some ⟨oc_step, od_step, .func (PySem.W.fnOf "step" "step" (defArgs s_step) (defBody s_step) (defScope s_step) .none kV_step dc_step pm_step an_step cd_step ct_step), sl_step⟩)
    (c_step : PySem.W.codeIn K cd_step "step" = true)
    (k_step : PySem.W.keepIn K (.ref f_step) = true)
    (a_crc : PySem.W.nsIn K mainGlobals "crc" = some (some (.ref f_crc)))
    (l_crc : K.lookup f_crc = some ⟨oc_crc, od_crc, .func (PySem.W.fnOf "crc" "crc" (defArgs s_crc) (defBody s_crc) (defScope s_crc) .none kV_crc dc_crc pm_crc an_crc cd_crc ct_crc), sl_crc⟩)
    (c_crc : PySem.W.codeIn K cd_crc "crc" = true)
    (k_crc : PySem.W.keepIn K (.ref f_crc) = true)
    (a_z_law_or : PySem.W.nsIn K mainGlobals "_law_or" = some (some (.ref f_z_law_or)))
    (l_z_law_or : K.lookup f_z_law_or = some ⟨oc_z_law_or, od_z_law_or, .func (PySem.W.fnOf "_law_or" "_law_or" (defArgs s_z_law_or) (defBody s_z_law_or) (defScope s_z_law_or) .none kV_z_law_or dc_z_law_or pm_z_law_or an_z_law_or cd_z_law_or ct_z_law_or), sl_z_law_or⟩)
    (c_z_law_or : PySem.W.codeIn K cd_z_law_or "_law_or" = true)
    (k_z_law_or : PySem.W.keepIn K (.ref f_z_law_or) = true)
    (a_z_law_check : PySem.W.nsIn K mainGlobals "_law_check" = some (some (.ref f_z_law_check)))
    (l_z_law_check : K.lookup f_z_law_check = some ⟨oc_z_law_check, od_z_law_check, .func (PySem.W.fnOf "_law_check" "_law_check" (defArgs s_z_law_check) (defBody s_z_law_check) (defScope s_z_law_check) .none kV_z_law_check dc_z_law_check pm_z_law_check an_z_law_check cd_z_law_check ct_z_law_check), sl_z_law_check⟩)
    (c_z_law_check : PySem.W.codeIn K cd_z_law_check "_law_check" = true)
    (k_z_law_check : PySem.W.keepIn K (.ref f_z_law_check) = true)
    (a_law : PySem.W.nsIn K mainGlobals "law" = some (some (.ref f_law)))
    (l_law : K.lookup f_law = some ⟨oc_law, od_law, .func (PySem.W.fnOf "law" "law" (defArgs s_law) (defBody s_law) (defScope s_law) .none kV_law dc_law pm_law an_law cd_law ct_law), sl_law⟩)
    (c_law : PySem.W.codeIn K cd_law "law" = true)
    (k_law : PySem.W.keepIn K (.ref f_law) = true)
    (z_bool : PySem.W.nsIn K mainGlobals "bool" = some none)
    (z_int : PySem.W.nsIn K mainGlobals "int" = some none)
    (z_isinstance : PySem.W.nsIn K mainGlobals "isinstance" = some none)
    (z_len : PySem.W.nsIn K mainGlobals "len" = some none)
    (z_list : PySem.W.nsIn K mainGlobals "list" = some none)
    (z_range : PySem.W.nsIn K mainGlobals "range" = some none)
    (z_str : PySem.W.nsIn K mainGlobals "str" = some none)
    (z_tuple : PySem.W.nsIn K mainGlobals "tuple" = some none)
    (ns_BIT_WEIGHTS : PySem.W.nsIn K mainGlobals "BIT_WEIGHTS" = some (some (.ref a_BIT_WEIGHTS)))
    (l_BIT_WEIGHTS : K.lookup a_BIT_WEIGHTS = some ⟨.type "tuple", od_BIT_WEIGHTS, .seq #[.int 128 t0_BIT_WEIGHTS, .int 64 t1_BIT_WEIGHTS, .int 32 t2_BIT_WEIGHTS, .int 16 t3_BIT_WEIGHTS, .int 8 t4_BIT_WEIGHTS, .int 4 t5_BIT_WEIGHTS, .int 2 t6_BIT_WEIGHTS, .int 1 t7_BIT_WEIGHTS] n_BIT_WEIGHTS, sl_BIT_WEIGHTS⟩)
    (a_CRC_START : PySem.W.nsIn K mainGlobals "CRC_START" = some (some (.int (65535) t_CRC_START)))
    (a_CRC_MASK : PySem.W.nsIn K mainGlobals "CRC_MASK" = some (some (.int (4129) t_CRC_MASK)))
    (a_WORD : PySem.W.nsIn K mainGlobals "WORD" = some (some (.int (65536) t_WORD)))
    (a_TOP : PySem.W.nsIn K mainGlobals "TOP" = some (some (.int (32768) t_TOP))) :
    ∃ fd : FuncData, (∀ (s : Shared) (v : Value), BindsTo s fd ⟨[v], []⟩ [("_law_script", v)]) ∧ ∀ base : Heap, K.In base → base.Ns mainGlobals mg → FnOk l.prog w K mg base CX0 9 fa fd ["_law_script"] (sp_law K) := by
  have e := hfa.symm.trans (PySem.W.mg_of X G a_law)
  cases e
  have T : Txt K mg (Ad.mk f_z_law_pool (PySem.W.fnOf "_law_pool" "_law_pool" (defArgs s_z_law_pool) (defBody s_z_law_pool) (defScope s_z_law_pool) .none kV_z_law_pool dc_z_law_pool pm_z_law_pool an_z_law_pool cd_z_law_pool ct_z_law_pool) f_z_law_same (PySem.W.fnOf "_law_same" "_law_same" (defArgs s_z_law_same) (defBody s_z_law_same) (defScope s_z_law_same) .none kV_z_law_same dc_z_law_same pm_z_law_same an_z_law_same cd_z_law_same ct_z_law_same) f_z_law_spread (PySem.W.fnOf "_law_spread" "_law_spread" (defArgs s_z_law_spread) (defBody s_z_law_spread) (defScope s_z_law_spread) .none kV_z_law_spread dc_z_law_spread pm_z_law_spread an_z_law_spread cd_z_law_spread ct_z_law_spread) f_z_law_draw (PySem.W.fnOf "_law_draw" "_law_draw" (defArgs s_z_law_draw) (defBody s_z_law_draw) (defScope s_z_law_draw) .none kV_z_law_draw dc_z_law_draw pm_z_law_draw an_z_law_draw cd_z_law_draw ct_z_law_draw) f_z_law_some_bytes (PySem.W.fnOf "_law_some_bytes" "_law_some_bytes" (defArgs s_z_law_some_bytes) (defBody s_z_law_some_bytes) (defScope s_z_law_some_bytes) .none kV_z_law_some_bytes dc_z_law_some_bytes pm_z_law_some_bytes an_z_law_some_bytes cd_z_law_some_bytes ct_z_law_some_bytes) f_byte_bits (PySem.W.fnOf "byte_bits" "byte_bits" (defArgs s_byte_bits) (defBody s_byte_bits) (defScope s_byte_bits) .none kV_byte_bits dc_byte_bits pm_byte_bits an_byte_bits cd_byte_bits ct_byte_bits) f_exclusive (PySem.W.fnOf "exclusive" "exclusive" (defArgs s_exclusive) (defBody s_exclusive) (defScope s_exclusive) .none kV_exclusive dc_exclusive pm_exclusive an_exclusive cd_exclusive ct_exclusive) f_step (PySem.W.fnOf "step" "step" (defArgs s_step) (defBody s_step) (defScope s_step) .none kV_step dc_step pm_step an_step cd_step ct_step) f_crc (PySem.W.fnOf "crc" "crc" (defArgs s_crc) (defBody s_crc) (defScope s_crc) .none kV_crc dc_crc pm_crc an_crc cd_crc ct_crc) f_z_law_or (PySem.W.fnOf "_law_or" "_law_or" (defArgs s_z_law_or) (defBody s_z_law_or) (defScope s_z_law_or) .none kV_z_law_or dc_z_law_or pm_z_law_or an_z_law_or cd_z_law_or ct_z_law_or) f_z_law_check (PySem.W.fnOf "_law_check" "_law_check" (defArgs s_z_law_check) (defBody s_z_law_check) (defScope s_z_law_check) .none kV_z_law_check dc_z_law_check pm_z_law_check an_z_law_check cd_z_law_check ct_z_law_check) fa (PySem.W.fnOf "law" "law" (defArgs s_law) (defBody s_law) (defScope s_law) .none kV_law dc_law pm_law an_law cd_law ct_law) a_BIT_WEIGHTS t_CRC_START t_CRC_MASK t_WORD t_TOP) := {
    F_z_law_pool := fun_mk (st := s_z_law_pool) l_z_law_pool c_z_law_pool k_z_law_pool,
    g_z_law_pool := PySem.W.mg_of X G a_z_law_pool,
    b_z_law_pool := (fun_mk (st := s_z_law_pool) l_z_law_pool c_z_law_pool k_z_law_pool).binds (ps := ["_law_script"]) fun _ _ _ _ _ _ us hl => match us, hl with | [_], _ => rfl,
    F_z_law_same := fun_mk (st := s_z_law_same) l_z_law_same c_z_law_same k_z_law_same,
    g_z_law_same := PySem.W.mg_of X G a_z_law_same,
    b_z_law_same := (fun_mk (st := s_z_law_same) l_z_law_same c_z_law_same k_z_law_same).binds (ps := ["_law_actual", "_law_due"]) fun _ _ _ _ _ _ us hl => match us, hl with | [_, _], _ => rfl,
    F_z_law_spread := fun_mk (st := s_z_law_spread) l_z_law_spread c_z_law_spread k_z_law_spread,
    g_z_law_spread := PySem.W.mg_of X G a_z_law_spread,
    b_z_law_spread := (fun_mk (st := s_z_law_spread) l_z_law_spread c_z_law_spread k_z_law_spread).binds (ps := ["_law_cell"]) fun _ _ _ _ _ _ us hl => match us, hl with | [_], _ => rfl,
    F_z_law_draw := fun_mk (st := s_z_law_draw) l_z_law_draw c_z_law_draw k_z_law_draw,
    g_z_law_draw := PySem.W.mg_of X G a_z_law_draw,
    b_z_law_draw := (fun_mk (st := s_z_law_draw) l_z_law_draw c_z_law_draw k_z_law_draw).binds (ps := ["_law_pool_here", "_law_many"]) fun _ _ _ _ _ _ us hl => match us, hl with | [_, _], _ => rfl,
    F_z_law_some_bytes := fun_mk (st := s_z_law_some_bytes) l_z_law_some_bytes c_z_law_some_bytes k_z_law_some_bytes,
    g_z_law_some_bytes := PySem.W.mg_of X G a_z_law_some_bytes,
    b_z_law_some_bytes := (fun_mk (st := s_z_law_some_bytes) l_z_law_some_bytes c_z_law_some_bytes k_z_law_some_bytes).binds (ps := ["_law_pool_here", "_law_most"]) fun _ _ _ _ _ _ us hl => match us, hl with | [_, _], _ => rfl,
    F_byte_bits := fun_mk (st := s_byte_bits) l_byte_bits c_byte_bits k_byte_bits,
    g_byte_bits := PySem.W.mg_of X G a_byte_bits,
    b_byte_bits := (fun_mk (st := s_byte_bits) l_byte_bits c_byte_bits k_byte_bits).binds (ps := ["value"]) fun _ _ _ _ _ _ us hl => match us, hl with | [_], _ => rfl,
    F_exclusive := fun_mk (st := s_exclusive) l_exclusive c_exclusive k_exclusive,
    g_exclusive := PySem.W.mg_of X G a_exclusive,
    b_exclusive := (fun_mk (st := s_exclusive) l_exclusive c_exclusive k_exclusive).binds (ps := ["first", "second"]) fun _ _ _ _ _ _ us hl => match us, hl with | [_, _], _ => rfl,
    F_step := fun_mk (st := s_step) l_step c_step k_step,
    g_step := PySem.W.mg_of X G a_step,
    b_step := (fun_mk (st := s_step) l_step c_step k_step).binds (ps := ["number", "value"]) fun _ _ _ _ _ _ us hl => match us, hl with | [_, _], _ => rfl,
    F_crc := fun_mk (st := s_crc) l_crc c_crc k_crc,
    g_crc := PySem.W.mg_of X G a_crc,
    b_crc := (fun_mk (st := s_crc) l_crc c_crc k_crc).binds (ps := ["values"]) fun _ _ _ _ _ _ us hl => match us, hl with | [_], _ => rfl,
    F_z_law_or := fun_mk (st := s_z_law_or) l_z_law_or c_z_law_or k_z_law_or,
    g_z_law_or := PySem.W.mg_of X G a_z_law_or,
    b_z_law_or := (fun_mk (st := s_z_law_or) l_z_law_or c_z_law_or k_z_law_or).binds (ps := ["_law_a", "_law_b"]) fun _ _ _ _ _ _ us hl => match us, hl with | [_, _], _ => rfl,
    F_z_law_check := fun_mk (st := s_z_law_check) l_z_law_check c_z_law_check k_z_law_check,
    g_z_law_check := PySem.W.mg_of X G a_z_law_check,
    b_z_law_check := (fun_mk (st := s_z_law_check) l_z_law_check c_z_law_check k_z_law_check).binds (ps := ["_law_values"]) fun _ _ _ _ _ _ us hl => match us, hl with | [_], _ => rfl,
    F_law := fun_mk (st := s_law) l_law c_law k_law,
    g_law := PySem.W.mg_of X G a_law,
    b_law := (fun_mk (st := s_law) l_law c_law k_law).binds (ps := ["_law_script"]) fun _ _ _ _ _ _ us hl => match us, hl with | [_], _ => rfl,
    n_bool := PySem.W.mg_none_of X G z_bool,
    n_int := PySem.W.mg_none_of X G z_int,
    n_isinstance := PySem.W.mg_none_of X G z_isinstance,
    n_len := PySem.W.mg_none_of X G z_len,
    n_list := PySem.W.mg_none_of X G z_list,
    n_range := PySem.W.mg_none_of X G z_range,
    n_str := PySem.W.mg_none_of X G z_str,
    n_tuple := PySem.W.mg_none_of X G z_tuple,
    g_BIT_WEIGHTS := PySem.W.mg_of X G ns_BIT_WEIGHTS,
    q_BIT_WEIGHTS := fun _ => .inr ⟨_, _, _, l_BIT_WEIGHTS, rfl, rfl, (by show 8 ≤ sizeLine; decide), (.cons ⟨_, rfl⟩ (.cons ⟨_, rfl⟩ (.cons ⟨_, rfl⟩ (.cons ⟨_, rfl⟩ (.cons ⟨_, rfl⟩ (.cons ⟨_, rfl⟩ (.cons ⟨_, rfl⟩ (.cons ⟨_, rfl⟩ .nil))))))))⟩,
    g_CRC_START := PySem.W.mg_of X G a_CRC_START,
    g_CRC_MASK := PySem.W.mg_of X G a_CRC_MASK,
    g_WORD := PySem.W.mg_of X G a_WORD,
    g_TOP := PySem.W.mg_of X G a_TOP }
  exact ⟨_, fun s v => .of_eq rfl, fun base _ _ => ok_law T⟩
end Pf
open PySem PySem.W PyProof.Rows
set_option maxRecDepth 100000 in
set_option maxHeartbeats 0 in
theorem PySem.Challenge.cw_discwright_k02_cyclic_checks_holds : PySem.Challenge.rw_discwright_k02_cyclic_checks.Holds := by
  w_on; o_law; k_head; (case hw => w_witness2)
  k_fill
  refine L2.walk_of (l := PySem.Challenge.rw_discwright_k02_cyclic_checks) (n := 63) (k := 9) (x := "_law_script") (CX := fun _ => L2.CX0) (sp := fun w => Pf.sp_law _) rfl (by decide) rfl ⟨rfl, by decide, by decide⟩ (fun w h Y => PySem.W.kIn_of Y) ?F (fun _ _ a ns hl _ hS => ⟨a, ns, rfl, hS, hl, fun _ => rfl⟩) (fun _ _ _ _ _ h => h)
  case F =>
    intro w mg fa h KX G hmg
    refine' Pf.all_mk KX G hmg ?a_z_law_pool ?l_z_law_pool ?c_z_law_pool ?k_z_law_pool ?a_z_law_same ?l_z_law_same ?c_z_law_same ?k_z_law_same ?a_z_law_spread ?l_z_law_spread ?c_z_law_spread ?k_z_law_spread ?a_z_law_draw ?l_z_law_draw ?c_z_law_draw ?k_z_law_draw ?a_z_law_some_bytes ?l_z_law_some_bytes ?c_z_law_some_bytes ?k_z_law_some_bytes ?a_byte_bits ?l_byte_bits ?c_byte_bits ?k_byte_bits ?a_exclusive ?l_exclusive ?c_exclusive ?k_exclusive ?a_step ?l_step ?c_step ?k_step ?a_crc ?l_crc ?c_crc ?k_crc ?a_z_law_or ?l_z_law_or ?c_z_law_or ?k_z_law_or ?a_z_law_check ?l_z_law_check ?c_z_law_check ?k_z_law_check ?a_law ?l_law ?c_law ?k_law ?z_bool ?z_int ?z_isinstance ?z_len ?z_list ?z_range ?z_str ?z_tuple ?ns_BIT_WEIGHTS ?l_BIT_WEIGHTS ?a_CRC_START ?a_CRC_MASK ?a_WORD ?a_TOP
    (case a_z_law_pool => k_is); (case l_z_law_pool => k_is); (case c_z_law_pool => k_is); (case k_z_law_pool => k_is); (case a_z_law_same => k_is); (case l_z_law_same => k_is); (case c_z_law_same => k_is); (case k_z_law_same => k_is); (case a_z_law_spread => k_is); (case l_z_law_spread => k_is); (case c_z_law_spread => k_is); (case k_z_law_spread => k_is); (case a_z_law_draw => k_is); (case l_z_law_draw => k_is); (case c_z_law_draw => k_is); (case k_z_law_draw => k_is); (case a_z_law_some_bytes => k_is); (case l_z_law_some_bytes => k_is); (case c_z_law_some_bytes => k_is); (case k_z_law_some_bytes => k_is); (case a_byte_bits => k_is); (case l_byte_bits => k_is); (case c_byte_bits => k_is); (case k_byte_bits => k_is); (case a_exclusive => k_is); (case l_exclusive => k_is); (case c_exclusive => k_is); (case k_exclusive => k_is); (case a_step => k_is); (case l_step => k_is); (case c_step => k_is); (case k_step => k_is); (case a_crc => k_is); (case l_crc => k_is); (case c_crc => k_is); (case k_crc => k_is); (case a_z_law_or => k_is); (case l_z_law_or => k_is); (case c_z_law_or => k_is); (case k_z_law_or => k_is); (case a_z_law_check => k_is); (case l_z_law_check => k_is); (case c_z_law_check => k_is); (case k_z_law_check => k_is); (case a_law => k_is); (case l_law => k_is); (case c_law => k_is); (case k_law => k_is); (case z_bool => k_is); (case z_int => k_is); (case z_isinstance => k_is); (case z_len => k_is); (case z_list => k_is); (case z_range => k_is); (case z_str => k_is); (case z_tuple => k_is); (case ns_BIT_WEIGHTS => k_is); (case l_BIT_WEIGHTS => k_is); (case a_CRC_START => k_is); (case a_CRC_MASK => k_is); (case a_WORD => k_is); (case a_TOP => k_is)

