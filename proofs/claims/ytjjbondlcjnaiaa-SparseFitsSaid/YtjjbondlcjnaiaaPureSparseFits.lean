/- What the program and the specification of layer 19 compute, without the program's code: the plain part of SparseFits. -/
import Derived.Test.YtjjbondlcjnaiaaPSparseFitsx
namespace Go.Proofs.Ytjjbondlcjnaiaa.Pure
open Go.RowKit Go.Proofs.Ytjjbondlcjnaiaa.PSparseFits Go.Proofs.YtjjbondlcjnaiaaW.PrintWords Go.Proofs.YtjjbondlcjnaiaaW.PrintLast Go.Proofs.YtjjbondlcjnaiaaW.PrintMore
set_option linter.unusedVariables false
set_option linter.unusedSimpArgs false
theorem Ev.yes {α : Type} {c : Prop} [Decidable c] {f g : Nat → Option α} {r : α} (h : c) (k : Ev f r) : Ev (fun n => if c then f n else g n) r := by simpa only [if_pos h] using k
theorem Ev.no {α : Type} {c : Prop} [Decidable c] {f g : Nat → Option α} {r : α} (h : ¬ c) (k : Ev g r) : Ev (fun n => if c then f n else g n) r := by simpa only [if_neg h] using k
theorem Ev.is {α : Type} {a r : α} (h : a = r) : Ev (fun _ => some a) r := h ▸ Ev.now a
theorem wnx (i : Nat) (h : i < 4611686018427387904) : wrap64 ((i : Int) + 1) = ((i + 1 : Nat) : Int) := by unfold wrap64; omega

/-- two columns have a row in common -/
def mt (P : List (List Bool)) (a b : Nat) : Bool := P.any fun row => row.getD a false && row.getD b false
def okc (P : List (List Bool)) (q : List Int) (i j : Nat) : Prop := q.getD i 0 = q.getD j 0 → mt P i j = false
def fitP (P : List (List Bool)) (q : List Int) : Prop := ∀ i j, j < i → i < q.length → okc P q i j
noncomputable instance fitDec (P : List (List Bool)) (q : List Int) : Decidable (fitP P q) := Classical.propDecidable _

theorem gdl {α : Type} {p s : List α} {d : α} {i : Nat} (h : i < p.length) : (p ++ s).getD i d = p.getD i d := by simp [List.getD_eq_getElem?_getD, List.getElem?_append_left h]
theorem fitP_nil (P : List (List Bool)) : fitP P [] := fun _ _ _ h => absurd h (Nat.not_lt_zero _)
theorem fitP_append {P : List (List Bool)} {p s : List Int} (h : fitP P (p ++ s)) : fitP P p := by
  intro i j hj hi hq
  have := h i j hj (by simp; omega)
  apply this
  rw [gdl hi, gdl (by omega)]; exact hq
theorem fitP_snoc {P : List (List Bool)} {p : List Int} {c : Int} (h : fitP P p) : fitP P (p ++ [c]) ↔ ∀ o, o < p.length → p.getD o 0 = c → mt P p.length o = false := by
  constructor
  · intro hf o ho hc
    apply hf p.length o ho (by simp)
    rw [gdl ho, hc]; simp
  · intro hf i j hj hi hq
    simp at hi
    by_cases hi' : i < p.length
    · rw [gdl hi', gdl (by omega)] at hq
      exact h i j hj hi' hq
    · have : i = p.length := by omega
      subst this
      rw [gdl hj] at hq
      exact hf j hj (by rw [← hq]; simp)
theorem fitP_map {P : List (List Bool)} {q : List Int} (σ : Int → Int) (hσ : ∀ x y, σ x = σ y → x = y) (h : fitP P q) : fitP P (q.map σ) := by
  intro i j hj hi hq
  simp at hi
  apply h i j hj hi
  apply hσ
  have e : ∀ k, k < q.length → (q.map σ).getD k 0 = σ (q.getD k 0) := by intro k hk; simp [List.getD_eq_getElem?_getD, hk]
  rw [e i hi, e j (by omega)] at hq; exact hq

def pr (o : Option (List Int)) : List Int × Bool := match o with | some q => (q, true) | none => ([], false)
/-- the first fitting colours, in lexicographical order, below m -/
noncomputable def srch (P : List (List Bool)) (m : Nat) : Nat → List Int → Option (List Int)
  | 0, p => some p
  | r + 1, p => (List.range' 0 m).findSome? fun c : Nat => if fitP P (p ++ [(c : Int)]) then srch P m r (p ++ [(c : Int)]) else none
def top (p : List Int) (t : Int) : Int := p.foldl (fun t x => mx t (x + 1)) t
theorem top_ge : ∀ (p : List Int) (t : Int), t ≤ top p t
  | [], t => Int.le_refl t
  | x :: p, t => Int.le_trans (by unfold mx; split <;> omega) (top_ge p (mx t (x + 1)))
theorem top_gt : ∀ (p : List Int) (t x : Int), x ∈ p → x < top p t
  | y :: p, t, x, h => by
    rcases List.mem_cons.1 h with rfl | h
    · have := top_ge p (mx t (x + 1)); have : x + 1 ≤ mx t (x + 1) := by unfold mx; split <;> omega
      show x < top p (mx t (x + 1)); omega
    · exact top_gt p _ x h
theorem top_le : ∀ (p : List Int) (t m : Int), t ≤ m → (∀ x ∈ p, x < m) → top p t ≤ m
  | [], t, m, h, _ => h
  | y :: p, t, m, h, hp => top_le p _ m (by have := hp y (by simp); show mx t (y + 1) ≤ m; unfold mx; split <;> omega) (fun x hx => hp x (by simp [hx]))
/-- the same, with at most one new colour at each column -/
noncomputable def prn (P : List (List Bool)) (m : Nat) : Nat → List Int → Option (List Int)
  | 0, p => some p
  | r + 1, p => (List.range' 0 (min m ((top p 0).toNat + 1))).findSome? fun c : Nat => if fitP P (p ++ [(c : Int)]) then prn P m r (p ++ [(c : Int)]) else none

theorem findSome_congr {α β : Type} {f g : α → Option β} : ∀ {l : List α}, (∀ x ∈ l, f x = g x) → l.findSome? f = l.findSome? g
  | [], _ => rfl
  | x :: l, h => by rw [List.findSome?_cons, List.findSome?_cons, h x (by simp), findSome_congr (fun y hy => h y (by simp [hy]))]
theorem srch_sound {P : List (List Bool)} {m : Nat} : ∀ {r : Nat} {p q : List Int}, fitP P p → srch P m r p = some q → ∃ s, q = p ++ s ∧ s.length = r ∧ (∀ x ∈ s, 0 ≤ x ∧ x < m) ∧ fitP P q
  | 0, p, q, hp, h => ⟨[], by simp [srch] at h; simp [h], rfl, by simp, by simp [srch] at h; exact h ▸ hp⟩
  | r + 1, p, q, hp, h => by
    rw [srch] at h
    obtain ⟨c, hc, h⟩ := List.exists_of_findSome?_eq_some h
    split at h
    · rename_i hf
      obtain ⟨s, hs, hl, hb, hq⟩ := srch_sound hf h
      refine ⟨(c : Int) :: s, by simp [hs], by simp [hl], ?_, hq⟩
      intro x hx
      rcases List.mem_cons.1 hx with rfl | hx
      · simp [List.mem_range'] at hc; omega
      · exact hb x hx
    · exact absurd h (by simp)
theorem srch_complete {P : List (List Bool)} {m : Nat} : ∀ {r : Nat} {p s : List Int}, s.length = r → (∀ x ∈ s, 0 ≤ x ∧ x < m) → fitP P (p ++ s) → srch P m r p ≠ none
  | 0, p, s, _, _, _ => by simp [srch]
  | r + 1, p, [], h, _, _ => by simp at h
  | r + 1, p, x :: s, hl, hb, hf => by
    rw [srch]
    intro hn
    rw [List.findSome?_eq_none_iff] at hn
    have hx := hb x (by simp)
    have := hn x.toNat (by simp [List.mem_range']; omega)
    have e : ((x.toNat : Nat) : Int) = x := by omega
    rw [e] at this
    have hf' : fitP P ((p ++ [x]) ++ s) := by simpa using hf
    rw [if_pos (fitP_append hf')] at this
    exact srch_complete (by simpa using hl) (fun y hy => hb y (by simp [hy])) hf' this
theorem prn_eq {P : List (List Bool)} {m : Nat} : ∀ {r : Nat} {p : List Int}, fitP P p → (∀ x ∈ p, 0 ≤ x) → prn P m r p = srch P m r p
  | 0, p, _, _ => rfl
  | r + 1, p, hp, h0 => by
    rw [prn, srch]
    have e : ∀ l : List Nat, l.findSome? (fun c : Nat => if fitP P (p ++ [(c : Int)]) then prn P m r (p ++ [(c : Int)]) else none) = l.findSome? (fun c : Nat => if fitP P (p ++ [(c : Int)]) then srch P m r (p ++ [(c : Int)]) else none) := by
      intro l; apply findSome_congr; intro c _
      split
      · rename_i hf; exact prn_eq hf (fun x hx => by rcases List.mem_append.1 hx with hx | hx; exact h0 x hx; simp at hx; omega)
      · rfl
    rw [e]
    have ht := top_ge p 0
    by_cases hm : m ≤ (top p 0).toNat + 1
    · rw [Nat.min_eq_left hm]
    · rw [Nat.min_eq_right (by omega)]
      have er : List.range' 0 m = List.range' 0 ((top p 0).toNat + 1) ++ List.range' (0 + 1 * ((top p 0).toNat + 1)) (m - ((top p 0).toNat + 1)) := by
        rw [List.range'_append]; congr 1; omega
      rw [er, List.findSome?_append]
      cases hs : List.findSome? (fun c : Nat => if fitP P (p ++ [(c : Int)]) then srch P m r (p ++ [(c : Int)]) else none) (List.range' 0 ((top p 0).toNat + 1)) with
      | some v => simp
      | none =>
        rw [List.findSome?_eq_none_iff] at hs
        have h1 := hs (top p 0).toNat (by simp [List.mem_range'])
        have e1 : (((top p 0).toNat : Nat) : Int) = top p 0 := by omega
        rw [e1] at h1
        simp only [Option.none_or]
        symm; rw [List.findSome?_eq_none_iff]
        intro c hc
        simp [List.mem_range'] at hc
        split
        · rename_i hf
          cases hq : srch P m r (p ++ [(c : Int)]) with
          | none => rfl
          | some q =>
            exfalso
            obtain ⟨s, hs', hl, hb, hq'⟩ := srch_sound hf hq
            subst hs'
            let σ : Int → Int := fun x => if x = c then top p 0 else if x = top p 0 then c else x
            have hσ : ∀ x y, σ x = σ y → x = y := by intro x y; simp only [σ]; split <;> split <;> (try split) <;> (try split) <;> omega
            have hmap := fitP_map σ hσ hq'
            have ep : p.map σ = p := by
              conv => rhs; rw [← List.map_id p]
              apply List.map_congr_left; intro x hx
              have := top_gt p 0 x hx
              simp only [σ, id]; rw [if_neg (by omega), if_neg (by omega)]
            have ec : σ (c : Int) = top p 0 := by simp [σ]
            rw [List.map_append, List.map_append, ep, List.map_cons, List.map_nil, ec] at hmap
            rw [if_pos (fitP_append hmap)] at h1
            refine srch_complete (by simpa using hl) ?_ hmap h1
            intro x hx
            obtain ⟨y, hy, rfl⟩ := List.mem_map.1 hx
            have := hb y hy
            simp only [σ]; split
            · omega
            · split <;> omega
        · rfl
/-- a small pattern: no more than 14 rows -/
def formB (P : List (List Bool)) (n : Int) : Bool := decide (0 ≤ n) && decide (n ≤ 4096) && P.all fun row => decide ((row.length : Int) = n)
theorem form_is {P : List (List Bool)} (hP : P.length < 4096) (n : Int) : sparse_form.f P n = some (if formB P n = true then 0 else 2) := by
  unfold sparse_form.f formB
  rw [if_neg (by omega)]
  by_cases h0 : n < 0
  · rw [if_pos h0, if_neg (by simp; omega)]
  · by_cases h1 : n > 4096
    · rw [if_neg h0, if_pos h1, if_neg (by simp; omega)]
    · rw [if_neg h0, if_neg h1]
      by_cases h2 : P.any (fun x => decide (¬ (x.length : Int) = n)) = true
      · rw [if_pos h2, if_neg]
        simp at h2 ⊢
        exact fun _ _ => h2
      · rw [if_neg h2, if_pos]
        simp at h2 ⊢
        exact ⟨⟨by omega, by omega⟩, h2⟩
theorem refForm_l0 {P : List (List Bool)} (hP : P.length < 4096) (n : Int) : ∀ d i, i + d = P.length → Ev (fun k => fluxionref19_Form.l0 k P n i) (if (P.drop i).all (fun row => decide ((row.length : Int) = n)) = true then 0 else 2)
  | 0, i, hi => by
    refine Ev.step (fun k => by rw [fluxionref19_Form.l0]) ?_
    refine Ev.no (by omega) (Ev.is ?_)
    rw [List.drop_eq_nil_of_le (by omega)]; rfl
  | d + 1, i, hi => by
    have hl : i < P.length := by omega
    refine Ev.step (fun k => by rw [fluxionref19_Form.l0]) ?_
    refine Ev.yes (by omega) (Ev.yes (by omega) ?_)
    rw [wnx i (by omega), List.drop_eq_getElem_cons hl, List.all_cons]
    have e : rd_L1 P (i : Int) = P[i] := by show P.getD i [] = _; simp [List.getD_eq_getElem?_getD, hl]
    rw [e]
    have ih := refForm_l0 hP n d (i + 1) (by omega)
    by_cases h : (P[i].length : Int) = n
    · refine Ev.yes h ?_
      rw [decide_eq_true h, Bool.true_and]; exact ih
    · refine Ev.no h (Ev.is ?_)
      rw [decide_eq_false h, Bool.false_and]; rfl
theorem refForm_is {P : List (List Bool)} (hP : P.length < 4096) (n : Int) : Ev (fun k => fluxionref19_Form.f k P n) (if formB P n = true then 0 else 2) := by
  unfold fluxionref19_Form.f
  refine Ev.no (by omega) ?_
  by_cases h0 : n < 0
  · refine Ev.yes h0 ?_
    refine Ev.step (fun k => by rw [fluxionref19_Form.j0]) ?_
    refine Ev.yes rfl (Ev.is ?_)
    rw [if_neg]; unfold formB; simp; omega
  · refine Ev.no h0 ?_
    refine Ev.step (fun k => by rw [fluxionref19_Form.j0]) ?_
    by_cases h1 : n > 4096
    · refine Ev.yes (by simp; omega) (Ev.is ?_)
      rw [if_neg]; unfold formB; simp; omega
    · refine Ev.no (by simp; omega) ?_
      have := refForm_l0 hP n P.length 0 (by omega)
      have e : formB P n = (P.drop 0).all (fun row => decide ((row.length : Int) = n)) := by unfold formB; rw [List.drop_zero, decide_eq_true (by omega), decide_eq_true (by omega)]; rfl
      rw [e]; exact this
theorem form_rows {P : List (List Bool)} {n : Nat} (h : formB P n = true) : ∀ row ∈ P, row.length = n := by
  unfold formB at h; simp at h
  intro row hr; have := h.2 row hr; omega
/-- what cut keeps -/
def cutP (z : List (List Bool)) : List (List Bool) := (z.take 14).map fun row => row.take 16
theorem cutP_length (z : List (List Bool)) : (cutP z).length ≤ 14 := by unfold cutP; simp; omega
theorem cut_l0 (z : List (List Bool)) : ∀ d i out, i + d = min z.length 14 → out.length = i → Ev (fun k => fluxionref19_Cut.l0 k z 14 16 out i) (out ++ ((z.drop i).take d).map fun row => row.take 16)
  | 0, i, out, hi, ho => by
    refine Ev.step (fun k => by rw [fluxionref19_Cut.l0]) ?_
    have e : out ++ ((z.drop i).take 0).map (fun row => row.take 16) = out := by simp
    rw [e]
    by_cases h : i < z.length
    · exact Ev.yes (by omega) (Ev.no (by omega) (Ev.now _))
    · exact Ev.no (by omega) (Ev.now _)
  | d + 1, i, out, hi, ho => by
    have hl : i < z.length := by omega
    refine Ev.step (fun k => by rw [fluxionref19_Cut.l0]) ?_
    have e : rd_L1 z (i : Int) = z[i] := by show z.getD i [] = _; simp [List.getD_eq_getElem?_getD, hl]
    have em : mn (z[i].length : Int) 16 = ((min z[i].length 16 : Nat) : Int) := by unfold mn; split <;> omega
    simp only [e, Option.bind_some, List.nil_append, List.length_nil]
    refine Ev.yes (by omega) (Ev.yes (by omega) (Ev.yes (by omega) (Ev.yes (by rw [em]; omega) (Ev.yes (by rw [em]; omega) (Ev.yes (by rw [em]; simp; omega) (Ev.yes (by omega) ?_))))))
    rw [wnx i (by omega), em]
    have et : z[i].take ((min z[i].length 16 : Nat) : Int).toNat = z[i].take 16 := by
      rw [Int.toNat_natCast, List.take_eq_take_iff]; omega
    rw [et, List.drop_eq_getElem_cons hl, List.take_succ_cons, List.map_cons]
    have := cut_l0 z d (i + 1) (out ++ [z[i].take 16]) (by omega) (by simp [ho])
    rw [List.append_assoc] at this; exact this
theorem cut_is (z : List (List Bool)) : Ev (fun k => fluxionlaw19_cut.f k z) (cutP z) := by
  unfold fluxionlaw19_cut.f
  refine Ev.bind ?_ (Ev.now _)
  have := cut_l0 z (min z.length 14) 0 [] (by omega) rfl
  have e : cutP z = [] ++ ((z.drop 0).take (min z.length 14)).map fun row => row.take 16 := by
    unfold cutP; rw [List.nil_append, List.drop_zero]; congr 1; rw [List.take_eq_take_iff]; omega
  rw [e]; exact this
theorem refInts_l0 {x y : List Int} (hl : x.length = y.length) (hx : x.length < 4611686018427387904) : ∀ d i, i + d = x.length → (∀ j, j < i → x.getD j 0 = y.getD j 0) → Ev (fun k => fluxionref08_Ints.l0 k x y i) (decide (x = y))
  | 0, i, hi, h => by
    refine Ev.step (fun k => by rw [fluxionref08_Ints.l0]) ?_
    refine Ev.no (by omega) (Ev.is (Eq.symm (decide_eq_true ?_)))
    apply List.ext_getElem hl
    intro j h1 h2
    have := h j (by omega)
    simpa [List.getD_eq_getElem?_getD, h1, h2] using this
  | d + 1, i, hi, h => by
    refine Ev.step (fun k => by rw [fluxionref08_Ints.l0]) ?_
    refine Ev.yes (by omega) (Ev.yes (by omega) (Ev.yes (by omega) ?_))
    rw [wnx i (by omega)]
    have e1 : rd x (i : Int) = x.getD i 0 := rfl
    have e2 : rd y (i : Int) = y.getD i 0 := rfl
    rw [e1, e2]
    by_cases hc : x.getD i 0 = y.getD i 0
    · refine Ev.yes hc (refInts_l0 hl hx d (i + 1) (by omega) fun j hj => ?_)
      by_cases h2 : j < i
      · exact h j h2
      · have : j = i := by omega
        rw [this]; exact hc
    · exact Ev.no hc (Ev.is (Eq.symm (decide_eq_false fun h' => hc (by rw [h']))))
theorem refInts_f {x y : List Int} (hx : x.length < 4611686018427387904) : Ev (fun k => fluxionref08_Ints.f k x y) (decide (x = y)) := by
  unfold fluxionref08_Ints.f
  by_cases hl : x.length = y.length
  · exact Ev.yes (by omega) (refInts_l0 hl hx x.length 0 (by omega) (fun j h => absurd h (Nat.not_lt_zero _)))
  · exact Ev.no (by omega) (Ev.is (Eq.symm (decide_eq_false fun h => hl (by rw [h]))))
theorem row_L1 {P : List (List Bool)} {i : Nat} (h : i < P.length) : rd_L1 P (i : Int) = P[i] := by show P.getD i [] = _; simp [List.getD_eq_getElem?_getD, h]
theorem mt_drop {P : List (List Bool)} {i : Nat} (h : i < P.length) (a b : Nat) : mt (P.drop i) a b = ((P[i].getD a false && P[i].getD b false) || mt (P.drop (i + 1)) a b) := by
  unfold mt; rw [List.drop_eq_getElem_cons h, List.any_cons]
theorem meet_l0 {P : List (List Bool)} {n : Nat} (hP : P.length < 5000) (hn : ∀ row ∈ P, row.length = n) (a b : Nat) (ha : a < n) (hb : b < n) : ∀ d i, i + d = P.length → Ev (fun k => fluxionref19_meet.l0 k P a b i) (mt (P.drop i) a b)
  | 0, i, hi => by
    refine Ev.step (fun k => by rw [fluxionref19_meet.l0]) ?_
    refine Ev.no (by omega) (Ev.is ?_)
    rw [List.drop_eq_nil_of_le (by omega)]; rfl
  | d + 1, i, hi => by
    have hl : i < P.length := by omega
    have hr := hn P[i] (List.getElem_mem hl)
    refine Ev.step (fun k => by rw [fluxionref19_meet.l0]) ?_
    simp only [row_L1 hl]
    refine Ev.yes (by omega) (Ev.yes (by omega) (Ev.yes (by omega) (Ev.yes (by omega) ?_)))
    rw [mt_drop hl, wnx i (by omega)]
    have ih := meet_l0 hP hn a b ha hb d (i + 1) (by omega)
    have e1 : rdOf false P[i] (a : Int) = P[i].getD a false := rfl
    have e2 : rdOf false P[i] (b : Int) = P[i].getD b false := rfl
    by_cases h1 : P[i].getD a false = true
    · refine Ev.yes (e1.trans h1) (Ev.yes (by omega) (Ev.yes (by omega) ?_))
      by_cases h2 : P[i].getD b false = true
      · exact Ev.yes (e2.trans h2) (Ev.is (by rw [h1, h2]; rfl))
      · refine Ev.no (fun h => h2 (e2.symm.trans h)) ?_
        rw [Bool.not_eq_true] at h2; rw [h1, h2]; exact ih
    · refine Ev.no (fun h => h1 (e1.symm.trans h)) ?_
      rw [Bool.not_eq_true] at h1; rw [h1]; exact ih
theorem meet_f {P : List (List Bool)} {n : Nat} (hP : P.length < 5000) (hn : ∀ row ∈ P, row.length = n) (a b : Nat) (ha : a < n) (hb : b < n) : Ev (fun k => fluxionref19_meet.f k P a b) (mt P a b) := meet_l0 hP hn a b ha hb P.length 0 (by omega)

theorem Fits_l1 {P : List (List Bool)} {n : Nat} (hP : P.length < 5000) (hn : ∀ row ∈ P, row.length = n) {q : List Int} (hq : q.length ≤ n) (hs : q.length < 5000) {i : Nat} (hi : i < q.length)
    (next : (∀ i' j', j' < i' → i' < i + 1 → okc P q i' j') → Ev (fun k => fluxionref19_Fits.l0 k P q (i + 1 : Nat)) (decide (fitP P q)))
    (pre : ∀ i' j', j' < i' → i' < i → okc P q i' j') : ∀ d j, j + d = i → (∀ j', j' < j → okc P q i j') → Ev (fun k => fluxionref19_Fits.l1 k P q i j) (decide (fitP P q))
  | 0, j, hj, hpj => by
    refine Ev.step (fun k => by rw [fluxionref19_Fits.l1]) ?_
    refine Ev.no (by omega) ?_
    rw [wnx i (by omega)]
    refine next fun i' j' h1 h2 => ?_
    by_cases h3 : i' < i
    · exact pre i' j' h1 h3
    · have : i' = i := by omega
      subst this; exact hpj j' (by omega)
  | d + 1, j, hj, hpj => by
    refine Ev.step (fun k => by rw [fluxionref19_Fits.l1]) ?_
    refine Ev.yes (by omega) (Ev.yes (by omega) (Ev.yes (by omega) (Ev.yes (by omega) (Ev.yes (by omega) ?_))))
    rw [wnx j (by omega)]
    have e1 : rd q (i : Int) = q.getD i 0 := rfl
    have e2 : rd q (j : Int) = q.getD j 0 := rfl
    have ih := Fits_l1 hP hn hq hs hi next pre d (j + 1) (by omega)
    by_cases h : q.getD i 0 = q.getD j 0
    · refine Ev.yes (by rw [e1, e2, h]) (Ev.bind (meet_f hP hn i j (by omega) (by omega)) ?_)
      cases hm : mt P i j with
      | true =>
        refine Ev.yes rfl (Ev.is (Eq.symm (decide_eq_false fun hf => ?_)))
        have := hf i j (by omega) hi h
        rw [hm] at this; exact absurd this (by decide)
      | false =>
        refine Ev.no (by decide) (ih fun j' h1 => ?_)
        by_cases h2 : j' < j
        · exact hpj j' h2
        · have : j' = j := by omega
          subst this; exact fun _ => hm
    · refine Ev.no (by rw [e1, e2]; exact h) (ih fun j' h1 => ?_)
      by_cases h2 : j' < j
      · exact hpj j' h2
      · have : j' = j := by omega
        subst this; exact fun h' => absurd h' h
theorem Fits_l0 {P : List (List Bool)} {n : Nat} (hP : P.length < 5000) (hn : ∀ row ∈ P, row.length = n) {q : List Int} (hq : q.length ≤ n) (hs : q.length < 5000) : ∀ d i, i + d = q.length → (∀ i' j', j' < i' → i' < i → okc P q i' j') → Ev (fun k => fluxionref19_Fits.l0 k P q i) (decide (fitP P q))
  | 0, i, hi, pre => by
    refine Ev.step (fun k => by rw [fluxionref19_Fits.l0]) ?_
    refine Ev.no (by omega) (Ev.is (Eq.symm (decide_eq_true fun i' j' h1 h2 => pre i' j' h1 (by omega))))
  | d + 1, i, hi, pre => by
    refine Ev.step (fun k => by rw [fluxionref19_Fits.l0]) ?_
    refine Ev.yes (by omega) ?_
    exact Fits_l1 hP hn hq hs (by omega) (fun h => Fits_l0 hP hn hq hs d (i + 1) (by omega) h) pre i 0 (by omega) (fun j' h => absurd h (Nat.not_lt_zero _))
theorem Fits_f {P : List (List Bool)} {n : Nat} (hP : P.length < 5000) (hn : ∀ row ∈ P, row.length = n) {q : List Int} (hq : q.length ≤ n) (hs : q.length < 5000) : Ev (fun k => fluxionref19_Fits.f k P q) (decide (fitP P q)) :=
  Fits_l0 hP hn hq hs q.length 0 (by omega) (fun i' j' _ h => absurd h (Nat.not_lt_zero _))
/-- a colour is taken at a column -/
def Tk (P : List (List Bool)) (out : List Int) (c : Int) : Prop := ∃ b, b < out.length ∧ out.getD b 0 = c ∧ mt P out.length b = true
theorem few_of_mem : ∀ (c : Nat) (l : List Int), (∀ c' : Nat, c' < c → (c' : Int) ∈ l) → c ≤ l.length
  | 0, _, _ => Nat.zero_le _
  | c + 1, l, h => by
    have h1 := h c (by omega)
    have := few_of_mem c (l.erase (c : Int)) fun c' h' => (List.mem_erase_of_ne (by omega)).2 (h c' (by omega))
    rw [List.length_erase_of_mem h1] at this
    have := List.length_pos_of_mem h1
    omega
/-- how many of the columns below meet a column -/
def deg (P : List (List Bool)) (a n : Nat) : Nat := ((List.range n).filter fun b => mt P a b).length
theorem tk_few {P : List (List Bool)} {out : List Int} {c : Nat} (h : ∀ c' : Nat, c' < c → Tk P out c') : c ≤ deg P out.length out.length := by
  have := few_of_mem c (((List.range out.length).filter fun b => mt P out.length b).map fun b => out.getD b 0) fun c' h' => by
    obtain ⟨b, hb, hc, hm⟩ := h c' h'
    rw [List.mem_map]
    exact ⟨b, by rw [List.mem_filter, List.mem_range]; exact ⟨hb, hm⟩, hc⟩
  rw [List.length_map] at this; exact this
theorem deg_le (P : List (List Bool)) (a n : Nat) : deg P a n ≤ n := by
  unfold deg; exact Nat.le_trans (List.length_filter_le _ _) (by simp)
/-- the least colour that is not taken -/
theorem free_is (P : List (List Bool)) (out : List Int) : ∃ c : Nat, c ≤ deg P out.length out.length ∧ ¬ Tk P out c ∧ ∀ c' : Nat, c' < c → Tk P out c' := by
  have : ∀ d c, c + d = deg P out.length out.length + 1 → (∀ c' : Nat, c' < c → Tk P out c') → ∃ c : Nat, c ≤ deg P out.length out.length ∧ ¬ Tk P out c ∧ ∀ c' : Nat, c' < c → Tk P out c' := by
    intro d
    induction d with
    | zero => intro c hc h; have := tk_few h; omega
    | succ d ih =>
      intro c hc h
      by_cases ht : Tk P out c
      · refine ih (c + 1) (by omega) fun c' h' => ?_
        by_cases h2 : c' < c
        · exact h c' h2
        · have : c' = c := by omega
          rw [this]; exact ht
      · exact ⟨c, tk_few h, ht, h⟩
  exact this (deg P out.length out.length + 1) 0 (by omega) fun c' h => absurd h (Nat.not_lt_zero _)
theorem free_fit {P : List (List Bool)} {out : List Int} {c : Int} (h : fitP P out) (hc : ¬ Tk P out c) : fitP P (out ++ [c]) := by
  rw [fitP_snoc h]; intro o ho he
  cases hm : mt P out.length o with
  | false => rfl
  | true => exact absurd ⟨o, ho, he, hm⟩ hc
theorem taken_is {P : List (List Bool)} {out : List Int} {c : Int} : takenF P (fun r => seenAt (P.getD r []) out out.length) out.length c = true ↔ Tk P out c := by
  unfold takenF seenAt Tk mt
  simp only [List.any_eq_true, Bool.and_eq_true, List.mem_range, beq_iff_eq]
  constructor
  · rintro ⟨r, hr, h1, j, hj, h2, h3⟩
    refine ⟨j, hj, h3, P.getD r [], ?_, h1, h2⟩
    rw [List.getD_eq_getElem?_getD, List.getElem?_eq_getElem hr]; exact List.getElem_mem hr
  · rintro ⟨b, hb, h1, row, hrow, h2, h3⟩
    obtain ⟨r, hr, rfl⟩ := List.getElem_of_mem hrow
    have e : P.getD r [] = P[r] := by rw [List.getD_eq_getElem?_getD, List.getElem?_eq_getElem hr]; rfl
    exact ⟨r, hr, by rw [e]; exact h2, b, hb, by rw [e]; exact h3, h1⟩
theorem colPick_is {P : List (List Bool)} {out : List Int} {cs : Nat} (hc : ¬ Tk P out cs) (hl : ∀ c' : Nat, c' < cs → Tk P out c') : ∀ d c n, c + d = cs → d < n → colPick P out n c = some (cs : Int)
  | 0, c, n + 1, h, _ => by
    have e : c = cs := by omega
    subst e
    rw [colPick, if_neg (fun h => hc (taken_is.1 h))]
  | d + 1, c, n + 1, h, hn => by
    rw [colPick, if_pos (taken_is.2 (hl c (by omega)))]
    exact colPick_is hc hl d (c + 1) n (by omega) (by omega)
theorem refCol_l2 {P : List (List Bool)} {n : Nat} (hP : P.length < 4096) (hn : ∀ row ∈ P, row.length = n) (hn' : n < 4096) {out : List Int} (ho : out.length < n) {cs : Nat} (hc : ¬ Tk P out cs) (hl : ∀ c' : Nat, c' < cs → Tk P out c') (hcs : cs ≤ n) (N : Int) (R : List Int) (c0 : Nat)
    (again : ∀ c : Nat, c0 < c → c ≤ cs → (∀ c' : Nat, c' < c → Tk P out c') → Ev (fun k => fluxionref19_Colours.l1 k P N out out.length c true) R)
    (done : c0 = cs → Ev (fun k => fluxionref19_Colours.l1 k P N out out.length cs false) R) :
    ∀ d b (c : Nat) (f : Bool), b + d = out.length → (∀ c' : Nat, c' < c → Tk P out c') → c0 ≤ c → (f = true → c0 < c) → (f = false → c = c0 ∧ ∀ b', b' < b → ¬ (out.getD b' 0 = (c : Int) ∧ mt P out.length b' = true)) → Ev (fun k => fluxionref19_Colours.l2 k P N out out.length c f b) R
  | 0, b, c, f, hb, ht, h0, h1, h2 => by
    have hle : c ≤ cs := Nat.le_of_not_lt fun h => hc (ht cs h)
    refine Ev.step (fun k => by rw [fluxionref19_Colours.l2]) ?_
    refine Ev.no (by omega) ?_
    cases f with
    | true => exact again c (h1 rfl) hle ht
    | false =>
      obtain ⟨rfl, h3⟩ := h2 rfl
      have hT : ¬ Tk P out c := fun ⟨b', h4, h5, h6⟩ => h3 b' (by omega) ⟨h5, h6⟩
      have : c = cs := Nat.le_antisymm hle (Nat.le_of_not_lt fun h => hT (hl c h))
      have hd := done this
      rw [← this] at hd; exact hd
  | d + 1, b, c, f, hb, ht, h0, h1, h2 => by
    have hle : c ≤ cs := Nat.le_of_not_lt fun h => hc (ht cs h)
    refine Ev.step (fun k => by rw [fluxionref19_Colours.l2]) ?_
    refine Ev.yes (by omega) (Ev.yes (by omega) (Ev.yes (by omega) ?_))
    rw [wnx b (by omega)]
    have e1 : rd out (b : Int) = out.getD b 0 := rfl
    have more : (f = false → ¬ (out.getD b 0 = (c : Int) ∧ mt P out.length b = true)) → (f = false → c = c0 ∧ ∀ b', b' < b + 1 → ¬ (out.getD b' 0 = (c : Int) ∧ mt P out.length b' = true)) := by
      intro hx hf
      refine ⟨(h2 hf).1, fun b' h' => ?_⟩
      by_cases h3 : b' < b
      · exact (h2 hf).2 b' h3
      · have : b' = b := by omega
        rw [this]; exact hx hf
    by_cases hv : out.getD b 0 = (c : Int)
    · refine Ev.yes (e1.trans hv) (Ev.bind (meet_f (by omega) hn out.length b ho (by omega)) ?_)
      cases hm : mt P out.length b with
      | true =>
        refine Ev.yes rfl ?_
        rw [wnx c (by omega)]
        refine refCol_l2 hP hn hn' ho hc hl hcs N R c0 again done d (b + 1) (c + 1) true (by omega) (fun c' h' => ?_) (by omega) (fun _ => by omega) (fun h => by simp at h)
        by_cases h3 : c' < c
        · exact ht c' h3
        · have : c' = c := by omega
          rw [this]; exact ⟨b, by omega, hv, hm⟩
      | false =>
        refine Ev.no (by decide) (refCol_l2 hP hn hn' ho hc hl hcs N R c0 again done d (b + 1) c f (by omega) ht h0 h1 (more fun _ h => ?_))
        rw [hm] at h; exact absurd h.2 (by decide)
    · exact Ev.no (by rw [e1]; exact hv) (refCol_l2 hP hn hn' ho hc hl hcs N R c0 again done d (b + 1) c f (by omega) ht h0 h1 (more fun _ h => hv h.1))
theorem refCol_l1 {P : List (List Bool)} {n : Nat} (hP : P.length < 4096) (hn : ∀ row ∈ P, row.length = n) (hn' : n < 4096) {out : List Int} (ho : out.length < n) {cs : Nat} (hc : ¬ Tk P out cs) (hl : ∀ c' : Nat, c' < cs → Tk P out c') (hcs : cs ≤ n) (N : Int) (R : List Int)
    (done : Ev (fun k => fluxionref19_Colours.l1 k P N out out.length cs false) R) :
    ∀ d (c : Nat), c + d = cs → (∀ c' : Nat, c' < c → Tk P out c') → Ev (fun k => fluxionref19_Colours.l1 k P N out out.length c true) R := by
  intro d
  induction d using Nat.strongRecOn with
  | _ d ih =>
    intro c hd ht
    refine Ev.step (fun k => by rw [fluxionref19_Colours.l1]) ?_
    refine Ev.yes rfl ?_
    exact refCol_l2 hP hn hn' ho hc hl hcs N R c (fun c' h1 h2 h3 => ih (cs - c') (by omega) c' (by omega) h3) (fun _ => done) out.length 0 c false (by omega) ht (Nat.le_refl _) (fun h => by simp at h) (fun _ => ⟨rfl, fun b' h => absurd h (Nat.not_lt_zero _)⟩)
/-- both greedy colourings are the same -/
theorem greedy {P : List (List Bool)} {n : Nat} (hP : P.length < 4096) (hn : ∀ row ∈ P, row.length = n) (hn' : n < 4096) : ∀ d out, out.length + d = n → fitP P out → (∀ i, i < out.length → 0 ≤ out.getD i 0 ∧ out.getD i 0 ≤ deg P i i) →
    ∃ L, colGo P d out = some L ∧ Ev (fun k => fluxionref19_Colours.l0 k P n out out.length) L ∧ fitP P L ∧ L.length = n ∧ ∀ i, i < n → 0 ≤ L.getD i 0 ∧ L.getD i 0 ≤ deg P i i
  | 0, out, ho, hf, hb => by
    refine ⟨out, rfl, ?_, hf, by omega, fun i hi => hb i (by omega)⟩
    refine Ev.step (fun k => by rw [fluxionref19_Colours.l0]) ?_
    exact Ev.no (by omega) (Ev.now _)
  | d + 1, out, ho, hf, hb => by
    obtain ⟨cs, h1, h2, h3⟩ := free_is P out
    have hdl := deg_le P out.length out.length
    obtain ⟨L, g1, g2, g3⟩ := greedy hP hn hn' d (out ++ [(cs : Int)]) (by simp; omega) (free_fit hf h2) (fun i hi => by
      simp at hi
      by_cases h : i < out.length
      · rw [gdl h]; exact hb i h
      · have : i = out.length := by omega
        subst this; simp; omega)
    refine ⟨L, ?_, ?_, g3⟩
    · rw [colGo, show (0 : Int) = ((0 : Nat) : Int) from rfl, colPick_is h2 h3 cs 0 (out.length + 1) (by omega) (by omega)]; exact g1
    · refine Ev.step (fun k => by rw [fluxionref19_Colours.l0]) ?_
      refine Ev.yes (by omega) ?_
      refine refCol_l1 hP hn hn' (by omega) h2 h3 (by omega) n L ?_ cs 0 (by omega) (fun c' h => absurd h (Nat.not_lt_zero _))
      refine Ev.step (fun k => by rw [fluxionref19_Colours.l1]) ?_
      refine Ev.no (by decide) (Ev.yes (by omega) ?_)
      rw [wnx _ (by omega)]
      rw [List.length_append, List.length_singleton] at g2; exact g2
theorem fitRows_is {P : List (List Bool)} {n : Nat} (hn : ∀ row ∈ P, row.length = n) {cs : List Int} (hc : cs.length = n) : (P.all fun row => fitRow row cs) = decide (fitP P cs) := by
  rw [Bool.eq_iff_iff, decide_eq_true_iff, List.all_eq_true]
  unfold fitRow fitAt seenAt
  constructor
  · intro h i j hj hi he
    cases hm : mt P i j with
    | false => rfl
    | true =>
      exfalso
      unfold mt at hm
      rw [List.any_eq_true] at hm
      obtain ⟨row, hr, hb⟩ := hm
      have := h row hr
      rw [List.all_eq_true] at this
      have := this i (List.mem_range.2 (by rw [hn row hr]; omega))
      rw [Bool.and_eq_true] at hb
      rw [hb.1, Bool.true_and, Bool.not_eq_true', List.any_eq_false] at this
      have := this j (List.mem_range.2 hj)
      rw [hb.2, he] at this; simp at this
  · intro h row hr
    rw [List.all_eq_true]
    intro i hi
    rw [List.mem_range, hn row hr] at hi
    rw [Bool.not_eq_true', Bool.and_eq_false_iff]
    by_cases h1 : row.getD i false = true
    · right
      rw [List.any_eq_false]
      intro j hj hb
      rw [List.mem_range] at hj
      rw [Bool.and_eq_true, beq_iff_eq] at hb
      have := h i j hj (by omega) hb.2.symm
      unfold mt at this
      rw [List.any_eq_false] at this
      exact this row hr (by rw [h1, hb.1]; rfl)
    · left; rw [Bool.not_eq_true] at h1; exact h1
/-- colours that can be: of the right number, none below 0 -/
def numB (n : Int) (c : List Int) : Bool := decide ((c.length : Int) = n) && c.all fun x => decide (0 ≤ x)
theorem painted_is (n : Int) (c : List Int) : sparse_painted.f n c = some (if numB n c = true then 0 else 2) := by
  unfold sparse_painted.f numB
  by_cases h : (c.length : Int) = n
  · rw [if_neg (by simpa using h)]
    by_cases h2 : c.any (fun x => decide (x < 0)) = true
    · rw [if_pos h2, if_neg]
      simp at h2 ⊢; exact fun _ => h2
    · rw [if_neg h2, if_pos]
      simp at h2 ⊢; exact ⟨h, h2⟩
  · rw [if_pos h, if_neg]; simp [h]
theorem numbered_l0 (n : Int) {c : List Int} (hc : c.length < 4096) : ∀ d i, i + d = c.length → Ev (fun k => fluxionref19_Numbered.l0 k n c i) ((c.drop i).all (fun x => decide (0 ≤ x)) && decide ((c.length : Int) = n))
  | 0, i, h => by
    refine Ev.step (fun k => by rw [fluxionref19_Numbered.l0]) ?_
    refine Ev.no (by omega) (Ev.is ?_)
    rw [List.drop_eq_nil_of_le (by omega)]; simp only [List.all_nil, Bool.true_and]
    rw [Bool.eq_iff_iff, beq_iff_eq, decide_eq_true_iff]
  | d + 1, i, h => by
    have hl : i < c.length := by omega
    refine Ev.step (fun k => by rw [fluxionref19_Numbered.l0]) ?_
    refine Ev.yes (by omega) (Ev.yes (by omega) ?_)
    have e : rd c (i : Int) = c[i] := by show c.getD i 0 = _; simp [List.getD_eq_getElem?_getD, hl]
    rw [e, wnx i (by omega), List.drop_eq_getElem_cons hl, List.all_cons]
    by_cases h0 : c[i] < 0
    · refine Ev.yes h0 (Ev.is ?_)
      rw [decide_eq_false (show ¬ 0 ≤ c[i] by omega)]; rfl
    · refine Ev.no h0 ?_
      rw [decide_eq_true (show 0 ≤ c[i] by omega), Bool.true_and]; exact numbered_l0 n hc d (i + 1) (by omega)
theorem numbered_f (n : Int) {c : List Int} (hc : c.length < 4096) : Ev (fun k => fluxionref19_Numbered.f k n c) (numB n c) := by
  have := numbered_l0 n hc c.length 0 (by omega)
  rw [List.drop_zero, Bool.and_comm] at this; exact this
theorem sparseFits_is {P : List (List Bool)} (hP : P.length < 4096) (n : Int) {c : List Int} (hw : wfInts c = true) : sparse_Fits.f P n c = some (if formB P n = true ∧ numB n c = true then (decide (fitP P c), 0) else (false, 2)) := by
  unfold sparse_Fits.f
  rw [form_is hP]
  simp only [Option.bind_some]
  by_cases hf : formB P n = true
  · rw [if_pos hf, if_pos rfl, painted_is]
    simp only [Option.bind_some]
    by_cases hc : numB n c = true
    · have hn0 : 0 ≤ n := by unfold formB at hf; simp at hf; omega
      obtain ⟨m, rfl⟩ : ∃ m : Nat, n = m := ⟨n.toNat, by omega⟩
      have hl : c.length = m := by unfold numB at hc; simp at hc; omega
      have hn := form_rows hf
      have : sparse_fits.f P c = some (decide (fitP P c)) := by
        unfold sparse_fits.f
        rw [if_pos, fitRows_is hn hl]
        rw [hw, Bool.true_and, List.all_eq_true]
        intro row hr; rw [hn row hr, hl]; simp
      rw [if_pos hc, if_pos rfl, this, if_pos ⟨hf, hc⟩]; rfl
    · rw [if_neg hc, if_neg (by decide), if_neg (fun h => hc h.2)]
  · rw [if_neg hf, if_neg (by decide), if_neg (fun h => hf h.1)]
theorem sparseColours_err {P : List (List Bool)} (hP : P.length < 4096) {n : Int} (hf : ¬ formB P n = true) : sparse_Colours.f P n = some ([], 2) := by
  unfold sparse_Colours.f
  rw [form_is hP, if_neg hf]; simp
theorem sparseColours_ok {P : List (List Bool)} (hP : P.length < 4096) {n : Nat} (hf : formB P n = true) {L : List Int} (hL : colGo P n [] = some L) : sparse_Colours.f P n = some (L, 0) := by
  have hb : n ≤ 4096 := by unfold formB at hf; simp at hf; omega
  have : sparse_colours.f P n = some L := by
    unfold sparse_colours.f
    rw [if_pos, Int.toNat_natCast, hL]
    simp only [Bool.and_eq_true, decide_eq_true_iff, List.all_eq_true]
    exact ⟨⟨by omega, by omega⟩, fun row hr => by rw [form_rows hf row hr]; simp⟩
  unfold sparse_Colours.f
  rw [form_is hP, if_pos hf]
  simp only [Option.bind_some]
  rw [if_pos trivial, this]; rfl
/-- how many elements of a row are set -/
def setIn (row : List Bool) : Nat := row.countP id
def widest (P : List (List Bool)) (t : Int) : Int := P.foldl (fun t row => mx t (setIn row)) t
theorem setIn_drop {row : List Bool} {i : Nat} (h : i < row.length) : setIn (row.drop i) = (if row[i] = true then 1 else 0) + setIn (row.drop (i + 1)) := by
  unfold setIn; rw [List.drop_eq_getElem_cons h, List.countP_cons]; simp only [id]; split <;> omega
theorem setIn_le (row : List Bool) : setIn row ≤ row.length := List.countP_le_length
theorem rdB {row : List Bool} {i : Nat} (h : i < row.length) : rdOf false row (i : Int) = row[i] := by show row.getD i false = _; simp [List.getD_eq_getElem?_getD, h]
theorem progW_l1 {P : List (List Bool)} {i : Nat} (t : Int) {row : List Bool} (hr : row.length < 4096) (R : Int × Int)
    (next : Ev (fun k => sparse_Widest.l0 k (mx t (setIn row)) P P.length (wrap64 ((i : Int) + 1))) R) : ∀ d j (c : Nat), j + d = row.length → c + setIn (row.drop j) = setIn row → Ev (fun k => sparse_Widest.l1 k t c P P.length i row row.length j) R
  | 0, j, c, hj, hc => by
    refine Ev.step (fun k => by rw [sparse_Widest.l1]) ?_
    refine Ev.no (by omega) ?_
    rw [List.drop_eq_nil_of_le (by omega)] at hc
    have : c = setIn row := hc
    rw [this]; exact next
  | d + 1, j, c, hj, hc => by
    have hl : j < row.length := by omega
    have hle := setIn_le row
    refine Ev.step (fun k => by rw [sparse_Widest.l1]) ?_
    refine Ev.yes (by omega) (Ev.yes (by omega) (Ev.yes (by omega) ?_))
    rw [setIn_drop hl] at hc
    rw [rdB hl, wnx j (by omega)]
    by_cases hb : row[j] = true
    · rw [if_pos hb] at hc
      refine Ev.yes hb ?_
      rw [wnx c (by omega)]
      exact progW_l1 t hr R next d (j + 1) (c + 1) (by omega) (by omega)
    · rw [if_neg hb] at hc
      exact Ev.no hb (progW_l1 t hr R next d (j + 1) c (by omega) (by omega))
theorem progW_l0 {P : List (List Bool)} (hP : P.length < 4096) (hn : ∀ row ∈ P, row.length < 4096) : ∀ d i t, i + d = P.length → Ev (fun k => sparse_Widest.l0 k t P P.length i) (widest (P.drop i) t, 0)
  | 0, i, t, hi => by
    refine Ev.step (fun k => by rw [sparse_Widest.l0]) ?_
    refine Ev.no (by omega) (Ev.is ?_)
    rw [List.drop_eq_nil_of_le (by omega)]; rfl
  | d + 1, i, t, hi => by
    have hl : i < P.length := by omega
    refine Ev.step (fun k => by rw [sparse_Widest.l0]) ?_
    refine Ev.yes (by omega) (Ev.yes (by omega) (Ev.yes (by omega) ?_))
    rw [row_L1 hl, List.drop_eq_getElem_cons hl]
    refine progW_l1 t (hn _ (List.getElem_mem hl)) _ ?_ P[i].length 0 0 (by omega) (by simp)
    rw [wnx i (by omega)]
    exact progW_l0 hP hn d (i + 1) _ (by omega)
theorem refW_l1 {P : List (List Bool)} {i : Nat} (hi : i < P.length) (t : Int) (hr : P[i].length < 4096) (R : Int)
    (next : Ev (fun k => fluxionref19_Widest.l0 k P (mx t (setIn P[i])) (wrap64 ((i : Int) + 1))) R) : ∀ d j (c : Nat), j + d = P[i].length → c + setIn (P[i].drop j) = setIn P[i] → Ev (fun k => fluxionref19_Widest.l1 k P t i c j) R
  | 0, j, c, hj, hc => by
    refine Ev.step (fun k => by rw [fluxionref19_Widest.l1]) ?_
    rw [row_L1 hi]
    refine Ev.yes (by omega) (Ev.yes (by omega) (Ev.no (by omega) ?_))
    rw [List.drop_eq_nil_of_le (by omega)] at hc
    have : c = setIn P[i] := hc
    rw [this]; exact next
  | d + 1, j, c, hj, hc => by
    have hl : j < P[i].length := by omega
    have hle := setIn_le P[i]
    refine Ev.step (fun k => by rw [fluxionref19_Widest.l1]) ?_
    rw [row_L1 hi]
    refine Ev.yes (by omega) (Ev.yes (by omega) (Ev.yes (by omega) (Ev.yes (by omega) ?_)))
    rw [setIn_drop hl] at hc
    rw [rdB hl, wnx j (by omega)]
    by_cases hb : P[i][j] = true
    · rw [if_pos hb] at hc
      refine Ev.yes hb ?_
      rw [wnx c (by omega)]
      exact refW_l1 hi t hr R next d (j + 1) (c + 1) (by omega) (by omega)
    · rw [if_neg hb] at hc
      exact Ev.no hb (refW_l1 hi t hr R next d (j + 1) c (by omega) (by omega))
theorem refW_l0 {P : List (List Bool)} (hP : P.length < 4096) (hn : ∀ row ∈ P, row.length < 4096) : ∀ d i t, i + d = P.length → Ev (fun k => fluxionref19_Widest.l0 k P t i) (widest (P.drop i) t)
  | 0, i, t, hi => by
    refine Ev.step (fun k => by rw [fluxionref19_Widest.l0]) ?_
    refine Ev.no (by omega) (Ev.is ?_)
    rw [List.drop_eq_nil_of_le (by omega)]; rfl
  | d + 1, i, t, hi => by
    have hl : i < P.length := by omega
    refine Ev.step (fun k => by rw [fluxionref19_Widest.l0]) ?_
    refine Ev.yes (by omega) ?_
    rw [List.drop_eq_getElem_cons hl]
    refine refW_l1 hl t (hn _ (List.getElem_mem hl)) _ ?_ P[i].length 0 0 (by omega) (by simp)
    rw [wnx i (by omega)]
    exact refW_l0 hP hn d (i + 1) _ (by omega)
theorem refWidest_f {P : List (List Bool)} (hP : P.length < 4096) (hn : ∀ row ∈ P, row.length < 4096) : Ev (fun k => fluxionref19_Widest.f k P) (widest P 0) := refW_l0 hP hn P.length 0 0 (by omega)
theorem sparseWidest_ok {P : List (List Bool)} (hP : P.length < 4096) (hn : ∀ row ∈ P, row.length < 4096) {n : Int} (hf : formB P n = true) : Ev (fun k => sparse_Widest.f k P n) (widest P 0, 0) := by
  unfold sparse_Widest.f
  rw [form_is hP, if_pos hf]
  simp only [Option.bind_some]
  exact Ev.yes trivial (progW_l0 hP hn P.length 0 0 (by omega))
theorem sparseWidest_err {P : List (List Bool)} (hP : P.length < 4096) {n : Int} (hf : ¬ formB P n = true) : Ev (fun k => sparse_Widest.f k P n) (0, 2) := by
  unfold sparse_Widest.f
  rw [form_is hP, if_neg hf]
  simp only [Option.bind_some]
  exact Ev.no (by decide) (Ev.now _)
theorem ints_is (c : List Int) : fluxionlaw19_ints.f c = some (c.take 18) := by
  unfold fluxionlaw19_ints.f
  have em : mn (c.length : Int) 18 = ((min c.length 18 : Nat) : Int) := by unfold mn; split <;> omega
  have et : c.take ((min c.length 18 : Nat) : Int).toNat = c.take 18 := by rw [Int.toNat_natCast, List.take_eq_take_iff]; omega
  simp only [Option.bind_some, em, et, List.nil_append, List.length_nil]
  rw [if_pos (by omega), if_pos (by omega), if_pos (by simp; omega)]
theorem SparseFits (z0 : List (List Bool)) (w0 : ∀ a, a ∈ z0 → ∀ b, b ∈ a → True) (a1 : Int) (w1 : (Lit.int .i64 a1).wf = true) (z2 : List Int) (w2 : ∀ a, a ∈ z2 → (Lit.int .i64 a).wf = true) : ∃ k, fluxionlaw19_SparseFits.f k z0 a1 z2 = some true := by
  refine Ev.rounds ?_
  have hP := cutP_length z0
  have halive : fluxionlaw19_alive.f = some true := rfl
  have hc : (z2.take 18).length ≤ 18 := by simp; omega
  have hw : wfInts (z2.take 18) = true := by
    unfold wfInts; rw [List.all_eq_true]; intro x hx
    have := w2 x (List.mem_of_mem_take hx)
    simp [Lit.wf, IntKind.min, IntKind.max, IntKind.signed, IntKind.bits] at this
    simp; omega
  unfold fluxionlaw19_SparseFits.f
  refine Ev.bind (cut_is z0) ?_
  simp only [ints_is, Option.bind_some]
  generalize z2.take 18 = c at hc hw
  generalize cutP z0 = P at hP
  simp only [sparseFits_is (show P.length < 4096 by omega) a1 hw, Option.bind_some]
  have hF := refForm_is (P := P) (by omega) a1
  by_cases hf : formB P a1 = true
  · rw [if_pos hf] at hF
    refine Ev.bind hF (Ev.yes rfl ?_)
    refine Ev.step (fun k => by rw [fluxionlaw19_SparseFits.j0]) ?_
    rw [halive]
    by_cases h60 : a1 > 60
    · exact Ev.yes (decide_eq_true h60) (Ev.now _)
    · refine Ev.no (by simp; omega) ?_
      have hb : 0 ≤ a1 ∧ a1 ≤ 4096 := by unfold formB at hf; simp at hf; omega
      obtain ⟨n, rfl⟩ : ∃ n : Nat, a1 = n := ⟨a1.toNat, by omega⟩
      have hn := form_rows hf
      obtain ⟨L, g1, g2, g3, g4, g5⟩ := greedy (n := n) (by omega) hn (by omega) n [] (by simp) (fitP_nil P) (fun i h => by simp at h)
      simp only [sparseColours_ok (show P.length < 4096 by omega) hf g1, Option.bind_some]
      have h40 : ∀ row ∈ P, row.length < 4096 := fun row h => by rw [hn row h]; omega
      refine Ev.bind (sparseWidest_ok (by omega) h40 hf) (Ev.yes (by trivial) (Ev.bind (a := L) g2 (Ev.bind (refInts_f (by omega)) ?_)))
      refine Ev.yes (decide_eq_true rfl) (Ev.yes (by trivial) (Ev.bind (refWidest_f (by omega) h40) (Ev.yes (by trivial) ?_)))
      refine Ev.step (fun k => by rw [fluxionlaw19_SparseFits.j1]) ?_
      refine Ev.no (by simp) (Ev.bind (numbered_f n (by omega)) ?_)
      rw [halive]
      by_cases hc' : numB n c = true
      · have hl : c.length = n := by unfold numB at hc'; simp at hc'; omega
        rw [if_pos ⟨hf, hc'⟩]
        exact Ev.yes hc' (Ev.bind (Fits_f (by omega) hn (by omega) (by omega)) (Ev.yes (by simp) (Ev.yes rfl (Ev.now _))))
      · rw [if_neg fun h => hc' h.2]
        exact Ev.no hc' (Ev.no (by decide) (Ev.yes rfl (Ev.now _)))
  · rw [if_neg hf] at hF
    refine Ev.bind hF (Ev.no (by decide) ?_)
    refine Ev.step (fun k => by rw [fluxionlaw19_SparseFits.j0]) ?_
    rw [halive]
    refine Ev.no (by decide) ?_
    simp only [sparseColours_err (show P.length < 4096 by omega) hf, Option.bind_some]
    refine Ev.bind (sparseWidest_err (by omega) hf) (Ev.no (by decide) ?_)
    rw [if_neg (show ¬ (formB P a1 = true ∧ numB a1 c = true) from fun h => hf h.1)]
    exact Ev.no (by simp) (Ev.yes (by trivial) (Ev.yes (by trivial) (Ev.yes (by trivial) (Ev.yes (by trivial) (Ev.yes (by trivial) (Ev.now _))))))
end Go.Proofs.Ytjjbondlcjnaiaa.Pure
