/- What the program and the specification compute, without the program's code: the plain part of SparseMany. -/
import Derived.Test.YtjjbondlcjnaiaaPSparseManyx
namespace Go.Proofs.Ytjjbondlcjnaiaa.Pure
open Go.RowKit Go.Proofs.Ytjjbondlcjnaiaa.PSparseMany Go.Proofs.YtjjbondlcjnaiaaW.PrintWords Go.Proofs.YtjjbondlcjnaiaaW.PrintLast Go.Proofs.YtjjbondlcjnaiaaW.PrintMore
set_option linter.unusedVariables false
set_option linter.unusedSimpArgs false
theorem Ev.yes {α : Type} {c : Prop} [Decidable c] {f g : Nat → Option α} {r : α} (h : c) (k : Ev f r) : Ev (fun n => if c then f n else g n) r := by simpa only [if_pos h] using k
theorem Ev.no {α : Type} {c : Prop} [Decidable c] {f g : Nat → Option α} {r : α} (h : ¬ c) (k : Ev g r) : Ev (fun n => if c then f n else g n) r := by simpa only [if_neg h] using k
theorem Ev.is {α : Type} {a r : α} (h : a = r) : Ev (fun _ => some a) r := h ▸ Ev.now a
theorem wnx (i : Nat) (h : i < 4611686018427387904) : wrap64 ((i : Int) + 1) = ((i + 1 : Nat) : Int) := by unfold wrap64; omega

/-- two columns have a row in common -/
def mt (P : List (List Bool)) (a b : Nat) : Bool := P.any fun row => row.getD a false && row.getD b false
def okc (P : List (List Bool)) (q : List Int) (i j : Nat) : Prop := q.getD i 0 = q.getD j 0 → mt P i j = false
def fitP (P : List (List Bool)) (q : List Int) : Prop := ∀ i j, j < i → i < q.length → okc P q i j
noncomputable instance fitDec (P : List (List Bool)) (q : List Int) : Decidable (fitP P q) := Classical.propDecidable _

theorem gdl {α : Type} {p s : List α} {d : α} {i : Nat} (h : i < p.length) : (p ++ s).getD i d = p.getD i d := by simp [List.getD_eq_getElem?_getD, List.getElem?_append_left h]
theorem fitP_nil (P : List (List Bool)) : fitP P [] := fun _ _ _ h => absurd h (Nat.not_lt_zero _)
theorem fitP_append {P : List (List Bool)} {p s : List Int} (h : fitP P (p ++ s)) : fitP P p := by
  intro i j hj hi hq
  have := h i j hj (by simp; omega)
  apply this
  rw [gdl hi, gdl (by omega)]; exact hq
theorem fitP_snoc {P : List (List Bool)} {p : List Int} {c : Int} (h : fitP P p) : fitP P (p ++ [c]) ↔ ∀ o, o < p.length → p.getD o 0 = c → mt P p.length o = false := by
  constructor
  · intro hf o ho hc
    apply hf p.length o ho (by simp)
    rw [gdl ho, hc]; simp
  · intro hf i j hj hi hq
    simp at hi
    by_cases hi' : i < p.length
    · rw [gdl hi', gdl (by omega)] at hq
      exact h i j hj hi' hq
    · have : i = p.length := by omega
      subst this
      rw [gdl hj] at hq
      exact hf j hj (by rw [← hq]; simp)
theorem fitP_map {P : List (List Bool)} {q : List Int} (σ : Int → Int) (hσ : ∀ x y, σ x = σ y → x = y) (h : fitP P q) : fitP P (q.map σ) := by
  intro i j hj hi hq
  simp at hi
  apply h i j hj hi
  apply hσ
  have e : ∀ k, k < q.length → (q.map σ).getD k 0 = σ (q.getD k 0) := by intro k hk; simp [List.getD_eq_getElem?_getD, hk]
  rw [e i hi, e j (by omega)] at hq; exact hq

def pr (o : Option (List Int)) : List Int × Bool := match o with | some q => (q, true) | none => ([], false)
/-- the first fitting colours, in lexicographical order, below m -/
noncomputable def srch (P : List (List Bool)) (m : Nat) : Nat → List Int → Option (List Int)
  | 0, p => some p
  | r + 1, p => (List.range' 0 m).findSome? fun c : Nat => if fitP P (p ++ [(c : Int)]) then srch P m r (p ++ [(c : Int)]) else none
def top (p : List Int) (t : Int) : Int := p.foldl (fun t x => mx t (x + 1)) t
theorem top_ge : ∀ (p : List Int) (t : Int), t ≤ top p t
  | [], t => Int.le_refl t
  | x :: p, t => Int.le_trans (by unfold mx; split <;> omega) (top_ge p (mx t (x + 1)))
theorem top_gt : ∀ (p : List Int) (t x : Int), x ∈ p → x < top p t
  | y :: p, t, x, h => by
    rcases List.mem_cons.1 h with rfl | h
    · have := top_ge p (mx t (x + 1)); have : x + 1 ≤ mx t (x + 1) := by unfold mx; split <;> omega
      show x < top p (mx t (x + 1)); omega
    · exact top_gt p _ x h
theorem top_le : ∀ (p : List Int) (t m : Int), t ≤ m → (∀ x ∈ p, x < m) → top p t ≤ m
  | [], t, m, h, _ => h
  | y :: p, t, m, h, hp => top_le p _ m (by have := hp y (by simp); show mx t (y + 1) ≤ m; unfold mx; split <;> omega) (fun x hx => hp x (by simp [hx]))
/-- the same, with at most one new colour at each column -/
noncomputable def prn (P : List (List Bool)) (m : Nat) : Nat → List Int → Option (List Int)
  | 0, p => some p
  | r + 1, p => (List.range' 0 (min m ((top p 0).toNat + 1))).findSome? fun c : Nat => if fitP P (p ++ [(c : Int)]) then prn P m r (p ++ [(c : Int)]) else none

theorem findSome_congr {α β : Type} {f g : α → Option β} : ∀ {l : List α}, (∀ x ∈ l, f x = g x) → l.findSome? f = l.findSome? g
  | [], _ => rfl
  | x :: l, h => by rw [List.findSome?_cons, List.findSome?_cons, h x (by simp), findSome_congr (fun y hy => h y (by simp [hy]))]
theorem srch_sound {P : List (List Bool)} {m : Nat} : ∀ {r : Nat} {p q : List Int}, fitP P p → srch P m r p = some q → ∃ s, q = p ++ s ∧ s.length = r ∧ (∀ x ∈ s, 0 ≤ x ∧ x < m) ∧ fitP P q
  | 0, p, q, hp, h => ⟨[], by simp [srch] at h; simp [h], rfl, by simp, by simp [srch] at h; exact h ▸ hp⟩
  | r + 1, p, q, hp, h => by
    rw [srch] at h
    obtain ⟨c, hc, h⟩ := List.exists_of_findSome?_eq_some h
    split at h
    · rename_i hf
      obtain ⟨s, hs, hl, hb, hq⟩ := srch_sound hf h
      refine ⟨(c : Int) :: s, by simp [hs], by simp [hl], ?_, hq⟩
      intro x hx
      rcases List.mem_cons.1 hx with rfl | hx
      · simp [List.mem_range'] at hc; omega
      · exact hb x hx
    · exact absurd h (by simp)
theorem srch_complete {P : List (List Bool)} {m : Nat} : ∀ {r : Nat} {p s : List Int}, s.length = r → (∀ x ∈ s, 0 ≤ x ∧ x < m) → fitP P (p ++ s) → srch P m r p ≠ none
  | 0, p, s, _, _, _ => by simp [srch]
  | r + 1, p, [], h, _, _ => by simp at h
  | r + 1, p, x :: s, hl, hb, hf => by
    rw [srch]
    intro hn
    rw [List.findSome?_eq_none_iff] at hn
    have hx := hb x (by simp)
    have := hn x.toNat (by simp [List.mem_range']; omega)
    have e : ((x.toNat : Nat) : Int) = x := by omega
    rw [e] at this
    have hf' : fitP P ((p ++ [x]) ++ s) := by simpa using hf
    rw [if_pos (fitP_append hf')] at this
    exact srch_complete (by simpa using hl) (fun y hy => hb y (by simp [hy])) hf' this
theorem prn_eq {P : List (List Bool)} {m : Nat} : ∀ {r : Nat} {p : List Int}, fitP P p → (∀ x ∈ p, 0 ≤ x) → prn P m r p = srch P m r p
  | 0, p, _, _ => rfl
  | r + 1, p, hp, h0 => by
    rw [prn, srch]
    have e : ∀ l : List Nat, l.findSome? (fun c : Nat => if fitP P (p ++ [(c : Int)]) then prn P m r (p ++ [(c : Int)]) else none) = l.findSome? (fun c : Nat => if fitP P (p ++ [(c : Int)]) then srch P m r (p ++ [(c : Int)]) else none) := by
      intro l; apply findSome_congr; intro c _
      split
      · rename_i hf; exact prn_eq hf (fun x hx => by rcases List.mem_append.1 hx with hx | hx; exact h0 x hx; simp at hx; omega)
      · rfl
    rw [e]
    have ht := top_ge p 0
    by_cases hm : m ≤ (top p 0).toNat + 1
    · rw [Nat.min_eq_left hm]
    · rw [Nat.min_eq_right (by omega)]
      have er : List.range' 0 m = List.range' 0 ((top p 0).toNat + 1) ++ List.range' (0 + 1 * ((top p 0).toNat + 1)) (m - ((top p 0).toNat + 1)) := by
        rw [List.range'_append]; congr 1; omega
      rw [er, List.findSome?_append]
      cases hs : List.findSome? (fun c : Nat => if fitP P (p ++ [(c : Int)]) then srch P m r (p ++ [(c : Int)]) else none) (List.range' 0 ((top p 0).toNat + 1)) with
      | some v => simp
      | none =>
        rw [List.findSome?_eq_none_iff] at hs
        have h1 := hs (top p 0).toNat (by simp [List.mem_range'])
        have e1 : (((top p 0).toNat : Nat) : Int) = top p 0 := by omega
        rw [e1] at h1
        simp only [Option.none_or]
        symm; rw [List.findSome?_eq_none_iff]
        intro c hc
        simp [List.mem_range'] at hc
        split
        · rename_i hf
          cases hq : srch P m r (p ++ [(c : Int)]) with
          | none => rfl
          | some q =>
            exfalso
            obtain ⟨s, hs', hl, hb, hq'⟩ := srch_sound hf hq
            subst hs'
            let σ : Int → Int := fun x => if x = c then top p 0 else if x = top p 0 then c else x
            have hσ : ∀ x y, σ x = σ y → x = y := by intro x y; simp only [σ]; split <;> split <;> (try split) <;> (try split) <;> omega
            have hmap := fitP_map σ hσ hq'
            have ep : p.map σ = p := by
              conv => rhs; rw [← List.map_id p]
              apply List.map_congr_left; intro x hx
              have := top_gt p 0 x hx
              simp only [σ, id]; rw [if_neg (by omega), if_neg (by omega)]
            have ec : σ (c : Int) = top p 0 := by simp [σ]
            rw [List.map_append, List.map_append, ep, List.map_cons, List.map_nil, ec] at hmap
            rw [if_pos (fitP_append hmap)] at h1
            refine srch_complete (by simpa using hl) ?_ hmap h1
            intro x hx
            obtain ⟨y, hy, rfl⟩ := List.mem_map.1 hx
            have := hb y hy
            simp only [σ]; split
            · omega
            · split <;> omega
        · rfl
/-- a small pattern: no more than 14 rows -/
def formB (P : List (List Bool)) (n : Int) : Bool := decide (0 ≤ n) && decide (n ≤ 4096) && P.all fun row => decide ((row.length : Int) = n)
theorem form_is {P : List (List Bool)} (hP : P.length < 4096) (n : Int) : sparse_form.f P n = some (if formB P n = true then 0 else 2) := by
  unfold sparse_form.f formB
  rw [if_neg (by omega)]
  by_cases h0 : n < 0
  · rw [if_pos h0, if_neg (by simp; omega)]
  · by_cases h1 : n > 4096
    · rw [if_neg h0, if_pos h1, if_neg (by simp; omega)]
    · rw [if_neg h0, if_neg h1]
      by_cases h2 : P.any (fun x => decide (¬ (x.length : Int) = n)) = true
      · rw [if_pos h2, if_neg]
        simp at h2 ⊢
        exact fun _ _ => h2
      · rw [if_neg h2, if_pos]
        simp at h2 ⊢
        exact ⟨⟨by omega, by omega⟩, h2⟩
theorem form_rows {P : List (List Bool)} {n : Nat} (h : formB P n = true) : ∀ row ∈ P, row.length = n := by
  unfold formB at h; simp at h
  intro row hr; have := h.2 row hr; omega
/-- what cut keeps -/
def cutP (z : List (List Bool)) : List (List Bool) := (z.take 14).map fun row => row.take 16
theorem cutP_length (z : List (List Bool)) : (cutP z).length ≤ 14 := by unfold cutP; simp; omega
theorem refInts_l0 {x y : List Int} (hl : x.length = y.length) (hx : x.length < 4611686018427387904) : ∀ d i, i + d = x.length → (∀ j, j < i → x.getD j 0 = y.getD j 0) → Ev (fun k => fluxionref08_Ints.l0 k x y i) (decide (x = y))
  | 0, i, hi, h => by
    refine Ev.step (fun k => by rw [fluxionref08_Ints.l0]) ?_
    refine Ev.no (by omega) (Ev.is (Eq.symm (decide_eq_true ?_)))
    apply List.ext_getElem hl
    intro j h1 h2
    have := h j (by omega)
    simpa [List.getD_eq_getElem?_getD, h1, h2] using this
  | d + 1, i, hi, h => by
    refine Ev.step (fun k => by rw [fluxionref08_Ints.l0]) ?_
    refine Ev.yes (by omega) (Ev.yes (by omega) (Ev.yes (by omega) ?_))
    rw [wnx i (by omega)]
    have e1 : rd x (i : Int) = x.getD i 0 := rfl
    have e2 : rd y (i : Int) = y.getD i 0 := rfl
    rw [e1, e2]
    by_cases hc : x.getD i 0 = y.getD i 0
    · refine Ev.yes hc (refInts_l0 hl hx d (i + 1) (by omega) fun j hj => ?_)
      by_cases h2 : j < i
      · exact h j h2
      · have : j = i := by omega
        rw [this]; exact hc
    · exact Ev.no hc (Ev.is (Eq.symm (decide_eq_false fun h' => hc (by rw [h']))))
theorem refInts_f {x y : List Int} (hx : x.length < 4611686018427387904) : Ev (fun k => fluxionref08_Ints.f k x y) (decide (x = y)) := by
  unfold fluxionref08_Ints.f
  by_cases hl : x.length = y.length
  · exact Ev.yes (by omega) (refInts_l0 hl hx x.length 0 (by omega) (fun j h => absurd h (Nat.not_lt_zero _)))
  · exact Ev.no (by omega) (Ev.is (Eq.symm (decide_eq_false fun h => hl (by rw [h]))))
theorem row_L1 {P : List (List Bool)} {i : Nat} (h : i < P.length) : rd_L1 P (i : Int) = P[i] := by show P.getD i [] = _; simp [List.getD_eq_getElem?_getD, h]
theorem mt_drop {P : List (List Bool)} {i : Nat} (h : i < P.length) (a b : Nat) : mt (P.drop i) a b = ((P[i].getD a false && P[i].getD b false) || mt (P.drop (i + 1)) a b) := by
  unfold mt; rw [List.drop_eq_getElem_cons h, List.any_cons]
theorem meet_l0 {P : List (List Bool)} {n : Nat} (hP : P.length < 5000) (hn : ∀ row ∈ P, row.length = n) (a b : Nat) (ha : a < n) (hb : b < n) : ∀ d i, i + d = P.length → Ev (fun k => fluxionref19_meet.l0 k P a b i) (mt (P.drop i) a b)
  | 0, i, hi => by
    refine Ev.step (fun k => by rw [fluxionref19_meet.l0]) ?_
    refine Ev.no (by omega) (Ev.is ?_)
    rw [List.drop_eq_nil_of_le (by omega)]; rfl
  | d + 1, i, hi => by
    have hl : i < P.length := by omega
    have hr := hn P[i] (List.getElem_mem hl)
    refine Ev.step (fun k => by rw [fluxionref19_meet.l0]) ?_
    simp only [row_L1 hl]
    refine Ev.yes (by omega) (Ev.yes (by omega) (Ev.yes (by omega) (Ev.yes (by omega) ?_)))
    rw [mt_drop hl, wnx i (by omega)]
    have ih := meet_l0 hP hn a b ha hb d (i + 1) (by omega)
    have e1 : rdOf false P[i] (a : Int) = P[i].getD a false := rfl
    have e2 : rdOf false P[i] (b : Int) = P[i].getD b false := rfl
    by_cases h1 : P[i].getD a false = true
    · refine Ev.yes (e1.trans h1) (Ev.yes (by omega) (Ev.yes (by omega) ?_))
      by_cases h2 : P[i].getD b false = true
      · exact Ev.yes (e2.trans h2) (Ev.is (by rw [h1, h2]; rfl))
      · refine Ev.no (fun h => h2 (e2.symm.trans h)) ?_
        rw [Bool.not_eq_true] at h2; rw [h1, h2]; exact ih
    · refine Ev.no (fun h => h1 (e1.symm.trans h)) ?_
      rw [Bool.not_eq_true] at h1; rw [h1]; exact ih
theorem meet_f {P : List (List Bool)} {n : Nat} (hP : P.length < 5000) (hn : ∀ row ∈ P, row.length = n) (a b : Nat) (ha : a < n) (hb : b < n) : Ev (fun k => fluxionref19_meet.f k P a b) (mt P a b) := meet_l0 hP hn a b ha hb P.length 0 (by omega)

theorem range_succ (c d : Nat) : List.range' c (d + 1) = c :: List.range' (c + 1) d := List.range'_succ
theorem srch_full {P : List (List Bool)} {n : Nat} : srch P n n [] ≠ none := by
  refine srch_complete (s := (List.range n).map Int.ofNat) (by simp) (by intro x hx; simp at hx; obtain ⟨a, ha, rfl⟩ := hx; omega) ?_
  intro i j hj hi hq
  simp at hi
  have e : ∀ k, k < n → (([] : List Int) ++ (List.range n).map Int.ofNat).getD k 0 = (k : Int) := by intro k hk; simp [List.getD_eq_getElem?_getD, hk]
  rw [e i hi, e j (by omega)] at hq; omega
/-- the least number of colours -/
theorem least_is (P : List (List Bool)) (n : Nat) : ∃ m q, m ≤ n ∧ srch P m n [] = some q ∧ ∀ m', m' < m → srch P m' n [] = none := by
  have : ∀ d m, m + d = n → (∀ m', m' < m → srch P m' n [] = none) → ∃ m q, m ≤ n ∧ srch P m n [] = some q ∧ ∀ m', m' < m → srch P m' n [] = none := by
    intro d
    induction d with
    | zero =>
      intro m hm h
      have e : m = n := by omega
      subst e
      cases hs : srch P m m [] with
      | none => exact absurd hs srch_full
      | some q => exact ⟨m, q, Nat.le_refl _, hs, h⟩
    | succ d ih =>
      intro m hm h
      cases hs : srch P m n [] with
      | some q => exact ⟨m, q, by omega, hs, h⟩
      | none =>
        refine ih (m + 1) (by omega) fun m' h' => ?_
        by_cases h2 : m' < m
        · exact h m' h2
        · have : m' = m := by omega
          rw [this]; exact hs
  exact this n 0 (by omega) fun m' h => absurd h (Nat.not_lt_zero _)
theorem ofInt64 (a : Nat) (ha : a < 9223372036854775808) : (BitVec.ofInt 64 (a : Int)).toNat = a := by
  rw [BitVec.ofInt_natCast, BitVec.toNat_ofNat]; exact Nat.mod_eq_of_lt (by omega)
theorem or_i64 (a b : Nat) (ha : a < 9223372036854775808) (hb : b < 9223372036854775808) : Go.bits .or .i64 (a : Int) (b : Int) = ((a ||| b : Nat) : Int) := by
  have hx : a ||| b < 2 ^ 63 := Nat.or_lt_two_pow (by omega) (by omega)
  show IntKind.i64.wrap ((BitVec.ofInt 64 (a : Int) ||| BitVec.ofInt 64 (b : Int)).toNat : Int) = _
  rw [BitVec.toNat_or, ofInt64 a ha, ofInt64 b hb]
  rw [IntKind.wrap_i64]; omega
theorem and_i64 (a b : Nat) (ha : a < 9223372036854775808) (hb : b < 9223372036854775808) : Go.bits .and .i64 (a : Int) (b : Int) = ((a &&& b : Nat) : Int) := by
  have hx : a &&& b < 2 ^ 63 := Nat.and_lt_two_pow _ (by omega)
  show IntKind.i64.wrap ((BitVec.ofInt 64 (a : Int) &&& BitVec.ofInt 64 (b : Int)).toNat : Int) = _
  rw [BitVec.toNat_and, ofInt64 a ha, ofInt64 b hb]
  rw [IntKind.wrap_i64]; omega
theorem shl_one (o : Nat) (ho : o < 62) : shl .i64 1 (o : Int) = ((2 ^ o : Nat) : Int) := by
  have h : (2 : Nat) ^ o < 2 ^ 62 := Nat.pow_lt_pow_right (by decide) ho
  have e : min ((o : Int)).toNat (IntKind.bits .i64) = o := by show min o 64 = o; omega
  have e2 : (2 : Int) ^ o = ((2 ^ o : Nat) : Int) := by simp
  unfold shl; rw [e, Int.one_mul, e2]
  rw [IntKind.wrap_i64]; generalize (2 : Nat) ^ o = z at h ⊢; omega
theorem bit_is (a o : Nat) (ha : a < 9223372036854775808) (ho : o < 62) : ((Go.bits .and .i64 (shr .i64 (a : Int) (o : Int)) 1) == 0) = !(a.testBit o) := by
  have e : min ((o : Int)).toNat (IntKind.bits .i64) = o := by show min o 64 = o; omega
  have e2 : (a : Int) / 2 ^ o = ((a / 2 ^ o : Nat) : Int) := by simp
  have h : a / 2 ^ o < 9223372036854775808 := Nat.lt_of_le_of_lt (Nat.div_le_self _ _) ha
  unfold shr; rw [e, e2, show (1 : Int) = ((1 : Nat) : Int) from rfl, and_i64 _ _ h (by decide), Nat.and_one_is_mod, Nat.testBit_eq_decide_div_mod_eq]
  rcases Nat.mod_two_eq_zero_or_one (a / 2 ^ o) with h | h <;> rw [h] <;> rfl

/-- the masks of the columns that each column meets -/
def Masks (P : List (List Bool)) (n : Nat) (ms : List Nat) : Prop := ms.length = n ∧ ∀ j, j < n → ms.getD j 0 < 2 ^ 60 ∧ ∀ o, (ms.getD j 0).testBit o = mt P j o
def nums (ms : List Nat) : List Int := ms.map Int.ofNat
theorem nums_length (ms : List Nat) : (nums ms).length = ms.length := List.length_map _
theorem nums_rd (ms : List Nat) (j : Nat) : rd (nums ms) (j : Int) = ((ms.getD j 0 : Nat) : Int) := by
  show (nums ms).getD j 0 = _
  unfold nums; simp only [List.getD_eq_getElem?_getD, List.getElem?_map]
  cases ms[j]? <;> rfl
theorem finish_l2 {P : List (List Bool)} {n : Nat} (hn : n < 60) {ms : List Nat} (hM : Masks P n ms) (m : Int) {p : List Int} (hp : p.length < n) (t : Int) (c : Nat) (R : List Int × Bool)
    (yes : (∀ o, o < p.length → p.getD o 0 = c → mt P p.length o = false) → Ev (fun k => (slices_Clone_int_int.f p).bind fun t403 => (if t403.length < 17592186044416 then ((sparse_finish.f k (nums ms) (t403 ++ [(c : Int)]) m).bind fun bt409 => (if bt409.2 = true then (some (bt409.1, true)) else (sparse_finish.l1 k (nums ms) p m p.length t (wrap64 ((c : Int) + 1))))) else (none))) R)
    (no : ¬ (∀ o, o < p.length → p.getD o 0 = c → mt P p.length o = false) → Ev (fun k => sparse_finish.l1 k (nums ms) p m p.length t (wrap64 ((c : Int) + 1))) R) :
    ∀ d o b, o + d = p.length → (b = true ↔ ∀ o', o' < o → p.getD o' 0 = c → mt P p.length o' = false) → Ev (fun k => sparse_finish.l2 k (nums ms) p m p.length t c b p p.length o) R
  | 0, o, b, ho, hb => by
    refine Ev.step (fun k => by rw [sparse_finish.l2]) ?_
    refine Ev.no (by omega) ?_
    have e : o = p.length := by omega
    subst e
    cases b with
    | true => exact Ev.yes rfl (yes (hb.1 rfl))
    | false => exact Ev.no (by decide) (no fun h => absurd (hb.2 h) (by decide))
  | d + 1, o, b, ho, hb => by
    refine Ev.step (fun k => by rw [sparse_finish.l2]) ?_
    refine Ev.yes (by omega) (Ev.yes (by omega) (Ev.yes (by omega) ?_))
    rw [wnx o (by omega)]
    have ih := fun b => finish_l2 hn hM m hp t c R yes no d (o + 1) b (by omega)
    have e1 : rd p (o : Int) = p.getD o 0 := rfl
    have more : ∀ {Q : Nat → Prop}, (∀ o', o' < o + 1 → Q o') ↔ (∀ o', o' < o → Q o') ∧ Q o := by
      intro Q; constructor
      · exact fun h => ⟨fun o' h' => h o' (by omega), h o (by omega)⟩
      · intro h o' h'
        by_cases h2 : o' < o
        · exact h.1 o' h2
        · have : o' = o := by omega
          rw [this]; exact h.2
    cases b with
    | true =>
      refine Ev.yes rfl ?_
      by_cases hc : p.getD o 0 = (c : Int)
      · refine Ev.yes (e1.trans hc) (Ev.yes (by omega) (Ev.yes (by rw [nums_length, hM.1]; omega) ?_))
        have hm := hM.2 p.length hp
        rw [nums_rd, bit_is _ _ (by have := hm.1; omega) (by omega), hm.2]
        refine ih _ ?_
        rw [more, ← hb]
        simp [← hc]
      · refine Ev.no (fun h => hc (e1.symm.trans h)) (ih true ?_)
        rw [more, ← hb]; exact ⟨fun _ => ⟨rfl, fun h => absurd h hc⟩, fun _ => rfl⟩
    | false =>
      refine Ev.no (by decide) (ih false ?_)
      rw [more, ← hb]; simp
theorem finish_f {P : List (List Bool)} {n m : Nat} (hn : n < 60) (hm : m < 5000) {ms : List Nat} (hM : Masks P n ms) : ∀ r p, p.length + r = n → fitP P p → (∀ x ∈ p, 0 ≤ x ∧ x < m) → Ev (fun k => sparse_finish.f k (nums ms) p m) (pr (prn P m r p))
  | 0, p, hp, _, _ => by
    refine Ev.step (fun k => by rw [sparse_finish.f]) ?_
    exact Ev.yes (by rw [nums_length, hM.1]; omega) (Ev.now _)
  | r + 1, p, hp, hf, hb => by
    refine Ev.step (fun k => by rw [sparse_finish.f]) ?_
    refine Ev.no (by rw [nums_length, hM.1]; omega) ?_
    have ht0 := top_ge p 0
    have htm : top p 0 ≤ m := top_le p 0 m (by omega) (fun x hx => (hb x hx).2)
    have loop : ∀ d c, c + d = min m ((top p 0).toNat + 1) → Ev (fun k => sparse_finish.l1 k (nums ms) p m p.length (top p 0) c) (pr ((List.range' c d).findSome? fun c : Nat => if fitP P (p ++ [(c : Int)]) then prn P m r (p ++ [(c : Int)]) else none)) := by
      intro d
      induction d with
      | zero =>
        intro c hc
        refine Ev.step (fun k => by rw [sparse_finish.l1]) ?_
        by_cases h : (c : Int) ≤ top p 0
        · refine Ev.yes h ?_
          refine Ev.step (fun k => by rw [sparse_finish.j2]) ?_
          exact Ev.no (by simp; omega) (Ev.now _)
        · refine Ev.no h ?_
          refine Ev.step (fun k => by rw [sparse_finish.j2]) ?_
          exact Ev.no (by decide) (Ev.now _)
      | succ d ih =>
        intro c hc
        refine Ev.step (fun k => by rw [sparse_finish.l1]) ?_
        refine Ev.yes (by omega) ?_
        refine Ev.step (fun k => by rw [sparse_finish.j2]) ?_
        refine Ev.yes (by simp; omega) ?_
        have ihc := ih (c + 1) (by omega)
        rw [← wnx c (by omega)] at ihc
        rw [range_succ, List.findSome?_cons]
        refine finish_l2 hn hM m (by omega) (top p 0) c _ (fun hok => ?_) (fun hno => ?_) p.length 0 true (by omega) ⟨fun _ o' h => absurd h (Nat.not_lt_zero _), fun _ => rfl⟩
        · have hfit := (fitP_snoc hf).2 hok
          have hcl : slices_Clone_int_int.f p = some p := if_pos (by omega)
          rw [if_pos hfit, hcl]
          simp only [Option.bind_some]
          refine Ev.yes (by omega) (Ev.bind (finish_f hn hm hM r (p ++ [(c : Int)]) (by simp; omega) hfit ?_) ?_)
          · intro x hx
            rcases List.mem_append.1 hx with hx | hx
            · exact hb x hx
            · simp at hx; omega
          · cases prn P m r (p ++ [(c : Int)]) with
            | some q => exact Ev.yes rfl (Ev.now _)
            | none => exact Ev.no (by decide) ihc
        · have hfit : ¬ fitP P (p ++ [(c : Int)]) := fun h => hno ((fitP_snoc hf).1 h)
          rw [if_neg hfit]; exact ihc
    have tops : ∀ d i t, i + d = p.length → top (p.drop i) t = top p 0 → Ev (fun k => sparse_finish.l0 k (nums ms) p m p.length t p p.length i) (pr (prn P m (r + 1) p)) := by
      intro d
      induction d with
      | zero =>
        intro i t hi ht
        refine Ev.step (fun k => by rw [sparse_finish.l0]) ?_
        refine Ev.no (by omega) ?_
        rw [List.drop_eq_nil_of_le (by omega)] at ht
        have : t = top p 0 := ht
        rw [this, prn]; exact loop _ 0 (by omega)
      | succ d ih =>
        intro i t hi ht
        have hl : i < p.length := by omega
        have hx := hb p[i] (List.getElem_mem hl)
        refine Ev.step (fun k => by rw [sparse_finish.l0]) ?_
        refine Ev.yes (by omega) (Ev.yes (by omega) (Ev.yes (by omega) ?_))
        rw [wnx i (by omega)]
        refine ih (i + 1) _ (by omega) ?_
        have e : rd p (i : Int) = p[i] := by show p.getD i 0 = _; simp [List.getD_eq_getElem?_getD, hl]
        rw [List.drop_eq_getElem_cons hl] at ht
        rw [e, ← ht]
        have : wrap64 (p[i] + 1) = p[i] + 1 := by unfold wrap64; omega
        rw [this]; rfl
    exact tops p.length 0 0 (by omega) rfl
theorem mt_take {P : List (List Bool)} {i : Nat} (h : i < P.length) (a b : Nat) : mt (P.take (i + 1)) a b = (mt (P.take i) a b || (P[i].getD a false && P[i].getD b false)) := by
  unfold mt; rw [List.take_succ_eq_append_getElem h, List.any_append]; simp
theorem lt_of_bits {a n : Nat} (h : ∀ o, n ≤ o → a.testBit o = false) : a < 2 ^ n := Nat.lt_pow_two_of_testBit a fun i hi => h i hi
theorem pow60 {a n : Nat} (hn : n ≤ 60) (h : a < 2 ^ n) : a < 1152921504606846976 := Nat.lt_of_lt_of_le h (Nat.pow_le_pow_right (by decide) hn)
theorem getD_high {row : List Bool} {n o : Nat} (h : row.length = n) (ho : n ≤ o) : row.getD o false = false := by simp [List.getD_eq_getElem?_getD, List.getElem?_eq_none (show row.length ≤ o by omega)]
/-- the masks after some rows -/
def Upto (P : List (List Bool)) (n i : Nat) (ms : List Nat) : Prop := ms.length = n ∧ ∀ j, j < n → ∀ o, (ms.getD j 0).testBit o = mt (P.take i) j o
theorem mt_high {P : List (List Bool)} {n : Nat} (hn : ∀ row ∈ P, row.length = n) (j o : Nat) (ho : n ≤ o) : mt P j o = false := by
  unfold mt; rw [List.any_eq_false]; intro row hr
  rw [getD_high (hn row hr) ho]; simp
theorem Least_l1 {P : List (List Bool)} {n : Nat} (hn' : n < 60) {row : List Bool} (hr : row.length = n) (ms : List Int) (i : Int) (R : List Int × Int × Int)
    (next : ∀ a : Nat, (∀ o, a.testBit o = row.getD o false) → Ev (fun k => sparse_Least.l2 k ms a P P.length i row row.length 0) R) :
    ∀ d x (a : Nat), x + d = n → (∀ o, a.testBit o = (decide (o < x) && row.getD o false)) → Ev (fun k => sparse_Least.l1 k ms row a P P.length i row row.length x) R
  | 0, x, a, hx, ha => by
    refine Ev.step (fun k => by rw [sparse_Least.l1]) ?_
    refine Ev.no (by omega) (next a fun o => ?_)
    rw [ha o]
    by_cases h : o < x
    · simp [h]
    · rw [getD_high hr (by omega), Bool.and_false]
  | d + 1, x, a, hx, ha => by
    refine Ev.step (fun k => by rw [sparse_Least.l1]) ?_
    refine Ev.yes (by omega) (Ev.yes (by omega) (Ev.yes (by omega) ?_))
    rw [wnx x (by omega)]
    have e1 : rdOf false row (x : Int) = row.getD x false := rfl
    rw [e1]
    by_cases hb : row.getD x false = true
    · refine Ev.yes hb ?_
      have h1 : a < 1152921504606846976 := pow60 (n := x) (by omega) (lt_of_bits fun o ho => by rw [ha o]; simp; omega)
      have h2 : (2 : Nat) ^ x < 1152921504606846976 := Nat.pow_lt_pow_right (m := x) (n := 60) (by decide) (by omega)
      rw [shl_one x (by omega), or_i64 _ _ (by omega) (by generalize (2 : Nat) ^ x = z at h2 ⊢; omega)]
      refine Least_l1 hn' hr ms i R next d (x + 1) _ (by omega) fun o => ?_
      rw [Nat.testBit_or, ha o, Nat.testBit_two_pow]
      by_cases hox : o = x
      · subst hox; rw [hb]; simp
      · by_cases h : o < x
        · simp [h, show o < x + 1 by omega, show ¬ x = o by omega]
        · simp [h, show ¬ o < x + 1 by omega, show ¬ x = o by omega]
    · refine Ev.no hb ?_
      refine Least_l1 hn' hr ms i R next d (x + 1) a (by omega) fun o => ?_
      rw [ha o]
      by_cases hox : o = x
      · subst hox; simp at hb; simp [hb]
      · by_cases h : o < x
        · simp [h, show o < x + 1 by omega]
        · simp [h, show ¬ o < x + 1 by omega]
theorem getD_set {ms : List Nat} {x j v : Nat} (hx : x < ms.length) : (ms.set x v).getD j 0 = if j = x then v else ms.getD j 0 := by
  simp only [List.getD_eq_getElem?_getD, List.getElem?_set]
  by_cases h : j = x
  · subst h; simp [hx]
  · simp [h, show ¬ x = j by omega]
theorem Least_l2 {P : List (List Bool)} {n : Nat} (hn' : n < 60) (hn : ∀ row ∈ P, row.length = n) {i : Nat} (hi : i < P.length) (a : Nat) (ha : ∀ o, a.testBit o = P[i].getD o false) (hP : P.length < 4096) (R : List Int × Int × Int)
    (next : ∀ ms, Upto P n (i + 1) ms → Ev (fun k => sparse_Least.l0 k (nums ms) P P.length (i + 1 : Nat)) R) :
    ∀ d x ms, x + d = n → ms.length = n → (∀ j, j < n → ∀ o, (ms.getD j 0).testBit o = (mt (P.take i) j o || (decide (j < x) && (P[i].getD j false && P[i].getD o false)))) → Ev (fun k => sparse_Least.l2 k (nums ms) a P P.length i P[i] P[i].length x) R
  | 0, x, ms, hx, hl, hm => by
    have hr := hn P[i] (List.getElem_mem hi)
    refine Ev.step (fun k => by rw [sparse_Least.l2]) ?_
    refine Ev.no (by omega) ?_
    rw [wnx i (by omega)]
    refine next ms ⟨hl, fun j hj o => ?_⟩
    rw [hm j hj o, mt_take hi, decide_eq_true (by omega : j < x), Bool.true_and]
  | d + 1, x, ms, hx, hl, hm => by
    have hr := hn P[i] (List.getElem_mem hi)
    refine Ev.step (fun k => by rw [sparse_Least.l2]) ?_
    refine Ev.yes (by omega) (Ev.yes (by omega) (Ev.yes (by omega) ?_))
    rw [wnx x (by omega)]
    have e1 : rdOf false P[i] (x : Int) = P[i].getD x false := rfl
    rw [e1]
    have a60 : a < 1152921504606846976 := pow60 (n := n) (by omega) (lt_of_bits fun o ho => by rw [ha o, getD_high hr ho])
    have m60 : ms.getD x 0 < 1152921504606846976 := pow60 (n := n) (by omega) (lt_of_bits fun o ho => by
      rw [hm x (by omega) o, mt_high (fun row h => hn row (List.mem_of_mem_take h)) x o ho]; simp)
    by_cases hb : P[i].getD x false = true
    · refine Ev.yes hb (Ev.yes (by rw [nums_length]; omega) ?_)
      rw [nums_rd, or_i64 _ _ (by omega) (by omega)]
      have es : (nums ms).set ((x : Int)).toNat (((ms.getD x 0 ||| a : Nat)) : Int) = nums (ms.set x (ms.getD x 0 ||| a)) := by
        rw [Int.toNat_natCast]; unfold nums; rw [List.map_set]; rfl
      rw [es]
      refine Least_l2 hn' hn hi a ha hP R next d (x + 1) _ (by omega) (by simp [hl]) fun j hj o => ?_
      rw [getD_set (by omega)]
      by_cases hjx : j = x
      · subst hjx
        rw [if_pos rfl, Nat.testBit_or, hm j hj o, ha o, hb]; simp
      · rw [if_neg hjx, hm j hj o]
        by_cases h : j < x
        · simp [h, show j < x + 1 by omega]
        · simp [h, show ¬ j < x + 1 by omega]
    · refine Ev.no hb ?_
      refine Least_l2 hn' hn hi a ha hP R next d (x + 1) ms (by omega) hl fun j hj o => ?_
      rw [hm j hj o]
      by_cases hjx : j = x
      · subst hjx; simp at hb; simp [hb]
      · by_cases h : j < x
        · simp [h, show j < x + 1 by omega]
        · simp [h, show ¬ j < x + 1 by omega]
theorem Least_l0 {P : List (List Bool)} {n : Nat} (hn' : n < 60) (hn : ∀ row ∈ P, row.length = n) (hP : P.length < 4096) (R : List Int × Int × Int)
    (next : ∀ ms, Masks P n ms → Ev (fun k => sparse_Least.l3 k (nums ms) 0) R) :
    ∀ d i ms, i + d = P.length → Upto P n i ms → Ev (fun k => sparse_Least.l0 k (nums ms) P P.length i) R
  | 0, i, ms, hi, hu => by
    refine Ev.step (fun k => by rw [sparse_Least.l0]) ?_
    refine Ev.no (by omega) (next ms ⟨hu.1, fun j hj => ?_⟩)
    have e : P.take i = P := List.take_of_length_le (by omega)
    have h2 := fun o => hu.2 j hj o
    rw [e] at h2
    exact ⟨pow60 (n := n) (by omega) (lt_of_bits fun o ho => by rw [h2 o, mt_high hn j o ho]), h2⟩
  | d + 1, i, ms, hi, hu => by
    have hl : i < P.length := by omega
    have hr := hn P[i] (List.getElem_mem hl)
    refine Ev.step (fun k => by rw [sparse_Least.l0]) ?_
    refine Ev.yes (by omega) (Ev.yes (by omega) (Ev.yes (by omega) ?_))
    rw [row_L1 hl]
    refine Least_l1 hn' hr (nums ms) i R (fun a ha => ?_) n 0 0 (by omega) (by intro o; simp)
    exact Least_l2 hn' hn hl a ha hP R (fun ms' h => Least_l0 hn' hn hP R next d (i + 1) ms' (by omega) h) n 0 ms (by omega) hu.1 (fun j hj o => by rw [hu.2 j hj o]; simp)
theorem sparseLeast_f {P : List (List Bool)} {n m : Nat} {q : List Int} (hP : P.length < 4096) (hf : formB P n = true) (hn' : n ≤ 10) (hm : m ≤ n) (hs : srch P m n [] = some q) (hl : ∀ m', m' < m → srch P m' n [] = none) : Ev (fun k => sparse_Least.f k P n) (q, (m : Int), 0) := by
  have hn := form_rows hf
  unfold sparse_Least.f
  rw [form_is hP, if_pos hf]
  simp only [Option.bind_some]
  refine Ev.yes trivial (Ev.no (by omega) (Ev.yes (by omega) (Ev.yes (by omega) ?_)))
  have e0 : List.replicate ((n : Int)).toNat (0 : Int) = nums (List.replicate n 0) := by unfold nums; rw [List.map_replicate]; rfl
  rw [e0]
  refine Least_l0 (n := n) (by omega) hn hP _ (fun ms hM => ?_) P.length 0 _ (by omega) ⟨List.length_replicate, fun j hj o => ?_⟩
  · have loop : ∀ d m', m' + d = m → Ev (fun k => sparse_Least.l3 k (nums ms) m') (q, (m : Int), 0) := by
      intro d
      induction d with
      | zero =>
        intro m' h
        have e : m' = m := by omega
        subst e
        refine Ev.step (fun k => by rw [sparse_Least.l3]) ?_
        refine Ev.bind (finish_f (by omega) (by omega) hM n [] (by simp) (fitP_nil P) (by simp)) ?_
        rw [prn_eq (fitP_nil P) (by simp), hs]; exact Ev.yes rfl (Ev.now _)
      | succ d ih =>
        intro m' h
        refine Ev.step (fun k => by rw [sparse_Least.l3]) ?_
        refine Ev.bind (finish_f (by omega) (by omega) hM n [] (by simp) (fitP_nil P) (by simp)) ?_
        rw [prn_eq (fitP_nil P) (by simp), hl m' (by omega)]
        refine Ev.no (by decide) ?_
        rw [wnx m' (by omega)]; exact ih (m' + 1) (by omega)
    exact loop m 0 (by omega)
  · simp [List.getD_eq_getElem?_getD, hj, mt]
/-- a colour is taken at a column -/
def Tk (P : List (List Bool)) (out : List Int) (c : Int) : Prop := ∃ b, b < out.length ∧ out.getD b 0 = c ∧ mt P out.length b = true
theorem few_of_mem : ∀ (c : Nat) (l : List Int), (∀ c' : Nat, c' < c → (c' : Int) ∈ l) → c ≤ l.length
  | 0, _, _ => Nat.zero_le _
  | c + 1, l, h => by
    have h1 := h c (by omega)
    have := few_of_mem c (l.erase (c : Int)) fun c' h' => (List.mem_erase_of_ne (by omega)).2 (h c' (by omega))
    rw [List.length_erase_of_mem h1] at this
    have := List.length_pos_of_mem h1
    omega
/-- how many of the columns below meet a column -/
def deg (P : List (List Bool)) (a n : Nat) : Nat := ((List.range n).filter fun b => mt P a b).length
theorem tk_few {P : List (List Bool)} {out : List Int} {c : Nat} (h : ∀ c' : Nat, c' < c → Tk P out c') : c ≤ deg P out.length out.length := by
  have := few_of_mem c (((List.range out.length).filter fun b => mt P out.length b).map fun b => out.getD b 0) fun c' h' => by
    obtain ⟨b, hb, hc, hm⟩ := h c' h'
    rw [List.mem_map]
    exact ⟨b, by rw [List.mem_filter, List.mem_range]; exact ⟨hb, hm⟩, hc⟩
  rw [List.length_map] at this; exact this
theorem deg_le (P : List (List Bool)) (a n : Nat) : deg P a n ≤ n := by
  unfold deg; exact Nat.le_trans (List.length_filter_le _ _) (by simp)
/-- the least colour that is not taken -/
theorem free_is (P : List (List Bool)) (out : List Int) : ∃ c : Nat, c ≤ deg P out.length out.length ∧ ¬ Tk P out c ∧ ∀ c' : Nat, c' < c → Tk P out c' := by
  have : ∀ d c, c + d = deg P out.length out.length + 1 → (∀ c' : Nat, c' < c → Tk P out c') → ∃ c : Nat, c ≤ deg P out.length out.length ∧ ¬ Tk P out c ∧ ∀ c' : Nat, c' < c → Tk P out c' := by
    intro d
    induction d with
    | zero => intro c hc h; have := tk_few h; omega
    | succ d ih =>
      intro c hc h
      by_cases ht : Tk P out c
      · refine ih (c + 1) (by omega) fun c' h' => ?_
        by_cases h2 : c' < c
        · exact h c' h2
        · have : c' = c := by omega
          rw [this]; exact ht
      · exact ⟨c, tk_few h, ht, h⟩
  exact this (deg P out.length out.length + 1) 0 (by omega) fun c' h => absurd h (Nat.not_lt_zero _)
theorem free_fit {P : List (List Bool)} {out : List Int} {c : Int} (h : fitP P out) (hc : ¬ Tk P out c) : fitP P (out ++ [c]) := by
  rw [fitP_snoc h]; intro o ho he
  cases hm : mt P out.length o with
  | false => rfl
  | true => exact absurd ⟨o, ho, he, hm⟩ hc
theorem taken_is {P : List (List Bool)} {out : List Int} {c : Int} : takenF P (fun r => seenAt (P.getD r []) out out.length) out.length c = true ↔ Tk P out c := by
  unfold takenF seenAt Tk mt
  simp only [List.any_eq_true, Bool.and_eq_true, List.mem_range, beq_iff_eq]
  constructor
  · rintro ⟨r, hr, h1, j, hj, h2, h3⟩
    refine ⟨j, hj, h3, P.getD r [], ?_, h1, h2⟩
    rw [List.getD_eq_getElem?_getD, List.getElem?_eq_getElem hr]; exact List.getElem_mem hr
  · rintro ⟨b, hb, h1, row, hrow, h2, h3⟩
    obtain ⟨r, hr, rfl⟩ := List.getElem_of_mem hrow
    have e : P.getD r [] = P[r] := by rw [List.getD_eq_getElem?_getD, List.getElem?_eq_getElem hr]; rfl
    exact ⟨r, hr, by rw [e]; exact h2, b, hb, by rw [e]; exact h3, h1⟩
theorem colPick_is {P : List (List Bool)} {out : List Int} {cs : Nat} (hc : ¬ Tk P out cs) (hl : ∀ c' : Nat, c' < cs → Tk P out c') : ∀ d c n, c + d = cs → d < n → colPick P out n c = some (cs : Int)
  | 0, c, n + 1, h, _ => by
    have e : c = cs := by omega
    subst e
    rw [colPick, if_neg (fun h => hc (taken_is.1 h))]
  | d + 1, c, n + 1, h, hn => by
    rw [colPick, if_pos (taken_is.2 (hl c (by omega)))]
    exact colPick_is hc hl d (c + 1) n (by omega) (by omega)
/-- the greedy colouring: it fits, and how great its colours are -/
theorem greedy {P : List (List Bool)} {n : Nat} (hn' : n < 4096) : ∀ d out, out.length + d = n → fitP P out → (∀ i, i < out.length → 0 ≤ out.getD i 0 ∧ out.getD i 0 ≤ deg P i i) →
    ∃ L, colGo P d out = some L ∧ fitP P L ∧ L.length = n ∧ ∀ i, i < n → 0 ≤ L.getD i 0 ∧ L.getD i 0 ≤ deg P i i
  | 0, out, ho, hf, hb => ⟨out, rfl, hf, by omega, fun i hi => hb i (by omega)⟩
  | d + 1, out, ho, hf, hb => by
    obtain ⟨cs, h1, h2, h3⟩ := free_is P out
    have hdl := deg_le P out.length out.length
    obtain ⟨L, g1, g3⟩ := greedy hn' d (out ++ [(cs : Int)]) (by simp; omega) (free_fit hf h2) (fun i hi => by
      simp at hi
      by_cases h : i < out.length
      · rw [gdl h]; exact hb i h
      · have : i = out.length := by omega
        subst this; simp; omega)
    refine ⟨L, ?_, g3⟩
    rw [colGo, show (0 : Int) = ((0 : Nat) : Int) from rfl, colPick_is h2 h3 cs 0 (out.length + 1) (by omega) (by omega)]; exact g1
theorem fitRows_is {P : List (List Bool)} {n : Nat} (hn : ∀ row ∈ P, row.length = n) {cs : List Int} (hc : cs.length = n) : (P.all fun row => fitRow row cs) = decide (fitP P cs) := by
  rw [Bool.eq_iff_iff, decide_eq_true_iff, List.all_eq_true]
  unfold fitRow fitAt seenAt
  constructor
  · intro h i j hj hi he
    cases hm : mt P i j with
    | false => rfl
    | true =>
      exfalso
      unfold mt at hm
      rw [List.any_eq_true] at hm
      obtain ⟨row, hr, hb⟩ := hm
      have := h row hr
      rw [List.all_eq_true] at this
      have := this i (List.mem_range.2 (by rw [hn row hr]; omega))
      rw [Bool.and_eq_true] at hb
      rw [hb.1, Bool.true_and, Bool.not_eq_true', List.any_eq_false] at this
      have := this j (List.mem_range.2 hj)
      rw [hb.2, he] at this; simp at this
  · intro h row hr
    rw [List.all_eq_true]
    intro i hi
    rw [List.mem_range, hn row hr] at hi
    rw [Bool.not_eq_true', Bool.and_eq_false_iff]
    by_cases h1 : row.getD i false = true
    · right
      rw [List.any_eq_false]
      intro j hj hb
      rw [List.mem_range] at hj
      rw [Bool.and_eq_true, beq_iff_eq] at hb
      have := h i j hj (by omega) hb.2.symm
      unfold mt at this
      rw [List.any_eq_false] at this
      exact this row hr (by rw [h1, hb.1]; rfl)
    · left; rw [Bool.not_eq_true] at h1; exact h1
/-- colours that can be: of the right number, none below 0 -/
def numB (n : Int) (c : List Int) : Bool := decide ((c.length : Int) = n) && c.all fun x => decide (0 ≤ x)
theorem painted_is (n : Int) (c : List Int) : sparse_painted.f n c = some (if numB n c = true then 0 else 2) := by
  unfold sparse_painted.f numB
  by_cases h : (c.length : Int) = n
  · rw [if_neg (by simpa using h)]
    by_cases h2 : c.any (fun x => decide (x < 0)) = true
    · rw [if_pos h2, if_neg]
      simp at h2 ⊢; exact fun _ => h2
    · rw [if_neg h2, if_pos]
      simp at h2 ⊢; exact ⟨h, h2⟩
  · rw [if_pos h, if_neg]; simp [h]
theorem sparseFits_is {P : List (List Bool)} (hP : P.length < 4096) (n : Int) {c : List Int} (hw : wfInts c = true) : sparse_Fits.f P n c = some (if formB P n = true ∧ numB n c = true then (decide (fitP P c), 0) else (false, 2)) := by
  unfold sparse_Fits.f
  rw [form_is hP]
  simp only [Option.bind_some]
  by_cases hf : formB P n = true
  · rw [if_pos hf, if_pos rfl, painted_is]
    simp only [Option.bind_some]
    by_cases hc : numB n c = true
    · have hn0 : 0 ≤ n := by unfold formB at hf; simp at hf; omega
      obtain ⟨m, rfl⟩ : ∃ m : Nat, n = m := ⟨n.toNat, by omega⟩
      have hl : c.length = m := by unfold numB at hc; simp at hc; omega
      have hn := form_rows hf
      have : sparse_fits.f P c = some (decide (fitP P c)) := by
        unfold sparse_fits.f
        rw [if_pos, fitRows_is hn hl]
        rw [hw, Bool.true_and, List.all_eq_true]
        intro row hr; rw [hn row hr, hl]; simp
      rw [if_pos hc, if_pos rfl, this, if_pos ⟨hf, hc⟩]; rfl
    · rw [if_neg hc, if_neg (by decide), if_neg (fun h => hc h.2)]
  · rw [if_neg hf, if_neg (by decide), if_neg (fun h => hf h.1)]
theorem sparseColours_err {P : List (List Bool)} (hP : P.length < 4096) {n : Int} (hf : ¬ formB P n = true) : sparse_Colours.f P n = some ([], 2) := by
  unfold sparse_Colours.f
  rw [form_is hP, if_neg hf]; simp
theorem sparseColours_ok {P : List (List Bool)} (hP : P.length < 4096) {n : Nat} (hf : formB P n = true) {L : List Int} (hL : colGo P n [] = some L) : sparse_Colours.f P n = some (L, 0) := by
  have hb : n ≤ 4096 := by unfold formB at hf; simp at hf; omega
  have : sparse_colours.f P n = some L := by
    unfold sparse_colours.f
    rw [if_pos, Int.toNat_natCast, hL]
    simp only [Bool.and_eq_true, decide_eq_true_iff, List.all_eq_true]
    exact ⟨⟨by omega, by omega⟩, fun row hr => by rw [form_rows hf row hr]; simp⟩
  unfold sparse_Colours.f
  rw [form_is hP, if_pos hf]
  simp only [Option.bind_some]
  rw [if_pos trivial, this]; rfl
/-- how many elements of a row are set -/
def setIn (row : List Bool) : Nat := row.countP id
def widest (P : List (List Bool)) (t : Int) : Int := P.foldl (fun t row => mx t (setIn row)) t
theorem setIn_drop {row : List Bool} {i : Nat} (h : i < row.length) : setIn (row.drop i) = (if row[i] = true then 1 else 0) + setIn (row.drop (i + 1)) := by
  unfold setIn; rw [List.drop_eq_getElem_cons h, List.countP_cons]; simp only [id]; split <;> omega
theorem setIn_le (row : List Bool) : setIn row ≤ row.length := List.countP_le_length
theorem rdB {row : List Bool} {i : Nat} (h : i < row.length) : rdOf false row (i : Int) = row[i] := by show row.getD i false = _; simp [List.getD_eq_getElem?_getD, h]
theorem progW_l1 {P : List (List Bool)} {i : Nat} (t : Int) {row : List Bool} (hr : row.length < 4096) (R : Int × Int)
    (next : Ev (fun k => sparse_Widest.l0 k (mx t (setIn row)) P P.length (wrap64 ((i : Int) + 1))) R) : ∀ d j (c : Nat), j + d = row.length → c + setIn (row.drop j) = setIn row → Ev (fun k => sparse_Widest.l1 k t c P P.length i row row.length j) R
  | 0, j, c, hj, hc => by
    refine Ev.step (fun k => by rw [sparse_Widest.l1]) ?_
    refine Ev.no (by omega) ?_
    rw [List.drop_eq_nil_of_le (by omega)] at hc
    have : c = setIn row := hc
    rw [this]; exact next
  | d + 1, j, c, hj, hc => by
    have hl : j < row.length := by omega
    have hle := setIn_le row
    refine Ev.step (fun k => by rw [sparse_Widest.l1]) ?_
    refine Ev.yes (by omega) (Ev.yes (by omega) (Ev.yes (by omega) ?_))
    rw [setIn_drop hl] at hc
    rw [rdB hl, wnx j (by omega)]
    by_cases hb : row[j] = true
    · rw [if_pos hb] at hc
      refine Ev.yes hb ?_
      rw [wnx c (by omega)]
      exact progW_l1 t hr R next d (j + 1) (c + 1) (by omega) (by omega)
    · rw [if_neg hb] at hc
      exact Ev.no hb (progW_l1 t hr R next d (j + 1) c (by omega) (by omega))
theorem progW_l0 {P : List (List Bool)} (hP : P.length < 4096) (hn : ∀ row ∈ P, row.length < 4096) : ∀ d i t, i + d = P.length → Ev (fun k => sparse_Widest.l0 k t P P.length i) (widest (P.drop i) t, 0)
  | 0, i, t, hi => by
    refine Ev.step (fun k => by rw [sparse_Widest.l0]) ?_
    refine Ev.no (by omega) (Ev.is ?_)
    rw [List.drop_eq_nil_of_le (by omega)]; rfl
  | d + 1, i, t, hi => by
    have hl : i < P.length := by omega
    refine Ev.step (fun k => by rw [sparse_Widest.l0]) ?_
    refine Ev.yes (by omega) (Ev.yes (by omega) (Ev.yes (by omega) ?_))
    rw [row_L1 hl, List.drop_eq_getElem_cons hl]
    refine progW_l1 t (hn _ (List.getElem_mem hl)) _ ?_ P[i].length 0 0 (by omega) (by simp)
    rw [wnx i (by omega)]
    exact progW_l0 hP hn d (i + 1) _ (by omega)
theorem sparseWidest_ok {P : List (List Bool)} (hP : P.length < 4096) (hn : ∀ row ∈ P, row.length < 4096) {n : Int} (hf : formB P n = true) : Ev (fun k => sparse_Widest.f k P n) (widest P 0, 0) := by
  unfold sparse_Widest.f
  rw [form_is hP, if_pos hf]
  simp only [Option.bind_some]
  exact Ev.yes trivial (progW_l0 hP hn P.length 0 0 (by omega))
theorem sparseWidest_err {P : List (List Bool)} (hP : P.length < 4096) {n : Int} (hf : ¬ formB P n = true) : Ev (fun k => sparse_Widest.f k P n) (0, 2) := by
  unfold sparse_Widest.f
  rw [form_is hP, if_neg hf]
  simp only [Option.bind_some]
  exact Ev.no (by decide) (Ev.now _)
/-- the pattern that fit makes -/
def fitRowTo (n : Nat) (row : List Bool) : List Bool := row.take (min row.length n) ++ (List.replicate n false).drop (min row.length n)
def fitPat (z : List (List Bool)) (n : Nat) : List (List Bool) := (z.take 12).map (fitRowTo n)
theorem fitRowTo_length (n : Nat) (row : List Bool) : (fitRowTo n row).length = n := by unfold fitRowTo; simp; omega
theorem fitPat_rows (z : List (List Bool)) (n : Nat) : ∀ row ∈ fitPat z n, row.length = n := by
  intro row hr; unfold fitPat at hr; obtain ⟨r, _, rfl⟩ := List.mem_map.1 hr; exact fitRowTo_length n r
theorem fitPat_length (z : List (List Bool)) (n : Nat) : (fitPat z n).length ≤ 12 := by unfold fitPat; simp; omega
theorem fitPat_form (z : List (List Bool)) {n : Nat} (hn : n ≤ 4096) : formB (fitPat z n) n = true := by
  unfold formB; simp only [Bool.and_eq_true, decide_eq_true_iff, List.all_eq_true]
  exact ⟨⟨by omega, by omega⟩, fun row hr => by rw [fitPat_rows z n row hr]⟩
theorem fit_l0 (z : List (List Bool)) {n : Nat} (hn : n < 4096) : ∀ d i out, i + d = min z.length 12 → out.length = i → Ev (fun k => fluxionlaw19_fit.l0 k z n out i) (out ++ ((z.drop i).take d).map (fitRowTo n))
  | 0, i, out, hi, ho => by
    refine Ev.step (fun k => by rw [fluxionlaw19_fit.l0]) ?_
    have e : out ++ ((z.drop i).take 0).map (fitRowTo n) = out := by simp
    rw [e]
    by_cases h : i < z.length
    · exact Ev.yes (by omega) (Ev.no (by omega) (Ev.now _))
    · exact Ev.no (by omega) (Ev.now _)
  | d + 1, i, out, hi, ho => by
    have hl : i < z.length := by omega
    refine Ev.step (fun k => by rw [fluxionlaw19_fit.l0]) ?_
    simp only [row_L1 hl, Option.bind_some, Int.toNat_natCast, List.length_replicate]
    refine Ev.yes (by omega) (Ev.yes (by omega) (Ev.yes (by omega) (Ev.yes (by omega) (Ev.yes (by omega) (Ev.yes (by omega) ?_)))))
    rw [wnx i (by omega), List.drop_eq_getElem_cons hl, List.take_succ_cons, List.map_cons]
    have := fit_l0 z hn d (i + 1) (out ++ [fitRowTo n z[i]]) (by omega) (by simp [ho])
    rw [List.append_assoc] at this; exact this
theorem fit_is (z : List (List Bool)) {n : Nat} (hn : n < 4096) : Ev (fun k => fluxionlaw19_fit.f k z n) (fitPat z n) := by
  have := fit_l0 z hn (min z.length 12) 0 [] (by omega) rfl
  have e : fitPat z n = [] ++ ((z.drop 0).take (min z.length 12)).map (fitRowTo n) := by
    unfold fitPat; rw [List.nil_append, List.drop_zero]; congr 1; rw [List.take_eq_take_iff]; omega
  rw [e]; exact this
theorem many_l0 {q : List Int} (hq : q.length < 4096) (hb : ∀ x ∈ q, 0 ≤ x ∧ x < 4096) : ∀ d i t, i + d = q.length → Ev (fun k => fluxionref19_Many.l0 k q t i) (top (q.drop i) t)
  | 0, i, t, hi => by
    refine Ev.step (fun k => by rw [fluxionref19_Many.l0]) ?_
    refine Ev.no (by omega) (Ev.is ?_)
    rw [List.drop_eq_nil_of_le (by omega)]; rfl
  | d + 1, i, t, hi => by
    have hl : i < q.length := by omega
    have hx := hb q[i] (List.getElem_mem hl)
    refine Ev.step (fun k => by rw [fluxionref19_Many.l0]) ?_
    refine Ev.yes (by omega) (Ev.yes (by omega) ?_)
    have e : rd q (i : Int) = q[i] := by show q.getD i 0 = _; simp [List.getD_eq_getElem?_getD, hl]
    have e2 : wrap64 (q[i] + 1) = q[i] + 1 := by unfold wrap64; omega
    rw [e, e2, wnx i (by omega), List.drop_eq_getElem_cons hl]
    exact many_l0 hq hb d (i + 1) _ (by omega)
theorem many_f {q : List Int} (hq : q.length < 4096) (hb : ∀ x ∈ q, 0 ≤ x ∧ x < 4096) : Ev (fun k => fluxionref19_Many.f k q) (top q 0) := many_l0 hq hb q.length 0 0 (by omega)
/-- how many other columns meet a column -/
def dgf (P : List (List Bool)) (a b d : Nat) : Nat := ((List.range' b d).filter fun b => !(b == a) && mt P a b).length
theorem dgf_le (P : List (List Bool)) (a b d : Nat) : dgf P a b d ≤ d := by
  unfold dgf; exact Nat.le_trans (List.length_filter_le _ _) (by simp)
theorem dgf_succ (P : List (List Bool)) (a b d : Nat) : dgf P a b (d + 1) = (if (!(b == a) && mt P a b) = true then 1 else 0) + dgf P a (b + 1) d := by
  unfold dgf; rw [range_succ, List.filter_cons]; split <;> simp <;> omega
theorem deg_dgf {P : List (List Bool)} {i n : Nat} (h : i < n) : deg P i i ≤ dgf P i 0 n := by
  have e : List.range' 0 n = List.range' 0 i ++ List.range' (0 + 1 * i) (n - i) := by rw [List.range'_append]; congr 1; omega
  unfold dgf deg; rw [e, List.filter_append, List.length_append, List.range_eq_range']
  have e2 : (List.range' 0 i).filter (fun b => mt P i b) = (List.range' 0 i).filter (fun b => !(b == i) && mt P i b) := by
    apply List.filter_congr; intro b hb
    have : b < i := by simp [List.mem_range'] at hb; omega
    simp [show ¬ b = i by omega]
  rw [e2]; omega
def meetsV (P : List (List Bool)) (n : Nat) : Nat → Nat → Int → Int
  | 0, _, t => t
  | d + 1, a, t => meetsV P n d (a + 1) (mx t (dgf P a 0 n))
theorem mx_ge (a b : Int) : a ≤ mx a b ∧ b ≤ mx a b := by unfold mx; split <;> omega
theorem meetsV_ge (P : List (List Bool)) (n : Nat) : ∀ d a t, t ≤ meetsV P n d a t
  | 0, _, t => Int.le_refl t
  | d + 1, a, t => Int.le_trans (mx_ge t _).1 (meetsV_ge P n d (a + 1) _)
theorem meetsV_all (P : List (List Bool)) (n : Nat) : ∀ d a t i, a ≤ i → i < a + d → (dgf P i 0 n : Int) ≤ meetsV P n d a t
  | 0, _, _, _, _, _ => by omega
  | d + 1, a, t, i, h1, h2 => by
    by_cases h : i = a
    · subst h; exact Int.le_trans (mx_ge t _).2 (meetsV_ge P n d (i + 1) _)
    · exact meetsV_all P n d (a + 1) _ i (by omega) (by omega)
theorem meetsV_le (P : List (List Bool)) (n : Nat) : ∀ (d a : Nat) (t : Int), t ≤ n → meetsV P n d a t ≤ n
  | 0, _, t, h => h
  | d + 1, a, t, h => meetsV_le P n d (a + 1) _ (by have := dgf_le P a 0 n; unfold mx; split <;> omega)
theorem meets_l1 {P : List (List Bool)} {n : Nat} (hP : P.length < 4096) (hn : ∀ row ∈ P, row.length = n) (hn' : n < 4096) (a : Nat) (ha : a < n) (t : Int) (R : Int)
    (next : Ev (fun k => fluxionref19_Meets.l0 k P n (mx t (dgf P a 0 n)) (wrap64 ((a : Int) + 1))) R) : ∀ d b (c : Nat), b + d = n → c + dgf P a b d = dgf P a 0 n → Ev (fun k => fluxionref19_Meets.l1 k P n t a c b) R
  | 0, b, c, hb, hc => by
    refine Ev.step (fun k => by rw [fluxionref19_Meets.l1]) ?_
    refine Ev.no (by omega) ?_
    have : c = dgf P a 0 n := hc
    rw [this]; exact next
  | d + 1, b, c, hb, hc => by
    have hle := dgf_le P a 0 n
    refine Ev.step (fun k => by rw [fluxionref19_Meets.l1]) ?_
    refine Ev.yes (by omega) ?_
    rw [dgf_succ] at hc
    rw [wnx b (by omega)]
    by_cases hba : b = a
    · subst hba
      refine Ev.yes rfl (meets_l1 hP hn hn' b ha t R next d (b + 1) c (by omega) ?_)
      simpa using hc
    · refine Ev.no (by omega) (Ev.bind (meet_f (by omega) hn a b ha (by omega)) ?_)
      cases hm : mt P a b with
      | true =>
        rw [hm] at hc; simp [hba] at hc
        refine Ev.yes rfl ?_
        rw [wnx c (by omega)]
        exact meets_l1 hP hn hn' a ha t R next d (b + 1) (c + 1) (by omega) (by omega)
      | false =>
        rw [hm] at hc; simp at hc
        exact Ev.no (by decide) (meets_l1 hP hn hn' a ha t R next d (b + 1) c (by omega) (by omega))
theorem meets_l0 {P : List (List Bool)} {n : Nat} (hP : P.length < 4096) (hn : ∀ row ∈ P, row.length = n) (hn' : n < 4096) : ∀ d a t, a + d = n → Ev (fun k => fluxionref19_Meets.l0 k P n t a) (meetsV P n d a t)
  | 0, a, t, ha => by
    refine Ev.step (fun k => by rw [fluxionref19_Meets.l0]) ?_
    exact Ev.no (by omega) (Ev.now _)
  | d + 1, a, t, ha => by
    refine Ev.step (fun k => by rw [fluxionref19_Meets.l0]) ?_
    refine Ev.yes (by omega) ?_
    refine meets_l1 hP hn hn' a (by omega) t _ ?_ n 0 0 (by omega) (by simp)
    rw [wnx a (by omega)]
    exact meets_l0 hP hn hn' d (a + 1) _ (by omega)
theorem meets_f {P : List (List Bool)} {n : Nat} (hP : P.length < 4096) (hn : ∀ row ∈ P, row.length = n) (hn' : n < 4096) : Ev (fun k => fluxionref19_Meets.f k P n) (meetsV P n n 0 0) := meets_l0 hP hn hn' n 0 0 (by omega)
theorem few_nodup : ∀ (m : Nat) (l : List Int), l.Nodup → (∀ x ∈ l, 0 ≤ x ∧ x < m) → l.length ≤ m
  | 0, [], _, _ => Nat.le_refl _
  | 0, x :: l, _, h => by have := h x (by simp); omega
  | m + 1, l, hd, h => by
    have := few_nodup m (l.erase (m : Int)) (hd.erase _) fun x hx => by
      have h1 := hd.mem_erase_iff.1 hx
      have := h x h1.2; omega
    rw [List.length_erase] at this; split at this <;> omega
theorem setIn_filter {row : List Bool} : ∀ d i, i + d = row.length → setIn (row.drop i) = ((List.range' i d).filter fun k => row.getD k false).length
  | 0, i, h => by rw [List.drop_eq_nil_of_le (by omega)]; rfl
  | d + 1, i, h => by
    have hl : i < row.length := by omega
    rw [setIn_drop hl, range_succ, List.filter_cons, setIn_filter d (i + 1) (by omega)]
    have e : row.getD i false = row[i] := by simp [List.getD_eq_getElem?_getD, hl]
    rw [e]; split <;> simp <;> omega
theorem set_few {P : List (List Bool)} {n m : Nat} (hn : ∀ row ∈ P, row.length = n) {q : List Int} (hq : q.length = n) (hf : fitP P q) (hb : ∀ x ∈ q, 0 ≤ x ∧ x < m) : ∀ row ∈ P, setIn row ≤ m := by
  intro row hr
  have h := setIn_filter (row := row) row.length 0 (by omega)
  rw [List.drop_zero] at h
  rw [h, ← List.length_map (fun k => q.getD k 0)]
  apply few_nodup
  · rw [List.Nodup, List.pairwise_map]
    refine List.Pairwise.imp_of_mem (R := fun a b => a < b) ?_ (List.Pairwise.filter _ List.pairwise_lt_range')
    intro a b ha hb hab he
    rw [List.mem_filter] at ha hb
    have hbl : b < q.length := by have := hb.1; simp [List.mem_range'] at this; have := hn row hr; omega
    have := hf b a hab hbl he.symm
    unfold mt at this
    rw [List.any_eq_false] at this
    exact this row hr (by rw [ha.2, hb.2]; rfl)
  · intro x hx
    obtain ⟨k, hk, rfl⟩ := List.mem_map.1 hx
    rw [List.mem_filter] at hk
    have hkl : k < q.length := by have := hk.1; simp [List.mem_range'] at this; have := hn row hr; omega
    have e : q.getD k 0 = q[k] := by simp [List.getD_eq_getElem?_getD, hkl]
    rw [e]; exact hb _ (List.getElem_mem hkl)
theorem widest_le : ∀ (P : List (List Bool)) (t m : Int), t ≤ m → (∀ row ∈ P, (setIn row : Int) ≤ m) → widest P t ≤ m
  | [], t, m, h, _ => h
  | r :: P, t, m, h, hp => widest_le P _ m (by have := hp r (by simp); show mx t (setIn r) ≤ m; unfold mx; split <;> omega) (fun row hr => hp row (by simp [hr]))
theorem mem_getD {l : List Int} {x : Int} (h : x ∈ l) : ∃ i, i < l.length ∧ l.getD i 0 = x := by
  obtain ⟨i, hi, rfl⟩ := List.getElem_of_mem h
  exact ⟨i, hi, by simp [List.getD_eq_getElem?_getD, hi]⟩
theorem numB_ok {n : Nat} {q : List Int} (h : q.length = n) (h0 : ∀ x ∈ q, 0 ≤ x) : numB n q = true := by
  unfold numB; simp only [Bool.and_eq_true, decide_eq_true_iff, List.all_eq_true]; exact ⟨by omega, h0⟩
theorem wf_ok {q : List Int} (h : ∀ x ∈ q, 0 ≤ x ∧ x < 4096) : wfInts q = true := by
  unfold wfInts; rw [List.all_eq_true]; intro x hx; have := h x hx
  rw [decide_eq_true (by omega), decide_eq_true (by omega)]; rfl
theorem SparseMany (z0 : List (List Bool)) (w0 : ∀ a, a ∈ z0 → ∀ b, b ∈ a → True) (a1 : Int) (w1 : (Lit.int .u8 a1).wf = true) : ∃ k, fluxionlaw19_SparseMany.f k z0 a1 = some true := by
  refine Ev.rounds ?_
  have halive : fluxionlaw19_alive.f = some true := rfl
  have hw : 0 ≤ a1 ∧ a1 ≤ 255 := by simpa [Lit.wf, IntKind.min, IntKind.max, IntKind.signed, IntKind.bits] using w1
  obtain ⟨n, hn9, en⟩ : ∃ n : Nat, n ≤ 9 ∧ wrap64 (Int.tmod a1 10) = n := ⟨(a1 % 10).toNat, by omega, by
    rw [Int.tmod_eq_emod_of_nonneg hw.1]; unfold wrap64; omega⟩
  unfold fluxionlaw19_SparseMany.f
  rw [en]
  refine Ev.bind (fit_is z0 (by omega)) ?_
  have hP := fitPat_length z0 n
  have hn := fitPat_rows z0 n
  have hf := fitPat_form z0 (n := n) (by omega)
  generalize fitPat z0 n = P at hP hn hf
  obtain ⟨L, g1, g3, g4, g5⟩ := greedy (n := n) (by omega) n [] (by simp) (fitP_nil P) (fun i h => by simp at h)
  obtain ⟨m, q, hm, hs, hl⟩ := least_is P n
  obtain ⟨s, e1, e2, e3, hqf⟩ := srch_sound (fitP_nil P) hs
  rw [List.nil_append] at e1
  subst e1
  have hLb : ∀ x ∈ L, 0 ≤ x ∧ x ≤ (dgf P 0 0 0 : Int) + meetsV P n n 0 0 := by
    intro x hx
    obtain ⟨i, hi, rfl⟩ := mem_getD hx
    have h1 := g5 i (by omega)
    have h2 := deg_dgf (P := P) (i := i) (n := n) (by omega)
    have h3 := meetsV_all P n n 0 0 i (by omega) (by omega)
    omega
  have hd0 : dgf P 0 0 0 = 0 := rfl
  have hmv := meetsV_le P n n 0 0 (by omega)
  have hL2 : ∀ x ∈ L, 0 ≤ x ∧ x < 4096 := fun x hx => by have := hLb x hx; omega
  have hq2 : ∀ x ∈ q, 0 ≤ x ∧ x < 4096 := fun x hx => by have := e3 x hx; omega
  simp only [sparseColours_ok (show P.length < 4096 by omega) hf g1, Option.bind_some]
  refine Ev.bind (sparseLeast_f (by omega) hf (by omega) hm hs hl) (Ev.bind (sparseWidest_ok (by omega) (fun row hr => by rw [hn row hr]; omega) hf) ?_)
  refine Ev.yes (by trivial) (Ev.yes (by trivial) (Ev.yes (by trivial) (Ev.yes (by omega) ?_)))
  refine Ev.step (fun k => by rw [fluxionlaw19_SparseMany.j0]) ?_
  refine Ev.no (by simp [e2]) ?_
  simp only [sparseFits_is (show P.length < 4096 by omega) (n : Int) (wf_ok hL2), sparseFits_is (show P.length < 4096 by omega) (n : Int) (wf_ok hq2), Option.bind_some]
  rw [if_pos ⟨hf, numB_ok g4 fun x hx => (hL2 x hx).1⟩, if_pos ⟨hf, numB_ok e2 fun x hx => (hq2 x hx).1⟩, halive]
  have ht0 := top_ge L 0
  have hq0 := top_ge q 0
  have htL : top L 0 ≤ 1 + meetsV P n n 0 0 ∨ n = 0 := by
    rcases Nat.eq_zero_or_pos n with h | h
    · exact .inr h
    · left
      have := meetsV_ge P n n 0 0
      exact top_le L 0 _ (by omega) fun x hx => by have := hLb x hx; omega
  have hmL : (m : Int) ≤ top L 0 := by
    refine Int.le_of_not_gt fun h => ?_
    have := hl (top L 0).toNat (by omega)
    exact srch_complete (P := P) (m := (top L 0).toNat) (p := []) (s := L) (by omega) (fun x hx => ⟨(hL2 x hx).1, by have := top_gt L 0 x hx; omega⟩) (by simpa using g3) this
  have hmq : (m : Int) = top q 0 := by
    have h1 : top q 0 ≤ m := top_le q 0 m (by omega) fun x hx => (e3 x hx).2
    refine Int.le_antisymm (Int.le_of_not_gt fun h => ?_) h1
    have := hl (top q 0).toNat (by omega)
    exact srch_complete (P := P) (m := (top q 0).toNat) (p := []) (s := q) (by omega) (fun x hx => ⟨(e3 x hx).1, by have := top_gt q 0 x hx; omega⟩) (by simpa using hqf) this
  have hw : widest P 0 ≤ m := widest_le P 0 m (by omega) fun row hr => by have := set_few hn e2 hqf e3 row hr; omega
  refine Ev.yes (by trivial) (Ev.yes (by trivial) (Ev.yes (decide_eq_true g3) (Ev.yes (decide_eq_true hqf) (Ev.yes hw (Ev.bind (many_f (by omega) hL2) (Ev.yes hmL (Ev.bind (many_f (by omega) hq2) (Ev.yes hmq ?_))))))))
  by_cases h0 : n = 0
  · exact Ev.yes (by omega) (Ev.now _)
  · refine Ev.no (by omega) (Ev.bind (many_f (by omega) hL2) (Ev.bind (meets_f (by omega) hn (by omega)) (Ev.yes ?_ (Ev.now _))))
    have := meetsV_ge P n n 0 0
    have : wrap64 (1 + meetsV P n n 0 0) = 1 + meetsV P n n 0 0 := by unfold wrap64; omega
    rw [this]; omega
end Go.Proofs.Ytjjbondlcjnaiaa.Pure
