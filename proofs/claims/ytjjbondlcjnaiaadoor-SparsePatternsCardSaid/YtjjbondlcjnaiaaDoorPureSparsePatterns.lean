/- What the program and the specification compute, without the program's code: the plain part of SparsePatterns. -/
import Derived.Test.YtjjbondlcjnaiaaDoorPSparsePatternsx
namespace Go.Proofs.YtjjbondlcjnaiaaDoor.Pure
open Go.RowKit Go.Proofs.YtjjbondlcjnaiaaDoor.PSparsePatterns Go.Proofs.YtjjbondlcjnaiaaDoorW.PrintWords Go.Proofs.YtjjbondlcjnaiaaDoorW.PrintLast Go.Proofs.YtjjbondlcjnaiaaDoorW.PrintMore
set_option linter.unusedVariables false
set_option linter.unusedSimpArgs false
theorem short_is {x : List Int} (hu : u32s x) (hl : x.length < 4294967296) : ∀ n, n ≤ x.length → Ev (fun k => fluxionref01_short.l0 k x n) (digN (valN (x.take n)))
  | 0, h => by
    refine Ev.step (fun k => by rw [fluxionref01_short.l0]) ?_
    refine Ev.no (by omega) (Ev.yes (by omega) (Ev.yes (by omega) (Ev.is ?_)))
    exact digN_zero.symm
  | n + 1, h => by
    refine Ev.step (fun k => by rw [fluxionref01_short.l0]) ?_
    rw [wpx (n + 1) (by omega) (by omega), Nat.add_sub_cancel]
    refine Ev.yes (by omega) (Ev.yes (by omega) (Ev.yes (by omega) ?_))
    have hs : x.take (n + 1) = x.take n ++ [x[n]] := List.take_succ_eq_append_getElem (by omega)
    have er : rd x (n : Int) = x[n] := by show x.getD n 0 = _; simp [List.getD_eq_getElem?_getD, show n < x.length by omega]
    have hd := hu x[n] (List.getElem_mem (by omega))
    rw [er, hs]
    by_cases h0 : x[n] = 0
    · refine Ev.yes h0 ?_
      rw [h0, digN_snoc_zero]; exact short_is hu hl n (by omega)
    · refine Ev.no h0 (Ev.yes (by omega) (Ev.yes (by omega) (Ev.is ?_)))
      rw [Int.toNat_natCast, hs]
      exact (digN_snoc (u32s_take hu n) (by omega)).symm
theorem short_f {x : List Int} (hu : u32s x) (hl : x.length < 4294967296) : Ev (fun k => fluxionref01_short.f k x) (digN (valN x)) := by
  have := short_is hu hl x.length (Nat.le_refl _)
  rw [List.take_length] at this; exact this
theorem refCompare_l0 {x y : List Int} (hx : u32s x) (hy : u32s y) (hl : x.length = y.length) (hs : x.length < 4294967296) : ∀ i, i ≤ x.length → Ev (fun k => fluxionref01_Compare.l0 k x y ((i : Int) - 1)) (cmpI (valN (x.take i)) (valN (y.take i)))
  | 0, hi => by
    refine Ev.step (fun k => by rw [fluxionref01_Compare.l0]) ?_
    exact Ev.no (by omega) (Ev.is (cmp_eq _).symm)
  | i + 1, hi => by
    refine Ev.step (fun k => by rw [fluxionref01_Compare.l0]) ?_
    have e : ((i + 1 : Nat) : Int) - 1 = (i : Int) := by omega
    rw [e, rd_dgt hx, rd_dgt hy, w64 _ (by omega)]
    refine Ev.yes (by omega) (Ev.yes (by omega) (Ev.yes (by omega) (Ev.yes (by omega) ?_)))
    have h1 := val_take_lt hx i
    have h2 := val_take_lt hy i
    rw [val_take_succ, val_take_succ]
    by_cases ha : dgt x i < dgt y i
    · exact Ev.yes (by omega) (Ev.is (cmp_lt (cmp_top h1 h2 ha)).symm)
    · by_cases hb : dgt y i < dgt x i
      · exact Ev.no (by omega) (Ev.yes (by omega) (Ev.is (cmp_gt (cmp_top h2 h1 hb)).symm))
      · have he : dgt x i = dgt y i := by omega
        refine Ev.no (by omega) (Ev.no (by omega) ?_)
        have ih := refCompare_l0 hx hy hl hs i (by omega)
        rw [he]
        have : cmpI (valN (x.take i) + 4294967296 ^ i * dgt y i) (valN (y.take i) + 4294967296 ^ i * dgt y i) = cmpI (valN (x.take i)) (valN (y.take i)) := by
          unfold cmpI; generalize 4294967296 ^ i * dgt y i = c; simp
        rw [this]; exact ih
theorem refCompare_f {x y : List Int} (hx : canon x) (hy : canon y) (hs : x.length < 4294967296) : Ev (fun k => fluxionref01_Compare.f k x y) (cmpI (valN x) (valN y)) := by
  unfold fluxionref01_Compare.f
  by_cases hl : x.length = y.length
  · refine Ev.yes (by omega) ?_
    have := refCompare_l0 hx.1 hy.1 hl hs x.length (Nat.le_refl _)
    rw [w64 _ (by omega)]
    rw [List.take_length, val_take_len (by omega)] at this; exact this
  · by_cases h : x.length < y.length
    · exact Ev.no (by omega) (Ev.yes (by omega) (Ev.is (cmp_lt (canon_lt_len hx.1 hy h)).symm))
    · exact Ev.no (by omega) (Ev.no (by omega) (Ev.is (cmp_gt (canon_lt_len hy.1 hx (by omega))).symm))
theorem refDigit_f {x : List Int} (hx : u32s x) (i : Nat) : fluxionref01_digit.f x i = some ((dgt x i : Nat) : Int) := by
  unfold fluxionref01_digit.f
  by_cases h : i < x.length
  · have := dgt_lt hx i
    rw [if_pos (by omega), if_pos (by omega), rd_dgt hx, u64w _ (by omega)]
  · rw [if_neg (by omega), dgt_high (by omega)]; rfl
theorem refSub_l0 {x y : List Int} (hx : u32s x) (hy : u32s y) (hl : valN y ≤ valN x) (hyl : y.length ≤ x.length) (hs : x.length < 4294967296) : ∀ d i (o : List Int) (b : Nat), i + d = x.length → o.length = x.length → u32s o → b ≤ 1 → valN (o.take i) + valN (y.take i) = valN (x.take i) + b * 4294967296 ^ i →
    Ev (fun k => fluxionref01_Sub.l0 k x y o b i) (digN (valN x - valN y))
  | 0, i, o, b, hi, ho, hu, hb, hv => by
    refine Ev.step (fun k => by rw [fluxionref01_Sub.l0]) ?_
    refine Ev.no (by omega) ?_
    rw [val_take_len (by omega), val_take_len (by omega), val_take_len (by omega)] at hv
    have hlt := val_lt hu
    have e : i = o.length := by omega
    have hb0 : b = 0 := by
      rcases Nat.eq_zero_or_pos b with h | h
      · exact h
      · have : b = 1 := by omega
        subst this; rw [← e] at hlt; omega
    subst hb0
    have : valN x - valN y = valN o := by omega
    rw [this]
    exact Ev.bind (short_f hu (by omega)) (Ev.now _)
  | d + 1, i, o, b, hi, ho, hu, hb, hv => by
    refine Ev.step (fun k => by rw [fluxionref01_Sub.l0]) ?_
    refine Ev.yes (by omega) (Ev.yes (by omega) ?_)
    simp only [refDigit_f hy, rd_dgt hx, Option.bind_some]
    have h1 := dgt_lt hx i
    have h2 := dgt_lt hy i
    refine Ev.yes (by omega) ?_
    rw [u64w (dgt x i) (by omega), u64w ((dgt x i : Int) + 4294967296) (by omega), u64w ((dgt x i : Int) + 4294967296 - dgt y i) (by omega), u64w ((dgt x i : Int) + 4294967296 - dgt y i - b) (by omega)]
    have e1 : ((dgt x i : Int) + 4294967296 - dgt y i - b) % 4294967296 = ((dgt x i + 4294967296 - dgt y i - b) % 4294967296 : Nat) := by omega
    have e2 : 1 - ((dgt x i : Int) + 4294967296 - dgt y i - b) / 4294967296 = ((1 - (dgt x i + 4294967296 - dgt y i - b) / 4294967296 : Nat) : Int) := by omega
    rw [e2, u64w _ (by omega), e1, wnx i (by omega), Int.toNat_natCast]
    refine refSub_l0 hx hy hl hyl hs d (i + 1) _ _ (by omega) (by rw [List.length_set]; exact ho) (u32s_set hu i (by omega)) (by omega) ?_
    rw [val_take_set (by omega), val_take_succ, val_take_succ, Int.toNat_natCast, Nat.pow_succ]
    generalize hB : 4294967296 ^ i = B at *
    generalize valN (o.take i) = O at *
    generalize valN (x.take i) = X at *
    generalize valN (y.take i) = Y at *
    generalize dgt x i = p at *
    generalize dgt y i = q at *
    have key : (p + 4294967296 - q - b) % 4294967296 + q + b = p + (1 - (p + 4294967296 - q - b) / 4294967296) * 4294967296 := by omega
    generalize (p + 4294967296 - q - b) % 4294967296 = r at *
    generalize 1 - (p + 4294967296 - q - b) / 4294967296 = c at *
    have k2 : B * (r + q + b) = B * (p + c * 4294967296) := by rw [key]
    rw [Nat.mul_add, Nat.mul_add, Nat.mul_add] at k2
    have k3 : B * (c * 4294967296) = c * (B * 4294967296) := by rw [Nat.mul_left_comm]
    rw [k3] at k2
    rw [Nat.mul_comm b B] at hv
    omega
theorem refSub_f {x y : List Int} (hx : u32s x) (hy : canon y) (hl : valN y ≤ valN x) (hs : x.length < 4294967296) : Ev (fun k => fluxionref01_Sub.f k x y) (digN (valN x - valN y)) := by
  unfold fluxionref01_Sub.f
  refine Ev.yes (by omega) (Ev.yes (by omega) ?_)
  rw [Int.toNat_natCast]
  exact refSub_l0 hx hy.1 hl (canon_len_le hy hx hl) hs x.length 0 _ 0 (by omega) List.length_replicate (u32s_zeros _) (by omega) (by simp [valN])
/-- digits that don't touch: 'or' is a sum -/
theorem half_mod (p : Nat) : p / 2 * 2 + p % 2 = p := by omega
theorem refTwice_l0 {x : List Int} (hx : u32s x) (hs : x.length < 4294967000) (b0 : Nat) : ∀ d i (o : List Int) (b : Nat), i + d = x.length → o.length = x.length + 1 → u32s o → b ≤ 1 → valN (o.take i) + b * 4294967296 ^ i = 2 * valN (x.take i) + b0 →
    Ev (fun k => fluxionref01_twice.l0 k x b o i) (digN (2 * valN x + b0))
  | 0, i, o, b, hi, ho, hu, hb, hv => by
    refine Ev.step (fun k => by rw [fluxionref01_twice.l0]) ?_
    refine Ev.no (by omega) (Ev.yes (by omega) (Ev.yes (by omega) ?_))
    have e : i = x.length := by omega
    subst e
    have h1 := val_take_set (x := o) (i := x.length) (by omega) ((b : Nat) : Int)
    rw [val_take_len (by rw [List.length_set]; omega), Int.toNat_natCast] at h1
    rw [List.take_length] at hv
    have : valN (o.set x.length (b : Int)) = 2 * valN x + b0 := by rw [h1, Nat.mul_comm]; exact hv
    rw [← this, Int.toNat_natCast]
    exact Ev.bind (short_f (u32s_set hu _ (by omega)) (by rw [List.length_set]; omega)) (Ev.now _)
  | d + 1, i, o, b, hi, ho, hu, hb, hv => by
    refine Ev.step (fun k => by rw [fluxionref01_twice.l0]) ?_
    refine Ev.yes (by omega) (Ev.yes (by omega) (Ev.yes (by omega) ?_))
    have h1 := dgt_lt hx i
    rw [rd_dgt hx]
    have e1 : ((dgt x i : Nat) : Int) * 2 % 4294967296 = ((2 ^ 1 * (dgt x i % 2147483648) : Nat) : Int) := by omega
    have e2 : ((dgt x i : Nat) : Int) / 2147483648 = ((dgt x i / 2147483648 : Nat) : Int) := by omega
    rw [e1, e2, bits_or_u32_nat _ _ (by omega) (by omega), or_add _ _ _ (by omega), wnx i (by omega), Int.toNat_natCast]
    refine refTwice_l0 hx hs b0 d (i + 1) _ _ (by omega) (by rw [List.length_set]; exact ho) (u32s_set hu i (by omega)) (by omega) ?_
    rw [val_take_set (by omega), val_take_succ, Int.toNat_natCast, powB i]
    generalize 4294967296 ^ i = B at *
    generalize valN (o.take i) = O at *
    generalize valN (x.take i) = X at *
    generalize dgt x i = p at *
    have key : 2 ^ 1 * (p % 2147483648) + b + p / 2147483648 * 4294967296 = 2 * p + b := by omega
    generalize 2 ^ 1 * (p % 2147483648) + b = r at *
    generalize p / 2147483648 = c at *
    have k2 : B * (r + c * 4294967296) = B * (2 * p + b) := by rw [key]
    rw [Nat.mul_add, Nat.mul_add] at k2
    have k3 : B * (c * 4294967296) = c * (B * 4294967296) := by rw [Nat.mul_left_comm]
    have k4 : B * (2 * p) = 2 * (B * p) := by rw [Nat.mul_left_comm]
    rw [k3, k4] at k2
    rw [Nat.mul_comm b B] at hv
    omega
theorem refTwice_f {x : List Int} (hx : u32s x) (hs : x.length < 4294967000) (b : Nat) (hb : b ≤ 1) : Ev (fun k => fluxionref01_twice.f k x b) (digN (2 * valN x + b)) := by
  unfold fluxionref01_twice.f
  rw [wnx x.length (by omega)]
  refine Ev.yes (by omega) (Ev.yes (by omega) ?_)
  rw [Int.toNat_natCast]
  exact refTwice_l0 hx hs b x.length 0 _ b (by omega) (by simp) (u32s_zeros _) hb (by simp [valN])
theorem val_split (x : List Int) (i : Nat) : valN x = valN (x.take i) + 4294967296 ^ i * valN (x.drop i) := by
  by_cases h : i ≤ x.length
  · conv => lhs; rw [← List.take_append_drop i x]
    rw [val_append, List.length_take, Nat.min_eq_left h]
  · rw [List.drop_eq_nil_of_le (by omega), List.take_of_length_le (by omega)]; simp [valN]
theorem refHalf_l0 {x : List Int} (hx : u32s x) (hs : x.length < 4294967000) : ∀ i (o : List Int) (b : Nat), i ≤ x.length → o.length = x.length → u32s o → b ≤ 1 → valN (x.drop i) = 2 * valN (o.drop i) + b →
    Ev (fun k => fluxionref01_half.l0 k x o b ((i : Int) - 1)) (digN (valN x / 2))
  | 0, o, b, hi, ho, hu, hb, hv => by
    refine Ev.step (fun k => by rw [fluxionref01_half.l0]) ?_
    refine Ev.no (by omega) ?_
    rw [List.drop_zero, List.drop_zero] at hv
    have : valN x / 2 = valN o := by omega
    rw [this]
    exact Ev.bind (short_f hu (by omega)) (Ev.now _)
  | i + 1, o, b, hi, ho, hu, hb, hv => by
    refine Ev.step (fun k => by rw [fluxionref01_half.l0]) ?_
    have e : ((i + 1 : Nat) : Int) - 1 = (i : Int) := by omega
    rw [e, rd_dgt hx, w64 _ (by omega)]
    refine Ev.yes (by omega) (Ev.yes (by omega) (Ev.yes (by omega) (Ev.yes (by omega) ?_)))
    have h1 := dgt_lt hx i
    have e1 : ((dgt x i : Nat) : Int) / 2 = ((dgt x i / 2 : Nat) : Int) := by omega
    have e2 : (b : Int) * 2147483648 % 4294967296 = ((2 ^ 31 * b : Nat) : Int) := by omega
    have e3 : Int.tmod ((dgt x i : Nat) : Int) 2 = ((dgt x i % 2 : Nat) : Int) := by rw [Int.tmod_eq_emod_of_nonneg (by omega)]; omega
    rw [e1, e2, e3, bits_or_u32_nat _ _ (by omega) (by omega), Nat.or_comm, or_add _ _ _ (by omega), Int.toNat_natCast]
    refine refHalf_l0 hx hs i _ _ (by omega) (by rw [List.length_set]; exact ho) (u32s_set hu i (by omega)) (by omega) ?_
    rw [val_drop_set (by omega), val_drop, Int.toNat_natCast]
    omega
theorem refHalf_f {x : List Int} (hx : u32s x) (hs : x.length < 4294967000) : Ev (fun k => fluxionref01_half.f k x) (digN (valN x / 2)) := by
  unfold fluxionref01_half.f
  refine Ev.yes (by omega) (Ev.yes (by omega) ?_)
  rw [w64 _ (by omega), Int.toNat_natCast]
  exact refHalf_l0 hx hs x.length _ 0 (by omega) List.length_replicate (u32s_zeros _) (by omega) (by rw [List.drop_length, List.drop_eq_nil_of_le (by simp)]; rfl)
/-- how many binary digits a number has -/
def nb (n : Nat) : Nat := if h : n = 0 then 0 else nb (n / 2) + 1
  termination_by n
  decreasing_by omega
theorem nb_zero : nb 0 = 0 := by rw [nb]; rfl
theorem nb_pos {n : Nat} (h : n ≠ 0) : nb n = nb (n / 2) + 1 := by rw [nb, dif_neg h]
theorem nb_lt (n : Nat) : n < 2 ^ nb n := by
  induction n using Nat.strongRecOn with
  | _ n ih =>
    by_cases h : n = 0
    · subst h; rw [nb_zero]; decide
    · have := ih (n / 2) (by omega); rw [nb_pos h, Nat.pow_succ]; omega
theorem nb_le {n k : Nat} (h : n < 2 ^ k) : nb n ≤ k := by
  induction k generalizing n with
  | zero => have : n = 0 := by simpa using h
            rw [this, nb_zero]; exact Nat.le_refl _
  | succ k ih =>
    by_cases h0 : n = 0
    · rw [h0, nb_zero]; omega
    · rw [nb_pos h0]; rw [Nat.pow_succ] at h; have := ih (n := n / 2) (by omega); omega
theorem nb_ge {n k : Nat} (h : 2 ^ k ≤ n) : k < nb n := by
  refine Nat.lt_of_not_le fun hk => ?_
  have h1 := nb_lt n
  have : 2 ^ nb n ≤ 2 ^ k := Nat.pow_le_pow_right (by decide) hk
  omega
theorem refBits_l0 : ∀ (n c : Nat), c + n < 8589934592 → Ev (fun k => fluxionref01_Bits.l0 k c n) ((c + nb n : Nat) : Int) := by
  intro n
  induction n using Nat.strongRecOn with
  | _ n ih =>
    intro c hc
    refine Ev.step (fun k => by rw [fluxionref01_Bits.l0]) ?_
    by_cases h : n = 0
    · subst h; refine Ev.no (by omega) (Ev.is ?_); rw [nb_zero]; rfl
    · refine Ev.yes (by omega) ?_
      have e1 : Int.tdiv (n : Int) 2 = ((n / 2 : Nat) : Int) := by rw [Int.tdiv_eq_ediv_of_nonneg (by omega)]; omega
      have := ih (n / 2) (by omega) (c + 1) (by omega)
      rw [e1, wnx c (by omega)]
      rw [nb_pos h, show c + (nb (n / 2) + 1) = c + 1 + nb (n / 2) by omega]
      by_cases hn : n / 2 < 4294967296
      · have e2 : ((n / 2 : Nat) : Int) % 4294967296 = ((n / 2 : Nat) : Int) := by omega
        rw [e2]; exact this
      · omega
theorem pow32 (i : Nat) : (4294967296 : Nat) ^ i = 2 ^ (32 * i) := by rw [Nat.pow_mul]
/-- the digits of a number, by its value -/
theorem dgt_val {x : List Int} (h : u32s x) (j : Nat) : dgt x j = valN x / 4294967296 ^ j % 4294967296 := by
  have h1 := val_take_lt h j
  have h2 := dgt_lt h j
  rw [val_split x j, val_drop, Nat.add_mul_div_left _ _ (by exact Nat.pow_pos (by decide)), Nat.div_eq_of_lt h1]
  omega
theorem nb_two (n k : Nat) (h : 2 ^ k ≤ n) (h2 : n < 2 ^ (k + 1)) : nb n = k + 1 := Nat.le_antisymm (nb_le h2) (nb_ge h)
theorem nb_top {x : List Int} (h : canon x) {k : Nat} (hk : x.length = k + 1) : nb (valN x) = 32 * k + nb (dgt x k) := by
  have hx : x ≠ [] := by intro e; rw [e] at hk; simp at hk
  have e := val_take_succ x k
  rw [val_take_len (by omega)] at e
  have h1 := val_take_lt h.1 k
  have hd : dgt x k ≠ 0 := by
    intro h0; rw [h0] at e
    have := val_ge h hk; omega
  have hn := nb_lt (dgt x k)
  obtain ⟨j, hj⟩ : ∃ j, nb (dgt x k) = j + 1 := ⟨nb (dgt x k / 2), nb_pos hd⟩
  have hlow : 2 ^ j ≤ dgt x k := by
    refine Nat.le_of_not_lt fun hl => ?_
    have := nb_le hl; omega
  rw [hj] at hn ⊢
  rw [← Nat.add_assoc]
  apply nb_two
  · rw [e, pow32, Nat.pow_add]
    exact Nat.le_trans (Nat.mul_le_mul_left _ hlow) (Nat.le_add_left _ _)
  · rw [pow32] at e h1
    have h3 : dgt x k + 1 ≤ 2 ^ (j + 1) := hn
    have h4 := Nat.mul_le_mul_left (2 ^ (32 * k)) h3
    rw [Nat.mul_add, Nat.mul_one] at h4
    rw [show 32 * k + j + 1 = 32 * k + (j + 1) by omega, Nat.pow_add, e]; omega
theorem refBits_f {x : List Int} (h : canon x) (hs : x.length < 100000000) : Ev (fun k => fluxionref01_Bits.f k x) ((nb (valN x) : Nat) : Int) := by
  unfold fluxionref01_Bits.f
  by_cases h0 : x.length = 0
  · have e : x = [] := List.length_eq_zero_iff.1 h0
    subst e
    refine Ev.yes rfl (Ev.is ?_)
    show (0 : Int) = ((nb 0 : Nat) : Int); rw [nb_zero]; rfl
  · obtain ⟨k, hk⟩ : ∃ k, x.length = k + 1 := ⟨x.length - 1, by omega⟩
    have h2 := dgt_lt h.1 k
    rw [wpx x.length (by omega) (by omega), hk, Nat.add_sub_cancel, rd_dgt h.1]
    refine Ev.no (by omega) (Ev.yes (by omega) (Ev.yes (by omega) ?_))
    have e : wrap64 (32 * (k : Int)) = ((32 * k : Nat) : Int) := by unfold wrap64; omega
    rw [e, nb_top h hk]
    exact refBits_l0 _ _ (by omega)
theorem refLong_f {x : List Int} (h : canon x) (hs : x.length < 100000000) : Ev (fun k => fluxionref02_Long.f k x) (decide (4096 < nb (valN x))) := by
  unfold fluxionref02_Long.f
  refine Ev.bind (refBits_f h hs) (Ev.is ?_)
  rw [decide_eq_decide]; omega
/-- a binary digit -/
def bt2 (n i : Nat) : Nat := n / 2 ^ i % 2
theorem bt2_le (n i : Nat) : bt2 n i ≤ 1 := by unfold bt2; omega
theorem refBit_f {x : List Int} (h : u32s x) {i : Nat} (hi : i < 32 * x.length) (hs : x.length < 100000000) : fluxionref01_bit.f x i = some ((bt2 (valN x) i : Nat) : Int) := by
  unfold fluxionref01_bit.f
  have e1 : Int.tdiv (i : Int) 32 = ((i / 32 : Nat) : Int) := by rw [Int.tdiv_eq_ediv_of_nonneg (by omega)]; omega
  have e2 : Int.tmod (i : Int) 32 = ((i % 32 : Nat) : Int) := by rw [Int.tmod_eq_emod_of_nonneg (by omega)]; omega
  rw [e1, e2, w64 ((i / 32 : Nat) : Int) (by omega), if_pos (by omega), if_pos (by omega), if_pos (by omega), rd_dgt h]
  have e3 : min (((i % 32 : Nat) : Int)).toNat (IntKind.bits .u32) = i % 32 := by show min (i % 32) 32 = _; omega
  have e4 : ((dgt x (i / 32) : Nat) : Int) / 2 ^ (i % 32) = ((dgt x (i / 32) / 2 ^ (i % 32) : Nat) : Int) := by simp
  unfold shr; rw [e3, e4, Int.tmod_eq_emod_of_nonneg (Int.natCast_nonneg _), dgt_val h]
  unfold bt2
  congr 1
  have e5 : i = 32 * (i / 32) + i % 32 := by omega
  have e6 : valN x / 2 ^ i = valN x / 4294967296 ^ (i / 32) / 2 ^ (i % 32) := by conv => lhs; rw [e5, Nat.pow_add, ← Nat.div_div_eq_div_mul, ← pow32]
  rw [e6]
  generalize valN x / 4294967296 ^ (i / 32) = m
  have hr : i % 32 < 32 := by omega
  generalize i % 32 = r at hr
  obtain ⟨s, hs'⟩ : ∃ s, 32 = r + (s + 1) := ⟨31 - r, by omega⟩
  have e7 : m = 4294967296 * (m / 4294967296) + m % 4294967296 := by omega
  generalize m / 4294967296 = a at e7
  generalize m % 4294967296 = b at e7
  subst e7
  have e8 : (4294967296 : Nat) * a = 2 ^ r * (2 * (2 ^ s * a)) := by
    have : (4294967296 : Nat) = 2 ^ r * (2 * 2 ^ s) := by
      have h32 : (4294967296 : Nat) = 2 ^ 32 := by decide
      rw [h32, hs', Nat.pow_add, Nat.pow_succ, Nat.mul_comm (2 ^ s) 2]
    rw [this]; simp [Nat.mul_assoc]
  rw [e8, Nat.mul_add_div (Nat.pow_pos (by decide))]
  omega
theorem dm_step (X Y b : Nat) (hY : 0 < Y) (hb : b ≤ 1) : (Y ≤ 2 * (X % Y) + b → (2 * X + b) / Y = 2 * (X / Y) + 1 ∧ (2 * X + b) % Y = 2 * (X % Y) + b - Y) ∧ (¬ Y ≤ 2 * (X % Y) + b → (2 * X + b) / Y = 2 * (X / Y) ∧ (2 * X + b) % Y = 2 * (X % Y) + b) := by
  have h1 := Nat.mod_lt X hY
  have h2 := Nat.div_add_mod X Y
  have e : 2 * X + b = Y * (2 * (X / Y)) + (2 * (X % Y) + b) := by
    have : Y * (2 * (X / Y)) = 2 * (Y * (X / Y)) := Nat.mul_left_comm _ _ _
    rw [this]; omega
  generalize 2 * (X / Y) = c at e
  have hr : 2 * (X % Y) + b < 2 * Y := by omega
  generalize 2 * (X % Y) + b = r at e hr
  rw [e]
  constructor
  · intro h
    rw [Nat.mul_add_div hY, Nat.mul_add_mod]
    refine ⟨?_, ?_⟩
    · rw [Nat.div_eq_of_lt_le (k := 1) (by omega) (by omega)]
    · rw [Nat.mod_eq_sub_mod h, Nat.mod_eq_of_lt (by omega)]
  · intro h
    rw [Nat.mul_add_div hY, Nat.mul_add_mod, Nat.div_eq_of_lt (by omega), Nat.mod_eq_of_lt (by omega)]; exact ⟨rfl, rfl⟩
theorem bt2_step (n i : Nat) : n / 2 ^ i = 2 * (n / 2 ^ (i + 1)) + bt2 n i := by
  unfold bt2; rw [Nat.pow_succ, ← Nat.div_div_eq_div_mul]; omega
/-- a binary digit set in a list -/
theorem set_bit {q : List Int} (hq : u32s q) {i : Nat} (hi : i < 32 * q.length) (hz : valN q % 2 ^ (i + 1) = 0) :
    u32s (q.set (i / 32) (((dgt q (i / 32) + 2 ^ (i % 32) : Nat)) : Int)) ∧ valN (q.set (i / 32) (((dgt q (i / 32) + 2 ^ (i % 32) : Nat)) : Int)) = valN q + 2 ^ i ∧ dgt q (i / 32) ||| 2 ^ (i % 32) = dgt q (i / 32) + 2 ^ (i % 32) ∧ 2 ^ (i % 32) < 4294967296 := by
  have hr : i % 32 < 32 := by omega
  have h2r : 2 ^ (i % 32) * 2 ^ (31 - i % 32) = 2147483648 := by rw [← Nat.pow_add, show i % 32 + (31 - i % 32) = 31 by omega]
  have hd := dgt_lt hq (i / 32)
  have hdv : dgt q (i / 32) % 2 ^ (i % 32 + 1) = 0 := by
    rw [dgt_val hq, pow32]
    have e : i + 1 = 32 * (i / 32) + (i % 32 + 1) := by omega
    obtain ⟨c, hc⟩ := Nat.dvd_of_mod_eq_zero hz
    rw [hc, e, Nat.pow_add, Nat.mul_assoc, Nat.mul_div_cancel_left _ (Nat.pow_pos (by decide))]
    have e3 : (4294967296 : Nat) = 2 ^ (i % 32 + 1) * 2 ^ (31 - i % 32) := by rw [← Nat.pow_add, show i % 32 + 1 + (31 - i % 32) = 32 by omega]
    rw [e3, Nat.mod_mul_right_mod, Nat.mul_mod_right]
  obtain ⟨c, hc⟩ := Nat.dvd_of_mod_eq_zero hdv
  have hc2 : 2 ^ (i % 32 + 1) = 2 ^ (i % 32) * 2 := by rw [Nat.pow_succ]
  have hor : dgt q (i / 32) ||| 2 ^ (i % 32) = dgt q (i / 32) + 2 ^ (i % 32) := by
    have hp : 2 ^ (i % 32) < 2 ^ (i % 32 + 1) := Nat.pow_lt_pow_right (by decide) (by omega)
    rw [hc, or_add _ _ _ hp]
  have hlt : 2 ^ (i % 32) < 4294967296 := Nat.lt_of_lt_of_le (Nat.pow_lt_pow_right (by decide) hr) (by decide)
  have hsum : dgt q (i / 32) + 2 ^ (i % 32) < 4294967296 := by
    rw [← hor]; exact Nat.or_lt_two_pow (n := 32) hd hlt
  refine ⟨u32s_set hq _ (by omega), ?_, hor, hlt⟩
  have hv := val_set (x := q) (i := i / 32) (by omega) (((dgt q (i / 32) + 2 ^ (i % 32) : Nat)) : Int)
  rw [Int.toNat_natCast, Nat.mul_add] at hv
  have e4 : 4294967296 ^ (i / 32) * 2 ^ (i % 32) = 2 ^ i := by rw [pow32, ← Nat.pow_add, show 32 * (i / 32) + i % 32 = i by omega]
  rw [e4] at hv; omega
theorem mul_two_pow (q i : Nat) : q * 2 ^ (i + 1) = 2 * q * 2 ^ i := by rw [Nat.pow_succ, Nat.mul_comm (2 ^ i) 2, ← Nat.mul_assoc, Nat.mul_comm q 2]
theorem cmpI_ge (a b : Nat) : (cmpI a b ≥ 0) ↔ b ≤ a := by unfold cmpI; split <;> (try split) <;> omega
theorem cmpI_gt (a b : Nat) : (cmpI a b > 0) ↔ b < a := by unfold cmpI; split <;> (try split) <;> omega
set_option maxHeartbeats 2000000 in
theorem refDiv_l0 {x y : List Int} (hx : u32s x) (hy : canon y) (hy0 : y ≠ []) (hs : x.length < 100000000) (hys : y.length < 100000000) : ∀ i (q : List Int), i ≤ 32 * x.length → q.length = x.length → u32s q → valN q = valN x / 2 ^ i / valN y * 2 ^ i →
    Ev (fun k => fluxionref01_Div.l0 k x y q (digN (valN x / 2 ^ i % valN y)) ((i : Int) - 1)) (digN (valN x / valN y), digN (valN x % valN y)) := by
  intro i
  induction i with
  | zero =>
    intro q hi hl hu hq
    refine Ev.step (fun k => by rw [fluxionref01_Div.l0]) ?_
    refine Ev.no (by omega) ?_
    simp only [Nat.pow_zero, Nat.div_one, Nat.mul_one] at hq
    rw [Nat.pow_zero, Nat.div_one, ← hq]
    exact Ev.bind (short_f hu (by omega)) (Ev.now _)
  | succ i ih0 =>
    intro q hi hl hu hq
    have hY := val_pos hy hy0
    have hb := bt2_le (valN x) i
    have hst := bt2_step (valN x) i
    have hdm := dm_step (valN x / 2 ^ (i + 1)) (valN y) (bt2 (valN x) i) hY hb
    have hrl : (digN (valN x / 2 ^ (i + 1) % valN y)).length ≤ y.length := len_digN_le (Nat.lt_trans (Nat.mod_lt _ hY) (val_lt hy.1))
    refine Ev.step (fun k => by rw [fluxionref01_Div.l0]) ?_
    have e : ((i + 1 : Nat) : Int) - 1 = (i : Int) := by omega
    rw [e]
    refine Ev.yes (by omega) ?_
    refine Ev.bind (Ev.con (refBit_f hx (show i < 32 * x.length by omega) hs)) ?_
    refine Ev.bind (refTwice_f (u32s_digN _) (by omega) _ hb) ?_
    rw [val_digN]
    have hlen2 : (digN (2 * (valN x / 2 ^ (i + 1) % valN y) + bt2 (valN x) i)).length ≤ y.length + 1 := by
      apply len_digN_le
      have h1 := Nat.mod_lt (valN x / 2 ^ (i + 1)) hY
      have h2 := val_lt hy.1
      rw [powB]
      have : 1 ≤ 4294967296 ^ y.length := Nat.pow_pos (by decide)
      generalize 4294967296 ^ y.length = B at *
      omega
    refine Ev.bind (refCompare_f (canon_digN _) hy (by omega)) ?_
    rw [val_digN]
    have e1 : Int.tdiv (i : Int) 32 = ((i / 32 : Nat) : Int) := by rw [Int.tdiv_eq_ediv_of_nonneg (by omega)]; omega
    have e2 : Int.tmod (i : Int) 32 = ((i % 32 : Nat) : Int) := by rw [Int.tmod_eq_emod_of_nonneg (by omega)]; omega
    rw [w64 ((i : Int) - 1) (by omega)]
    by_cases hge : valN y ≤ 2 * (valN x / 2 ^ (i + 1) % valN y) + bt2 (valN x) i
    · refine Ev.yes ((cmpI_ge _ _).2 hge) (Ev.bind (refSub_f (u32s_digN _) hy (by rw [val_digN]; exact hge) (by omega)) ?_)
      rw [val_digN, e1, e2, w64 ((i / 32 : Nat) : Int) (by omega)]
      have hz : valN q % 2 ^ (i + 1) = 0 := by rw [hq, Nat.mul_mod_left]
      obtain ⟨b1, b2, b3, b4⟩ := set_bit hu (i := i) (by omega) hz
      have e3 : shl .u32 1 ((i % 32 : Nat) : Int) = ((2 ^ (i % 32) : Nat) : Int) := by
        have e : min (((i % 32 : Nat) : Int)).toNat (IntKind.bits .u32) = i % 32 := by show min (i % 32) 32 = _; omega
        have e2 : (2 : Int) ^ (i % 32) = ((2 ^ (i % 32) : Nat) : Int) := by simp
        unfold shl; rw [e, Int.one_mul, e2, IntKind.wrap_u32]; generalize (2 : Nat) ^ (i % 32) = z at b4 ⊢; omega
      refine Ev.yes (by omega) (Ev.yes (by omega) (Ev.yes (by omega) ?_))
      rw [e3, rd_dgt hu, bits_or_u32_nat _ _ (dgt_lt hu _) b4, b3, Int.toNat_natCast]
      have ih := ih0 (q.set (i / 32) (((dgt q (i / 32) + 2 ^ (i % 32) : Nat)) : Int)) (by omega) (by rw [List.length_set]; exact hl) b1 (by
        rw [b2, hq, hst, (hdm.1 hge).1, mul_two_pow, Nat.add_mul, Nat.one_mul])
      rw [hst, (hdm.1 hge).2] at ih; exact ih
    · refine Ev.no (fun h => hge ((cmpI_ge _ _).1 h)) ?_
      have ih := ih0 q (by omega) hl hu (by
        rw [hq, hst, (hdm.2 hge).1, mul_two_pow])
      rw [hst, (hdm.2 hge).2] at ih; exact ih
theorem refDiv_f {x y : List Int} (hx : canon x) (hy : canon y) (hy0 : y ≠ []) (hs : x.length < 100000000) (hys : y.length < 100000000) : Ev (fun k => fluxionref01_Div.f k x y) (digN (valN x / valN y), digN (valN x % valN y)) := by
  unfold fluxionref01_Div.f
  have hnb : nb (valN x) ≤ 32 * x.length := nb_le (by rw [← pow32]; exact val_lt hx.1)
  refine Ev.yes (by omega) (Ev.yes (by omega) (Ev.bind (refBits_f hx hs) ?_))
  rw [w64 (((nb (valN x) : Nat) : Int) - 1) (by omega), Int.toNat_natCast]
  have h0 : valN x / 2 ^ nb (valN x) = 0 := Nat.div_eq_of_lt (nb_lt _)
  have := refDiv_l0 hx.1 hy hy0 hs hys (nb (valN x)) (List.replicate x.length 0) hnb List.length_replicate (u32s_zeros _) (by rw [h0, val_zeros]; simp)
  rw [h0, Nat.zero_mod, digN_zero] at this; exact this
theorem gcd_half {X Y : Nat} (hX : X % 2 = 0) (hY : Y % 2 = 1) : Nat.gcd (X / 2) Y = Nat.gcd X Y := by
  have hc : Nat.Coprime 2 Y := by show Nat.gcd 2 Y = 1; rw [Nat.gcd_rec, hY]; decide
  have e : X = 2 * (X / 2) := by omega
  conv => rhs; rw [e]
  exact (hc.gcd_mul_left_cancel _).symm
theorem gcd_less {X Y : Nat} (h : X ≤ Y) : Nat.gcd X (Y - X) = Nat.gcd X Y := by
  have e : Y = (Y - X) + X := by omega
  conv => rhs; rw [e]
  rw [Nat.gcd_add_self_right]
theorem first_digit {x : List Int} (h : u32s x) : Int.tmod (rd x 0) 2 = ((valN x % 2 : Nat) : Int) := by
  have h1 := dgt_lt h 0
  have e : valN x = dgt x 0 + 4294967296 * valN (x.drop 1) := by have := val_drop (x := x) (i := 0); rw [List.drop_zero] at this; exact this
  have e2 : rd x 0 = ((dgt x 0 : Nat) : Int) := rd_dgt h 0
  rw [e2, Int.tmod_eq_emod_of_nonneg (Int.natCast_nonneg _), e]; omega
theorem ne_nil_of_val {x : List Int} (h : 0 < valN x) : 0 < x.length := by
  cases x with
  | nil => exact absurd h (by simp [valN])
  | cons a x => simp
/-- a list that is the digits of a number below a bound -/
theorem small_len {n L : Nat} (h : n < 4294967296 ^ L) (hL : L < 1000000) : (digN n).length < 1000000 := Nat.lt_of_le_of_lt (len_digN_le h) hL
theorem even_or (n : Nat) : n % 2 = 0 ∨ n % 2 = 1 := by omega
theorem refGcd_l4 {L : Nat} (hL : L < 1000000) (g t : Nat) (ht : t < 4294967296) (hg : g * 2 ^ t < 4294967296 ^ L) : ∀ d i, i + d = t → Ev (fun k => fluxionref01_Gcd.l4 k (digN (g * 2 ^ i)) t i) (digN (g * 2 ^ t)) := by
  intro d
  induction d with
  | zero =>
    intro i hi
    have e : i = t := by omega
    subst e
    have := small_len hg hL
    refine Ev.step (fun k => by rw [fluxionref01_Gcd.l4]) ?_
    refine Ev.no (by omega) ?_
    simp only [Option.bind_some, List.nil_append, List.length_nil]
    exact Ev.yes (by omega) (Ev.now _)
  | succ d ih =>
    intro i hi
    have h1 : g * 2 ^ i < 4294967296 ^ L := Nat.lt_of_le_of_lt (Nat.mul_le_mul_left _ (Nat.pow_le_pow_right (by decide) (by omega))) hg
    have h2 := small_len h1 hL
    refine Ev.step (fun k => by rw [fluxionref01_Gcd.l4]) ?_
    refine Ev.yes (by omega) ?_
    rw [wnx i (by omega)]
    refine Ev.bind (refTwice_f (u32s_digN _) (by omega) 0 (by omega)) ?_
    have e : 2 * valN (digN (g * 2 ^ i)) + 0 = g * 2 ^ (i + 1) := by rw [val_digN, Nat.pow_succ, Nat.add_zero, Nat.mul_left_comm, Nat.mul_comm 2 (2 ^ i)]
    rw [e]; exact ih (i + 1) (by omega)
theorem refGcd_l3 {L : Nat} (hL : L < 1000000) (t : Nat) (R : List Int) (s : Nat) (hs : s < 4294967296 ^ L)
    (P1 : ∀ X Y, X + Y < s → 0 < X → X % 2 = 1 → Ev (fun k => fluxionref01_Gcd.l1 k (digN X) (digN Y) t) (digN (Nat.gcd X Y * 2 ^ t))) (X : Nat) (hX : X % 2 = 1) :
    ∀ Y, 0 < Y → X + Y ≤ s → Ev (fun k => fluxionref01_Gcd.l3 k (digN X) (digN Y) t) (digN (Nat.gcd X Y * 2 ^ t)) := by
  intro Y
  induction Y using Nat.strongRecOn with
  | _ Y ih =>
    intro hY hXY
    have l1 := small_len (n := X) (L := L) (by omega) hL
    have l2 := small_len (n := Y) (L := L) (by omega) hL
    have p2 := ne_nil_of_val (x := digN Y) (by rw [val_digN]; exact hY)
    refine Ev.step (fun k => by rw [fluxionref01_Gcd.l3]) ?_
    refine Ev.yes (by omega) ?_
    rw [first_digit (u32s_digN Y), val_digN]
    rcases even_or Y with h | h
    · refine Ev.yes (by omega) (Ev.bind (refHalf_f (u32s_digN Y) (by omega)) ?_)
      rw [val_digN]
      have := ih (Y / 2) (by omega) (by omega) (by omega)
      rw [Nat.gcd_comm X, gcd_half h hX, Nat.gcd_comm] at this; exact this
    · refine Ev.no (by omega) (Ev.bind (refCompare_f (canon_digN X) (canon_digN Y) (by omega)) ?_)
      rw [val_digN, val_digN]
      by_cases hc : Y < X
      · refine Ev.yes ((cmpI_gt _ _).2 hc) (Ev.bind (refSub_f (u32s_digN X) (canon_digN Y) (by rw [val_digN, val_digN]; omega) (by omega)) ?_)
        rw [val_digN, val_digN]
        have := P1 Y (X - Y) (by omega) hY h
        rw [gcd_less (by omega), Nat.gcd_comm] at this; exact this
      · refine Ev.no (fun h => hc ((cmpI_gt _ _).1 h)) (Ev.bind (refSub_f (u32s_digN Y) (canon_digN X) (by rw [val_digN, val_digN]; omega) (by omega)) ?_)
        rw [val_digN, val_digN]
        have := P1 X (Y - X) (by omega) (by omega) hX
        rw [gcd_less (by omega)] at this; exact this
theorem refGcd_l2 {L : Nat} (hL : L < 1000000) (t : Nat) (s : Nat) (hs : s < 4294967296 ^ L) (Y : Nat) (hY : 0 < Y)
    (P3 : ∀ X, X % 2 = 1 → X + Y ≤ s → Ev (fun k => fluxionref01_Gcd.l3 k (digN X) (digN Y) t) (digN (Nat.gcd X Y * 2 ^ t))) :
    ∀ X, 0 < X → (X % 2 = 1 ∨ Y % 2 = 1) → X + Y ≤ s → Ev (fun k => fluxionref01_Gcd.l2 k (digN X) (digN Y) t) (digN (Nat.gcd X Y * 2 ^ t)) := by
  intro X
  induction X using Nat.strongRecOn with
  | _ X ih =>
    intro hX ho hXY
    have l1 := small_len (n := X) (L := L) (by omega) hL
    have p1 := ne_nil_of_val (x := digN X) (by rw [val_digN]; exact hX)
    refine Ev.step (fun k => by rw [fluxionref01_Gcd.l2]) ?_
    refine Ev.yes (by omega) ?_
    rw [first_digit (u32s_digN X), val_digN]
    rcases even_or X with h | h
    · refine Ev.yes (by omega) (Ev.bind (refHalf_f (u32s_digN X) (by omega)) ?_)
      rw [val_digN]
      have hY1 : Y % 2 = 1 := by omega
      have := ih (X / 2) (by omega) (by omega) (.inr hY1) (by omega)
      rw [gcd_half h hY1] at this; exact this
    · exact Ev.no (by omega) (P3 X h hXY)
theorem refGcd_l1 {L : Nat} (hL : L < 1000000) (t : Nat) (ht : t < 4294967296) : ∀ s X Y, X + Y = s → s * 2 ^ t < 4294967296 ^ L → 0 < X → (X % 2 = 1 ∨ Y % 2 = 1) → (Y = 0 → X % 2 = 1) → Ev (fun k => fluxionref01_Gcd.l1 k (digN X) (digN Y) t) (digN (Nat.gcd X Y * 2 ^ t)) := by
  intro s
  induction s using Nat.strongRecOn with
  | _ s ih =>
    intro X Y hs hb hX ho h0
    have hsb : s < 4294967296 ^ L := Nat.lt_of_le_of_lt (Nat.le_mul_of_pos_right _ (Nat.pow_pos (by decide))) hb
    refine Ev.step (fun k => by rw [fluxionref01_Gcd.l1]) ?_
    rcases Nat.eq_zero_or_pos Y with hY | hY
    · subst hY
      rw [digN_zero, Nat.gcd_zero_right]
      refine Ev.no (by simp) ?_
      have hle : X * 2 ^ t < 4294967296 ^ L := Nat.lt_of_le_of_lt (Nat.mul_le_mul_right _ (by omega)) hb
      have := refGcd_l4 hL X t ht hle t 0 (by omega)
      rw [Nat.pow_zero, Nat.mul_one] at this; exact this
    · have p2 := ne_nil_of_val (x := digN Y) (by rw [val_digN]; exact hY)
      refine Ev.yes (by omega) ?_
      refine refGcd_l2 hL t s hsb Y hY (fun X' hX' hXY' => ?_) X hX ho (by omega)
      refine refGcd_l3 hL t [] s hsb (fun X2 Y2 h2 hp hodd => ?_) X' hX' Y hY hXY'
      exact ih (X2 + Y2) h2 X2 Y2 rfl (Nat.lt_of_le_of_lt (Nat.mul_le_mul_right _ (by omega)) hb) hp (.inl hodd) (fun _ => hodd)
theorem refGcd_l0 {L : Nat} (hL : L < 1000000) (G : Nat) : ∀ (s X Y t : Nat), X + Y = s → (X + Y) * 2 ^ t < 4294967296 ^ L → 0 < X → 0 < Y → t < 33000000 → Nat.gcd X Y * 2 ^ t = G → Ev (fun k => fluxionref01_Gcd.l0 k (digN X) (digN Y) t) (digN G) := by
  intro s
  induction s using Nat.strongRecOn with
  | _ s ih =>
    intro X Y t hs hb hX hY ht hG
    have hsb : X + Y < 4294967296 ^ L := Nat.lt_of_le_of_lt (Nat.le_mul_of_pos_right _ (Nat.pow_pos (by decide))) hb
    have l1 := small_len (n := X) (L := L) (by omega) hL
    have l2 := small_len (n := Y) (L := L) (by omega) hL
    have p1 := ne_nil_of_val (x := digN X) (by rw [val_digN]; exact hX)
    have p2 := ne_nil_of_val (x := digN Y) (by rw [val_digN]; exact hY)
    have out : (X % 2 = 1 ∨ Y % 2 = 1) → Ev (fun k => fluxionref01_Gcd.j1 k (digN X) (digN Y) t false) (digN G) := by
      intro ho
      refine Ev.step (fun k => by rw [fluxionref01_Gcd.j1]) ?_
      refine Ev.no (by decide) ?_
      rw [← hG]
      exact refGcd_l1 hL t (by omega) (X + Y) X Y rfl hb hX ho (by omega)
    refine Ev.step (fun k => by rw [fluxionref01_Gcd.l0]) ?_
    refine Ev.yes (by omega) ?_
    rw [first_digit (u32s_digN X), first_digit (u32s_digN Y), val_digN, val_digN]
    rcases even_or X with h | h
    · refine Ev.yes (by omega) (Ev.yes (by omega) ?_)
      rcases even_or Y with h2 | h2
      · have e : (((Y % 2 : Nat) : Int) == 0) = true := by rw [h2]; rfl
        rw [e]
        refine Ev.step (fun k => by rw [fluxionref01_Gcd.j1]) ?_
        refine Ev.yes rfl (Ev.bind (refHalf_f (u32s_digN X) (by omega)) (Ev.bind (refHalf_f (u32s_digN Y) (by omega)) ?_))
        rw [val_digN, val_digN, wnx t (by omega)]
        have hp : 2 ^ (t + 1) = 2 ^ t * 2 := by rw [Nat.pow_succ]
        have e3 : (X / 2 + Y / 2) * 2 ^ (t + 1) = (X + Y) * 2 ^ t := by
          rw [hp, Nat.mul_comm (2 ^ t) 2, ← Nat.mul_assoc]; congr 1; omega
        have e4 : Nat.gcd (X / 2) (Y / 2) * 2 ^ (t + 1) = G := by
          have eX : X = 2 * (X / 2) := by omega
          have eY : Y = 2 * (Y / 2) := by omega
          rw [← hG]
          conv => rhs; rw [eX, eY]
          rw [Nat.gcd_mul_left, hp, Nat.mul_comm (2 ^ t) 2, ← Nat.mul_assoc, Nat.mul_comm 2]
        have ht2 : t + 1 < 33000000 := by
          have h32 : 2 ^ (t + 1) ≤ (X + Y) * 2 ^ t := by rw [hp, Nat.mul_comm]; exact Nat.mul_le_mul_right _ (by omega)
          have h33 : 2 ^ (t + 1) < 2 ^ (32 * L) := by rw [← pow32]; omega
          have := (Nat.pow_lt_pow_iff_right (a := 2) (by decide)).1 h33
          omega
        exact ih (X / 2 + Y / 2) (by omega) (X / 2) (Y / 2) (t + 1) rfl (by rw [e3]; exact hb) (by omega) (by omega) ht2 e4
      · have e : (((Y % 2 : Nat) : Int) == 0) = false := by rw [h2]; rfl
        rw [e]; exact out (.inr h2)
    · exact Ev.no (by omega) (out (.inl h))
theorem refGcd_f {x y : List Int} (hx : canon x) (hy : canon y) (hs : x.length < 400000) (hys : y.length < 400000) : Ev (fun k => fluxionref01_Gcd.f k x y) (digN (Nat.gcd (valN x) (valN y))) := by
  unfold fluxionref01_Gcd.f
  simp only [Option.bind_some, List.nil_append, List.length_nil]
  by_cases h0 : x.length = 0
  · have e : x = [] := List.length_eq_zero_iff.1 h0
    subst e
    refine Ev.yes rfl (Ev.yes (by omega) (Ev.is ?_))
    show y = digN (Nat.gcd 0 (valN y)); rw [Nat.gcd_zero_left, digN_val hy]
  · by_cases h1 : y.length = 0
    · have e : y = [] := List.length_eq_zero_iff.1 h1
      subst e
      refine Ev.no (by omega) (Ev.yes rfl (Ev.yes (by omega) (Ev.is ?_)))
      show x = digN (Nat.gcd (valN x) 0); rw [Nat.gcd_zero_right, digN_val hx]
    · refine Ev.no (by omega) (Ev.no (by omega) ?_)
      have px := val_pos hx (by intro e; rw [e] at h0; simp at h0)
      have py := val_pos hy (by intro e; rw [e] at h1; simp at h1)
      have bx := val_lt hx.1
      have by' := val_lt hy.1
      have h2 : valN x + valN y < 4294967296 ^ (x.length + y.length + 1) := by
        have e1 : 4294967296 ^ x.length ≤ 4294967296 ^ (x.length + y.length) := Nat.pow_le_pow_right (by decide) (by omega)
        have e2 : 4294967296 ^ y.length ≤ 4294967296 ^ (x.length + y.length) := Nat.pow_le_pow_right (by decide) (by omega)
        rw [powB]; omega
      have := refGcd_l0 (L := x.length + y.length + 1) (by omega) (Nat.gcd (valN x) (valN y)) (valN x + valN y) (valN x) (valN y) 0 rfl (by rw [Nat.pow_zero, Nat.mul_one]; exact h2) px py (by omega) (by rw [Nat.pow_zero, Nat.mul_one])
      rw [digN_val hx, digN_val hy] at this; exact this
/-- a fraction in lowest terms -/
def exactR (neg : Bool) (n d : Nat) : Int × Bool × List Int × List Int := if n = 0 then (0, false, [], [1]) else (0, neg, digN (n / Nat.gcd n d), digN (d / Nat.gcd n d))
theorem len_small {x : List Int} {c : Nat} (hx : canon x) (h : x.length ≤ c) {m : Nat} (hm : m ≤ valN x) : (digN m).length ≤ c := by
  refine Nat.le_trans (len_digN_le (k := x.length) (Nat.lt_of_le_of_lt hm (val_lt hx.1))) h
theorem refExact_j0t {neg : Bool} {x y : List Int} {g : Nat} (hx : canon x) (hy : canon y) (hg : 0 < g) (hs : x.length < 400000) (hys : y.length < 400000) (hgl : (digN g).length < 400000) : Ev (fun k => fluxionref02_Exact.j0 k neg x y (digN g) true) (0, neg, digN (valN x / g), digN (valN y / g)) := by
  have hg0 : digN g ≠ [] := fun e => by rw [digN_nil] at e; omega
  have l1 := len_small hx (c := 400000) (by omega) (Nat.div_le_self (valN x) g)
  have l2 := len_small hy (c := 400000) (by omega) (Nat.div_le_self (valN y) g)
  refine Ev.step (fun k => by rw [fluxionref02_Exact.j0]) ?_
  refine Ev.yes rfl (Ev.bind (refDiv_f hx (canon_digN g) hg0 (by omega) (by omega)) (Ev.bind (refDiv_f hy (canon_digN g) hg0 (by omega) (by omega)) ?_))
  rw [val_digN]
  simp only [Option.bind_some, List.nil_append, List.length_nil]
  exact Ev.yes (by omega) (Ev.yes (by omega) (Ev.now _))
theorem refExact_j0f {neg : Bool} {x y g : List Int} (hs : x.length < 400000) (hys : y.length < 400000) : Ev (fun k => fluxionref02_Exact.j0 k neg x y g false) (0, neg, x, y) := by
  refine Ev.step (fun k => by rw [fluxionref02_Exact.j0]) ?_
  refine Ev.no (by decide) ?_
  simp only [Option.bind_some, List.nil_append, List.length_nil]
  exact Ev.yes (by omega) (Ev.yes (by omega) (Ev.now _))
theorem refExact_f {neg : Bool} {x y : List Int} (hx : canon x) (hy : canon y) (hs : x.length < 400000) (hys : y.length < 400000) : Ev (fun k => fluxionref02_Exact.f k neg x y) (exactR neg (valN x) (valN y)) := by
  unfold fluxionref02_Exact.f exactR
  by_cases h0 : x.length = 0
  · have e : x = [] := List.length_eq_zero_iff.1 h0
    subst e
    refine Ev.yes rfl ?_
    rw [if_pos (show valN [] = 0 from rfl)]
    exact Ev.now _
  · have px := val_pos hx (by intro e; rw [e] at h0; simp at h0)
    rw [if_neg (by omega)]
    refine Ev.no (by omega) (Ev.bind (refGcd_f hx hy hs hys) ?_)
    have hg0 : 0 < Nat.gcd (valN x) (valN y) := Nat.gcd_pos_of_pos_left _ px
    have hgl := len_small hx (c := 399999) (by omega) (Nat.le_of_dvd px (Nat.gcd_dvd_left (valN x) (valN y)))
    generalize Nat.gcd (valN x) (valN y) = g at *
    have hgn := ne_nil_of_val (x := digN g) (by rw [val_digN]; exact hg0)
    by_cases h1 : (digN g).length > 1
    · exact Ev.yes (by omega) (refExact_j0t hx hy hg0 hs hys (by omega))
    · refine Ev.no (by omega) (Ev.yes (by omega) ?_)
      have hlt : g < 4294967296 := by
        have := val_lt (u32s_digN g)
        rw [val_digN, show (digN g).length = 1 by omega, Nat.pow_one] at this; exact this
      have hr : rd (digN g) 0 = (g : Int) := by
        have e1 : rd (digN g) 0 = ((dgt (digN g) 0 : Nat) : Int) := rd_dgt (u32s_digN g) 0
        have e2 := dgt_val (u32s_digN g) 0
        rw [val_digN, Nat.pow_zero, Nat.div_one, Nat.mod_eq_of_lt hlt] at e2
        rw [e1, e2]
      rw [hr]
      by_cases h2 : (g : Int) > 1
      · rw [decide_eq_true h2]; exact refExact_j0t hx hy hg0 hs hys (by omega)
      · have hg1 : g = 1 := by omega
        rw [decide_eq_false h2, hg1, Nat.div_one, Nat.div_one, digN_val hx, digN_val hy]
        exact refExact_j0f hs hys
/-- what is too long is a fault -/
def boundR (r : Int × Bool × List Int × List Int) : Int × Bool × List Int × List Int := if 4096 < nb (valN r.2.2.1) ∨ 4096 < nb (valN r.2.2.2) then (4, false, [], []) else r
theorem refBound_f {f : Int} {neg : Bool} {x y : List Int} (hx : canon x) (hy : canon y) (hs : x.length < 400000) (hys : y.length < 400000) : Ev (fun k => fluxionref02_Bound.f k f neg x y) (boundR (f, neg, x, y)) := by
  unfold fluxionref02_Bound.f boundR
  refine Ev.bind (refLong_f hx (by omega)) ?_
  by_cases h1 : 4096 < nb (valN x)
  · exact Ev.yes (decide_eq_true h1) (Ev.is (if_pos (Or.inl h1)).symm)
  · refine Ev.no (fun h => h1 (of_decide_eq_true h)) (Ev.bind (refLong_f hy (by omega)) ?_)
    by_cases h2 : 4096 < nb (valN y)
    · exact Ev.yes (decide_eq_true h2) (Ev.is (if_pos (Or.inr h2)).symm)
    · exact Ev.no (fun h => h2 (of_decide_eq_true h)) (Ev.is (if_neg (fun h => h.elim h1 h2)).symm)
/-- what form says of a list of digits -/
def formV (x : List Int) : Int := if 512 < x.length then 3 else if x ≠ [] ∧ x.getLast?.getD 1 = 0 then 5 else 0
def formL : List (List Int) → Int
  | [] => 0
  | x :: l => if formV x = 0 then formL l else formV x
theorem natForm_l0 (xs : List (List Int)) (hs : xs.length < 4294967296) (hxs : ∀ x ∈ xs, x.length < 4294967296) : ∀ d i, i + d = xs.length → Ev (fun k => nat_form.l0 k xs xs.length i) (formL (xs.drop i)) := by
  intro d
  induction d with
  | zero =>
    intro i hi
    refine Ev.step (fun k => by rw [nat_form.l0]) ?_
    refine Ev.no (by omega) (Ev.is ?_)
    rw [List.drop_eq_nil_of_le (by omega)]; rfl
  | succ d ih =>
    intro i hi
    have hl : i < xs.length := by omega
    have er : rd_L3 xs (i : Int) = xs[i] := by show xs.getD i [] = _; simp [List.getD_eq_getElem?_getD, hl]
    have hx := hxs xs[i] (List.getElem_mem hl)
    have ihn := ih (i + 1) (by omega)
    refine Ev.step (fun k => by rw [nat_form.l0]) ?_
    rw [er, wnx i (by omega), List.drop_eq_getElem_cons hl, formL]
    generalize xs[i] = x at *
    refine Ev.yes (by omega) (Ev.yes (by omega) (Ev.yes (by omega) ?_))
    by_cases h1 : 512 < x.length
    · have e : formV x = 3 := if_pos h1
      rw [e]
      exact Ev.yes (by omega) (Ev.now _)
    · refine Ev.no (by omega) ?_
      by_cases h0 : x.length = 0
      · have hn : x = [] := List.length_eq_zero_iff.1 h0
        have e : formV x = 0 := by unfold formV; rw [if_neg h1, if_neg (fun h => h.1 hn)]
        rw [e, if_pos rfl]
        exact Ev.no (by omega) ihn
      · have hn : x ≠ [] := fun e => h0 (by rw [e]; rfl)
        rw [wpx x.length (by omega) (by omega)]
        have e2 : rd x ((x.length - 1 : Nat) : Int) = x.getLast?.getD 1 := by
          show x.getD (x.length - 1) 0 = _
          rw [List.getLast?_eq_getElem?, List.getD_eq_getElem?_getD, List.getElem?_eq_getElem (by omega)]; rfl
        rw [e2]
        refine Ev.yes (by omega) (Ev.yes (by omega) (Ev.yes (by omega) ?_))
        by_cases h2 : x.getLast?.getD 1 = 0
        · have e : formV x = 5 := by unfold formV; rw [if_neg h1, if_pos ⟨hn, h2⟩]
          rw [e]
          exact Ev.yes h2 (Ev.now _)
        · have e : formV x = 0 := by unfold formV; rw [if_neg h1, if_neg (fun h => h2 h.2)]
          rw [e, if_pos rfl]
          exact Ev.no h2 ihn
theorem natForm_f (xs : List (List Int)) (hs : xs.length < 4294967296) (hxs : ∀ x ∈ xs, x.length < 4294967296) : Ev (fun k => nat_form.f k xs) (formL xs) := by
  have := natForm_l0 xs hs hxs xs.length 0 (by omega)
  rw [List.drop_zero] at this; exact this
theorem formV_canon {x : List Int} (hx : canon x) (h : x.length ≤ 512) : formV x = 0 := by
  unfold formV; rw [if_neg (by omega), if_neg]
  intro hc
  have := hx.2 hc.1
  rw [List.getLast?_eq_some_getLast hc.1] at hc
  exact this hc.2
theorem canon_formV {x : List Int} (hu : u32s x) (h : formV x = 0) : canon x ∧ x.length ≤ 512 := by
  unfold formV at h
  by_cases h1 : 512 < x.length
  · rw [if_pos h1] at h; omega
  · rw [if_neg h1] at h
    refine ⟨⟨hu, fun hn h0 => ?_⟩, by omega⟩
    rw [if_pos ⟨hn, by rw [List.getLast?_eq_some_getLast hn]; exact h0⟩] at h; omega
theorem two_digits (n : Nat) (h : n < 18446744073709551616) : u32s [((n : Int)) % 4294967296, ((n : Int) / 4294967296) % 4294967296] ∧ valN [((n : Int)) % 4294967296, ((n : Int) / 4294967296) % 4294967296] = n := by
  refine ⟨by rw [u32s_cons, u32s_cons]; exact ⟨by omega, by omega, u32s_nil⟩, ?_⟩
  simp only [valN]; omega
theorem natOf_f (n : Nat) (h : n < 18446744073709551616) : Ev (fun k => nat_Of.f k n) (digN n) := by
  unfold nat_Of.f
  obtain ⟨h1, h2⟩ := two_digits n h
  have := trim_f h1 (by simp)
  rw [h2] at this
  exact Ev.bind this (Ev.now _)
theorem refOf01_f (n : Nat) (h : n < 18446744073709551616) : Ev (fun k => fluxionref01_Of.f k n) (digN n) := by
  unfold fluxionref01_Of.f
  obtain ⟨h1, h2⟩ := two_digits n h
  have := short_f h1 (by simp)
  rw [h2] at this
  exact Ev.bind this (Ev.now _)
theorem refRatio_f {neg : Bool} {x y : List Int} (hx : canon x) (hy : canon y) (hs : x.length < 400000) (hys : y.length < 400000) : Ev (fun k => fluxionref02_Ratio.f k neg x y) (if y.length = 0 then (11, false, [], []) else boundR (exactR neg (valN x) (valN y))) := by
  unfold fluxionref02_Ratio.f
  by_cases h0 : y.length = 0
  · exact Ev.yes (by omega) (Ev.is (if_pos h0).symm)
  · refine Ev.no (by omega) (Ev.bind (refExact_f hx hy hs hys) ?_)
    have hc : canon (exactR neg (valN x) (valN y)).2.2.1 ∧ canon (exactR neg (valN x) (valN y)).2.2.2 ∧ (exactR neg (valN x) (valN y)).2.2.1.length < 400000 ∧ (exactR neg (valN x) (valN y)).2.2.2.length < 400000 := by
      unfold exactR; split
      · refine ⟨canon_nil, ⟨by rw [u32s_cons]; exact ⟨by omega, u32s_nil⟩, fun h => by simp⟩, by simp, by simp⟩
      · have l1 := len_small hx (c := x.length) (Nat.le_refl _) (Nat.div_le_self (valN x) (Nat.gcd (valN x) (valN y)))
        have l2 := len_small hy (c := y.length) (Nat.le_refl _) (Nat.div_le_self (valN y) (Nat.gcd (valN x) (valN y)))
        exact ⟨canon_digN _, canon_digN _, by show (digN _).length < _; omega, by show (digN _).length < _; omega⟩
    refine Ev.bind (refBound_f hc.1 hc.2.1 hc.2.2.1 hc.2.2.2) (Ev.is ?_)
    rw [if_neg h0]
/-- a sum of numbers with signs -/
def signedR (p : Bool) (a : Nat) (q : Bool) (b : Nat) : Bool × Nat := if p = q then (p, a + b) else if b ≤ a then (p, a - b) else (q, b - a)
/-- a Rat: fault, sign, numerator, denominator -/
def ratioR (neg : Bool) (n d : Nat) : Int × Bool × List Int × List Int := if d = 0 then (11, false, [], []) else boundR (exactR neg n d)
def leastR (a b : Int) : Int := if a = 0 then b else if b = 0 then a else if b < a then b else a
theorem refRatioN_f {neg : Bool} {n d L : Nat} (hn : n < 4294967296 ^ L) (hd : d < 4294967296 ^ L) (hL : L < 400000) : Ev (fun k => fluxionref02_Ratio.f k neg (digN n) (digN d)) (ratioR neg n d) := by
  have l1 := len_digN_le hn
  have l2 := len_digN_le hd
  have := refRatio_f (neg := neg) (canon_digN n) (canon_digN d) (by omega) (by omega)
  rw [val_digN, val_digN] at this
  unfold ratioR
  by_cases h : d = 0
  · rw [if_pos h]; rw [if_pos (by rw [h, digN_zero]; rfl)] at this; exact this
  · rw [if_neg h]
    have hl : (digN d).length ≠ 0 := fun e => h (digN_nil.1 (List.length_eq_zero_iff.1 e))
    rw [if_neg hl] at this; exact this
theorem mul_pow_lt {a b i j : Nat} (ha : a < 4294967296 ^ i) (hb : b < 4294967296 ^ j) : a * b < 4294967296 ^ (i + j) := by
  rw [Nat.pow_add]; exact Nat.mul_lt_mul'' ha hb
theorem signedR_le (p : Bool) (a : Nat) (q : Bool) (b : Nat) : (signedR p a q b).2 ≤ a + b := by unfold signedR; split <;> (try split) <;> simp only [] <;> omega
/-- a list of digits that is a number of no more than 4096 binary digits -/
def goodB (x : List Int) : Bool := decide (x.length ≤ 128) && (x.isEmpty || decide (x.getLast?.getD 1 ≠ 0))
theorem refGood_f {x : List Int} (hs : x.length < 4294967296) : fluxionref02_good.f x = some (goodB x) := by
  unfold fluxionref02_good.f goodB
  by_cases h1 : x.length ≤ 128
  · rw [if_pos (by omega), decide_eq_true h1, Bool.true_and]
    by_cases h0 : x.length = 0
    · have e : x = [] := List.length_eq_zero_iff.1 h0
      subst e; rfl
    · have hn : x ≠ [] := fun e => h0 (by rw [e]; rfl)
      have e2 : rd x ((x.length - 1 : Nat) : Int) = x.getLast?.getD 1 := by
        show x.getD (x.length - 1) 0 = _
        rw [List.getLast?_eq_getElem?, List.getD_eq_getElem?_getD, List.getElem?_eq_getElem (by omega)]; rfl
      rw [wpx x.length (by omega) (by omega), e2, if_neg (by omega), if_pos (by omega), if_pos (by omega)]
      have : x.isEmpty = false := by cases x with
        | nil => exact absurd rfl hn
        | cons a x => rfl
      rw [this, Bool.false_or]
      congr 1
      rw [Bool.eq_iff_iff]; simp
  · rw [if_neg (by omega), decide_eq_false h1, Bool.false_and]
theorem good_canon {x : List Int} (hu : u32s x) (h : goodB x = true) : canon x ∧ x.length ≤ 128 := by
  unfold goodB at h
  rw [Bool.and_eq_true, decide_eq_true_iff, Bool.or_eq_true, decide_eq_true_iff] at h
  refine ⟨⟨hu, fun hn h0 => ?_⟩, h.1⟩
  rcases h.2 with h2 | h2
  · cases x with
    | nil => exact hn rfl
    | cons a x => simp at h2
  · exact h2 (by rw [List.getLast?_eq_some_getLast hn]; exact h0)
/-- a valid Rat -/
def isRatB (f : Int) (p : Bool) (x a : List Int) : Bool :=
  if f = 0 then goodB x && (goodB a && (!a.isEmpty && (!(p && x.isEmpty) && decide (Nat.gcd (valN x) (valN a) = 1)))) else (decide (f = 4) || decide (f = 11)) && (!p && (x.isEmpty && a.isEmpty))
theorem one_digit (g : Nat) (hg : 0 < g) : (if ((digN g).length : Int) = 1 then (if 0 < ((digN g).length : Int) then (some ((rd (digN g) 0) == 1)) else (none)) else (some false)) = some (decide (g = 1)) := by
  by_cases h1 : (digN g).length = 1
  · rw [if_pos (by omega), if_pos (by omega)]
    have hlt : g < 4294967296 := by
      have := val_lt (u32s_digN g)
      rw [val_digN, h1, Nat.pow_one] at this; exact this
    have e1 : rd (digN g) 0 = ((dgt (digN g) 0 : Nat) : Int) := rd_dgt (u32s_digN g) 0
    have e2 := dgt_val (u32s_digN g) 0
    rw [val_digN, Nat.pow_zero, Nat.div_one, Nat.mod_eq_of_lt hlt] at e2
    rw [e1, e2]; congr 1; rw [Bool.eq_iff_iff, beq_iff_eq, decide_eq_true_iff]; omega
  · rw [if_neg (by omega)]; congr 1
    symm; apply decide_eq_false; intro h
    apply h1; rw [h, digN_pos (by decide)]; simp [digN_zero]
theorem refIsRat_f {f : Int} {p : Bool} {x a : List Int} (hx : u32s x) (ha : u32s a) (lx : x.length < 4294967296) (la : a.length < 4294967296) : Ev (fun k => fluxionref02_IsRat.f k f p x a) (isRatB f p x a) := by
  unfold fluxionref02_IsRat.f isRatB
  have emp : ∀ z : List Int, ((z.length : Int) = 0) ↔ z.isEmpty = true := by intro z; cases z <;> simp; omega
  have emp2 : ∀ z : List Int, ((z.length : Int) == 0) = z.isEmpty := by intro z; cases z <;> simp; omega
  by_cases h0 : f = 0
  · rw [if_pos h0]
    refine Ev.yes h0 (Ev.bind (Ev.con (refGood_f lx)) ?_)
    cases g1 : goodB x with
    | false => exact Ev.no (by decide) (Ev.now _)
    | true =>
      refine Ev.yes rfl (Ev.bind (Ev.con (refGood_f la)) ?_)
      cases g2 : goodB a with
      | false => exact Ev.no (by decide) (Ev.now _)
      | true =>
        obtain ⟨cx, sx⟩ := good_canon hx g1
        obtain ⟨ca, sa⟩ := good_canon ha g2
        refine Ev.yes rfl ?_
        cases e1 : a.isEmpty with
        | true => exact Ev.yes ((emp a).2 e1) (Ev.now _)
        | false =>
          refine Ev.no (fun h => by rw [(emp a).1 h] at e1; exact absurd e1 (by decide)) ?_
          have hpa := val_pos ca (fun e => by rw [e] at e1; simp at e1)
          have hg := refGcd_f cx ca (by omega) (by omega)
          have one := one_digit (Nat.gcd (valN x) (valN a)) (Nat.gcd_pos_of_pos_right _ hpa)
          cases p with
          | true =>
            refine Ev.yes rfl ?_
            cases e2 : x.isEmpty with
            | true => exact Ev.yes ((emp x).2 e2) (Ev.now _)
            | false => exact Ev.no (fun h => by rw [(emp x).1 h] at e2; exact absurd e2 (by decide)) (Ev.bind hg (Ev.con one))
          | false => exact Ev.no (by decide) (Ev.bind hg (Ev.con one))
  · rw [if_neg h0]
    refine Ev.no h0 ?_
    have tail : ∀ b : Bool, b = true → Ev (fun _ : Nat => if p = true then some false else (if (x.length : Int) = 0 then some ((a.length : Int) == 0) else some false)) (b && (!p && (x.isEmpty && a.isEmpty))) := by
      intro b hb
      subst hb
      cases p with
      | true => exact Ev.yes rfl (Ev.now _)
      | false =>
        refine Ev.no (by decide) ?_
        cases e2 : x.isEmpty with
        | true => exact Ev.yes ((emp x).2 e2) (Ev.is (emp2 a))
        | false => exact Ev.no (fun h => by rw [(emp x).1 h] at e2; exact absurd e2 (by decide)) (Ev.now _)
    by_cases h4 : f = 4
    · exact Ev.yes h4 (tail _ (by rw [decide_eq_true h4]; rfl))
    · refine Ev.no h4 ?_
      by_cases h11 : f = 11
      · exact Ev.yes h11 (tail _ (by rw [decide_eq_true h11, Bool.or_true]))
      · refine Ev.no h11 (Ev.is ?_)
        rw [decide_eq_false h4, decide_eq_false h11]; rfl
theorem natDiv_is {x y : List Int} (hx : canon x) (hy : canon y) (h0 : y ≠ []) (hs : x.length < 4294960000) : nat_div.f x y = some (digN (valN x / valN y), digN (valN x % valN y)) := by
  unfold nat_div.f
  rw [if_pos]
  simp only [Bool.and_eq_true, decide_eq_true_eq, canonB_iff]
  exact ⟨⟨⟨hx, hy⟩, fun h => h0 (List.length_eq_zero_iff.1 h)⟩, hs⟩
theorem digN_len_le {n : Nat} {x : List Int} (hx : u32s x) (h : n ≤ valN x) : (digN n).length ≤ x.length := len_digN_le (Nat.lt_of_le_of_lt h (val_lt hx))
theorem natGcd_l0 : ∀ (Y X : Nat) (x y : List Int), canon x → canon y → valN x = X → valN y = Y → x.length < 4294960000 → y.length < 4294960000 → Ev (fun k => nat_gcd.l0 k x y) (digN (Nat.gcd X Y)) := by
  intro Y
  induction Y using Nat.strongRecOn with
  | _ Y ih =>
    intro X x y hx hy ex ey hs hys
    refine Ev.step (fun k => by rw [nat_gcd.l0]) ?_
    by_cases h0 : y = []
    · subst h0
      have e : Y = 0 := ey.symm
      subst e
      refine Ev.no (by simp) ?_
      rw [Nat.gcd_zero_right, ← ex, digN_val hx]
      exact Ev.bind (Ev.con (show slices_Clone_uint32_uint32.f x = some x from if_pos (by omega))) (Ev.now _)
    · have hp := val_pos hy h0
      have hl : 0 < y.length := Nat.pos_of_ne_zero fun h => h0 (List.length_eq_zero_iff.1 h)
      refine Ev.yes (by omega) (Ev.bind (Ev.con (natDiv_is hx hy h0 hs)) ?_)
      have hm := Nat.mod_lt X (show Y > 0 by omega)
      rw [ex, ey]
      have e : Nat.gcd X Y = Nat.gcd Y (X % Y) := by rw [Nat.gcd_comm X Y, Nat.gcd_rec Y X, Nat.gcd_comm]
      rw [e]
      have hl2 := digN_len_le hy.1 (show X % Y ≤ valN y by omega)
      exact ih (X % Y) hm Y y (digN (X % Y)) hy (canon_digN _) ey (val_digN _) hys (by omega)
theorem natGcd_f {x y : List Int} (hx : canon x) (hy : canon y) (hs : x.length < 4294960000) (hys : y.length < 4294960000) : Ev (fun k => nat_gcd.f k x y) (digN (Nat.gcd (valN x) (valN y))) := natGcd_l0 _ _ x y hx hy rfl rfl hs hys
theorem form2 {x y : List Int} (hx : canon x) (hy : canon y) (hs : x.length ≤ 512) (hys : y.length ≤ 512) : Ev (fun k => nat_form.f k ([x, y] : List (List Int))) 0 := by
  have := natForm_f [x, y] (by simp) (by intro z hz; simp at hz; rcases hz with rfl | rfl <;> omega)
  rw [formL, formV_canon hx hs, if_pos rfl, formL, formV_canon hy hys, if_pos rfl, formL] at this
  exact this
theorem natGcdE_f {x y : List Int} (hx : canon x) (hy : canon y) (hs : x.length ≤ 512) (hys : y.length ≤ 512) : Ev (fun k => nat_Gcd.f k x y) (digN (Nat.gcd (valN x) (valN y)), 0) := by
  unfold nat_Gcd.f
  exact Ev.bind (form2 hx hy hs hys) (Ev.yes rfl (Ev.bind (natGcd_f hx hy (by omega) (by omega)) (Ev.now _)))
theorem natDivE_f {x y : List Int} (hx : canon x) (hy : canon y) (h0 : y ≠ []) (hs : x.length ≤ 512) (hys : y.length ≤ 512) : Ev (fun k => nat_Div.f k x y) (digN (valN x / valN y), digN (valN x % valN y), 0) := by
  unfold nat_Div.f
  have hl : 0 < y.length := Nat.pos_of_ne_zero fun h => h0 (List.length_eq_zero_iff.1 h)
  exact Ev.bind (form2 hx hy hs hys) (Ev.yes rfl (Ev.no (by omega) (Ev.bind (Ev.con (natDiv_is hx hy h0 (by omega))) (Ev.now _))))
theorem bitLen_nb : ∀ (f x : Nat), x < 2 ^ f → f ≤ 64 → Lib.bitLen x = nb x
  | 0, x, h, _ => by have e : x = 0 := by simpa using h
                     subst e; rw [nb_zero]; rfl
  | f + 1, x, h, hf => by
    by_cases h0 : x = 0
    · subst h0; rw [nb_zero]; rfl
    · have h64 : x < 2 ^ 64 := Nat.lt_of_lt_of_le h (Nat.pow_le_pow_right (by decide) hf)
      rw [Lib.bitLen_half x h0 h64, nb_pos h0, bitLen_nb f (x / 2) (by rw [Nat.pow_succ] at h; omega) (by omega)]
      omega
theorem nb_shift (k : Nat) : ∀ (d r : Nat), d ≠ 0 → r < 2 ^ k → nb (r + 2 ^ k * d) = k + nb d := by
  induction k with
  | zero => intro d r hd hr; have : r = 0 := by simpa using hr
            subst this; simp
  | succ k ih =>
    intro d r hd hr
    have hp : 0 < 2 ^ k * d := Nat.mul_pos (Nat.pow_pos (by decide)) (Nat.pos_of_ne_zero hd)
    rw [Nat.pow_succ] at hr
    have e : r + 2 ^ (k + 1) * d = r + 2 * (2 ^ k * d) := by rw [Nat.pow_succ, Nat.mul_comm (2 ^ k) 2, Nat.mul_assoc]
    rw [e, nb_pos (by omega), show (r + 2 * (2 ^ k * d)) / 2 = r / 2 + 2 ^ k * d by omega, ih d (r / 2) hd (by omega)]
    omega
theorem nbTop {x : List Int} (hx : canon x) {n : Nat} (hn : x.length = n + 1) : nb (valN x) = 32 * n + nb (dgt x n) := by
  have hd : dgt x n ≠ 0 := by
    intro e
    have h1 := val_top x hn
    have h2 : valN (x.take n) < 4294967296 ^ n := val_take_lt hx.1 n
    have h3 := val_ge hx hn
    rw [e, Nat.mul_zero] at h1; omega
  have h1 := val_top x hn
  have hB : (4294967296 : Nat) ^ n = 2 ^ (32 * n) := by rw [Nat.pow_mul]
  rw [h1, hB]
  exact nb_shift _ _ _ hd (by rw [← hB]; exact val_take_lt hx.1 n)
theorem natSize_f {x : List Int} (hx : canon x) (hs : x.length ≤ 512) : nat_size.f x = some ((nb (valN x) : Nat) : Int) := by
  unfold nat_size.f
  by_cases h0 : x.length = 0
  · have e : x = [] := List.length_eq_zero_iff.1 h0
    subst e
    rw [show valN [] = 0 from rfl, nb_zero]; rfl
  · obtain ⟨n, hn⟩ : ∃ n, x.length = n + 1 := ⟨x.length - 1, by omega⟩
    have e : wrap64 ((x.length : Int) - 1) = ((n : Nat) : Int) := by rw [w64 _ (by omega)]; omega
    have hd := dgt_lt hx.1 n
    rw [if_neg (by omega), e, if_pos (by omega), if_pos (by omega), rd_dgt hx.1]
    have hb : bits_Len32.f ((dgt x n : Nat) : Int) = some ((nb (dgt x n) : Nat) : Int) := by
      unfold bits_Len32.f
      rw [if_pos (by omega), if_pos (by omega), Int.toNat_natCast, bitLen_nb 32 _ hd (by decide)]
    have hle : nb (dgt x n) ≤ 32 := nb_le hd
    rw [hb, Option.bind_some, nbTop hx hn]
    have e1 : wrap64 (32 * ((n : Nat) : Int)) = ((32 * n : Nat) : Int) := by rw [w64 _ (by omega)]; omega
    rw [e1, w64 _ (by omega)]
    exact congrArg some (by omega)
theorem form1 {x : List Int} (hl : x.length < 4294967296) : Ev (fun k => nat_form.f k ([x] : List (List Int))) (formV x) := by
  have := natForm_f [x] (by simp) (by intro z hz; simp at hz; subst hz; exact hl)
  rw [formL] at this
  by_cases h : formV x = 0
  · rw [if_pos h, formL] at this; rw [h]; exact this
  · rw [if_neg h] at this; exact this
theorem long_f {x : List Int} (hx : canon x) (hs : x.length ≤ 512) : Ev (fun k => frac_long.f k x) (decide (4096 < nb (valN x))) := by
  unfold frac_long.f nat_Bits.f
  have h1 := form1 (x := x) (by omega)
  rw [formV_canon hx hs] at h1
  refine Ev.bind (Ev.bind h1 (Ev.yes rfl (Ev.bind (Ev.con (natSize_f hx hs)) (Ev.now _)))) (Ev.yes rfl (Ev.is ?_))
  congr 1
  exact propext (by constructor <;> intro h <;> omega)
theorem boundR_digN (f : Int) (p : Bool) (a b : Nat) : boundR (f, p, digN a, digN b) = if 4096 < nb a ∨ 4096 < nb b then (4, false, [], []) else (f, p, digN a, digN b) := by
  unfold boundR
  rw [val_digN, val_digN]
theorem quotient_f {neg : Bool} {x y : List Int} (hx : canon x) (hy : canon y) (hs : x.length ≤ 512) (hys : y.length ≤ 512) : Ev (fun k => frac_quotient.f k neg x y) (ratioR neg (valN x) (valN y)) := by
  unfold frac_quotient.f ratioR
  by_cases h0 : y.length = 0
  · have e : y = [] := List.length_eq_zero_iff.1 h0
    subst e
    rw [if_pos (show valN [] = 0 from rfl)]
    exact Ev.yes rfl (Ev.now _)
  · have hy0 : y ≠ [] := fun e => h0 (by rw [e]; rfl)
    have hp := val_pos hy hy0
    rw [if_neg (by omega)]
    have hg : 0 < Nat.gcd (valN x) (valN y) := Nat.gcd_pos_of_pos_right _ hp
    have hgl := digN_len_le hy.1 (Nat.le_of_dvd hp (Nat.gcd_dvd_right (valN x) (valN y)))
    have hgn : digN (Nat.gcd (valN x) (valN y)) ≠ [] := fun e => by rw [digN_nil] at e; omega
    refine Ev.no (by omega) (Ev.bind (natGcdE_f hx hy hs hys) (Ev.bind (Ev.con (show frac_natural.f _ _ = some _ from rfl)) (Ev.bind (natDivE_f hx (canon_digN _) hgn hs (Nat.le_trans hgl hys)) (Ev.bind (natDivE_f hy (canon_digN _) hgn hys (Nat.le_trans hgl hys)) ?_))))
    rw [val_digN]
    have l1 := digN_len_le hx.1 (Nat.div_le_self (valN x) (Nat.gcd (valN x) (valN y)))
    have l2 := digN_len_le hy.1 (Nat.div_le_self (valN y) (Nat.gcd (valN x) (valN y)))
    have hex : exactR neg (valN x) (valN y) = (0, neg && decide (valN x / Nat.gcd (valN x) (valN y) ≠ 0), digN (valN x / Nat.gcd (valN x) (valN y)), digN (valN y / Nat.gcd (valN x) (valN y))) := by
      unfold exactR
      by_cases hx0 : valN x = 0
      · rw [if_pos hx0, hx0, Nat.gcd_zero_left, Nat.zero_div, digN_zero, Nat.div_self hp, digN_pos (by decide)]
        simp [digN_zero]
      · have : valN x / Nat.gcd (valN x) (valN y) ≠ 0 := fun e => by
          have h1 := Nat.div_add_mod (valN x) (Nat.gcd (valN x) (valN y))
          rw [e, Nat.mul_zero, Nat.mod_eq_zero_of_dvd (Nat.gcd_dvd_left _ _)] at h1
          omega
        rw [if_neg hx0, decide_eq_true this, Bool.and_true]
    rw [hex, boundR_digN]
    generalize hA : valN x / Nat.gcd (valN x) (valN y) = A at *
    generalize hB : valN y / Nat.gcd (valN x) (valN y) = B at *
    refine Ev.bind (long_f (canon_digN _) (Nat.le_trans l1 hs)) ?_
    rw [val_digN]
    by_cases c1 : 4096 < nb A
    · rw [if_pos (show 4096 < nb A ∨ 4096 < nb B from Or.inl c1)]
      exact Ev.yes (decide_eq_true c1) (Ev.bind (Ev.con (show frac_fault.f 4 = some (4, false, [], []) from rfl)) (Ev.now _))
    · refine Ev.no (fun h => c1 (of_decide_eq_true h)) (Ev.bind (long_f (canon_digN _) (Nat.le_trans l2 hys)) ?_)
      rw [val_digN]
      by_cases c2 : 4096 < nb B
      · rw [if_pos (show 4096 < nb A ∨ 4096 < nb B from Or.inr c2)]
        exact Ev.yes (decide_eq_true c2) (Ev.bind (Ev.con (show frac_fault.f 4 = some (4, false, [], []) from rfl)) (Ev.now _))
      · rw [if_neg (show ¬ (4096 < nb A ∨ 4096 < nb B) from fun h => h.elim c1 c2)]
        refine Ev.no (fun h => c2 (of_decide_eq_true h)) ?_
        have hlen : decide ((((digN A).length : Nat) : Int) > 0) = decide (A ≠ 0) := by
          congr 1
          refine propext ⟨fun h e => ?_, fun h => ?_⟩
          · rw [e, digN_zero] at h; simp at h
          · have : digN A ≠ [] := fun e => h (digN_nil.1 e)
            have := List.length_pos_iff.2 this
            omega
        cases neg with
        | true => exact Ev.yes rfl (Ev.is (by simp only [hlen, Bool.true_and]))
        | false => exact Ev.no (by decide) (Ev.is (by simp only [Bool.false_and]))
def fB (x : List Int) : Bool := canonB x && decide (x.length ≤ 512)
theorem fB_iff {x : List Int} : fB x = true ↔ canon x ∧ x.length ≤ 512 := by unfold fB; rw [Bool.and_eq_true, canonB_iff, decide_eq_true_iff]
theorem form_dec {x : List Int} (hx : u32s x) (hl : x.length < 4294967296) : Ev (fun k => nat_IsNat.f k x) (fB x) := by
  unfold nat_IsNat.f
  refine Ev.bind (form1 hl) (Ev.is ?_)
  rw [Bool.eq_iff_iff, beq_iff_eq, fB_iff]
  exact ⟨fun h => canon_formV hx h, fun h => formV_canon h.1 h.2⟩
theorem pow_split (a b : Nat) (h : b = 32 * a) : (2 : Nat) ^ b = 4294967296 ^ a := by
  subst h
  rw [Nat.pow_mul]
theorem nb_long {x : List Int} (hx : canon x) : nb (valN x) ≤ 4096 ↔ x.length ≤ 128 := by
  constructor
  · intro h
    refine Nat.le_of_not_lt fun hl => ?_
    obtain ⟨n, hn⟩ : ∃ n, x.length = n + 1 := ⟨x.length - 1, by omega⟩
    have h1 := nb_top hx hn
    have hp : 0 < nb (dgt x n) := by
      refine Nat.pos_of_ne_zero fun e => ?_
      have h2 := nb_lt (dgt x n)
      rw [e, Nat.pow_zero] at h2
      have h3 := val_top x hn
      have h4 : valN (x.take n) < 4294967296 ^ n := val_take_lt hx.1 n
      have h5 := val_ge hx hn
      rw [show dgt x n = 0 by omega, Nat.mul_zero] at h3
      omega
    omega
  · intro h
    refine nb_le ?_
    have h1 := val_lt hx.1
    have h2 : (4294967296 : Nat) ^ x.length ≤ 4294967296 ^ 128 := Nat.pow_le_pow_right (by decide) h
    rw [pow_split 128 4096 rfl]
    omega
theorem good_iff {x : List Int} (hx : u32s x) : goodB x = true ↔ canon x ∧ x.length ≤ 128 := by
  refine ⟨good_canon hx, fun h => ?_⟩
  unfold goodB
  rw [Bool.and_eq_true, decide_eq_true_iff, Bool.or_eq_true, decide_eq_true_iff]
  refine ⟨h.2, ?_⟩
  by_cases hn : x = []
  · exact .inl (by rw [hn]; rfl)
  · exact .inr (by rw [List.getLast?_eq_some_getLast hn]; exact h.1.2 hn)
theorem progIsRat_f {f : Int} {p : Bool} {x a : List Int} (hx : u32s x) (ha : u32s a) (lx : x.length < 4294967296) (la : a.length < 4294967296) (hw : f ≠ 0 → x.length + a.length < 9223372036854775808) : Ev (fun k => frac_IsRat.f k f p x a) (isRatB f p x a) := by
  unfold frac_IsRat.f isRatB
  have emp : ∀ z : List Int, ((z.length : Int) = 0) ↔ z.isEmpty = true := by intro z; cases z <;> simp; omega
  by_cases h0 : f = 0
  · rw [if_pos h0]
    refine Ev.yes h0 (Ev.bind (form_dec hx lx) ?_)
    by_cases c1 : canon x ∧ x.length ≤ 512
    · refine Ev.yes (fB_iff.2 c1) (Ev.bind (form_dec ha la) ?_)
      by_cases c2 : canon a ∧ a.length ≤ 512
      · refine Ev.yes (fB_iff.2 c2) (Ev.bind (long_f c1.1 c1.2) ?_)
        by_cases g1 : goodB x = true
        · have l1 := (nb_long c1.1).2 (good_canon hx g1).2
          refine Ev.no (fun h => by have := of_decide_eq_true h; omega) (Ev.bind (long_f c2.1 c2.2) ?_)
          rw [g1, Bool.true_and]
          by_cases g2 : goodB a = true
          · have l2 := (nb_long c2.1).2 (good_canon ha g2).2
            refine Ev.no (fun h => by have := of_decide_eq_true h; omega) ?_
            rw [g2, Bool.true_and]
            cases e1 : a.isEmpty with
            | true => exact Ev.yes ((emp a).2 e1) (Ev.now _)
            | false =>
              refine Ev.no (fun h => by rw [(emp a).1 h] at e1; exact absurd e1 (by decide)) ?_
              have hpa := val_pos c2.1 (fun e => by rw [e] at e1; simp at e1)
              have hg := natGcdE_f c1.1 c2.1 c1.2 c2.2
              have one := one_digit (Nat.gcd (valN x) (valN a)) (Nat.gcd_pos_of_pos_right _ hpa)
              cases p with
              | true =>
                refine Ev.yes rfl ?_
                cases e2 : x.isEmpty with
                | true => exact Ev.yes ((emp x).2 e2) (Ev.now _)
                | false => exact Ev.no (fun h => by rw [(emp x).1 h] at e2; exact absurd e2 (by decide)) (Ev.bind hg (Ev.con one))
              | false => exact Ev.no (by decide) (Ev.bind hg (Ev.con one))
          · refine Ev.yes (decide_eq_true (Nat.lt_of_not_le fun h => g2 ((good_iff ha).2 ⟨c2.1, (nb_long c2.1).1 h⟩))) ?_
            rw [Bool.eq_false_iff.2 g2]; exact Ev.now _
        · refine Ev.yes (decide_eq_true (Nat.lt_of_not_le fun h => g1 ((good_iff hx).2 ⟨c1.1, (nb_long c1.1).1 h⟩))) ?_
          rw [Bool.eq_false_iff.2 g1]; exact Ev.now _
      · refine Ev.no (fun h => c2 (fB_iff.1 h)) ?_
        have g2 : goodB a = false := Bool.eq_false_iff.2 fun h => c2 ⟨(good_canon ha h).1, by have := (good_canon ha h).2; omega⟩
        rw [g2, Bool.false_and, Bool.and_false]; exact Ev.now _
    · refine Ev.no (fun h => c1 (fB_iff.1 h)) ?_
      have g1 : goodB x = false := Bool.eq_false_iff.2 fun h => c1 ⟨(good_canon hx h).1, by have := (good_canon hx h).2; omega⟩
      rw [g1, Bool.false_and]; exact Ev.now _
  · rw [if_neg h0]
    have hw := hw h0
    have ew : wrap64 ((x.length : Int) + (a.length : Int)) = (x.length : Int) + (a.length : Int) := w64 _ (by omega)
    have hfl : frac_isFault.f f = some (decide (f = 4) || decide (f = 11)) := by
      unfold frac_isFault.f
      by_cases h4 : f = 4
      · rw [if_pos h4, decide_eq_true h4]; rfl
      · rw [if_neg h4, decide_eq_false h4, Bool.false_or]; congr 1
    refine Ev.no h0 (Ev.bind (Ev.con hfl) ?_)
    cases hb : (decide (f = 4) || decide (f = 11)) with
    | false => exact Ev.no (by decide) (Ev.now _)
    | true =>
      refine Ev.yes rfl ?_
      cases p with
      | true => exact Ev.yes rfl (Ev.now _)
      | false =>
        refine Ev.no (by decide) (Ev.is ?_)
        rw [ew]
        congr 1
        rw [Bool.eq_iff_iff, beq_iff_eq]
        cases x <;> cases a <;> simp <;> omega
/-! ### sets of inputs, 64 in a word -/
def u64s (x : List Int) : Prop := ∀ d ∈ x, 0 ≤ d ∧ d < 18446744073709551616
def bitOf (row : List Int) (k : Nat) : Bool := (row.getD (k / 64) 0).toNat.testBit (k % 64)
theorem u64_wrap {n : Nat} (h : n < 18446744073709551616) : IntKind.u64.wrap (n : Int) = (n : Int) := by
  unfold IntKind.wrap
  simp [IntKind.signed, IntKind.bits]
  omega
theorem bits_or {a b : Nat} (ha : a < 18446744073709551616) (hb : b < 18446744073709551616) : Go.bits .or .u64 (a : Int) (b : Int) = ((a ||| b : Nat) : Int) := by
  have h : (BitVec.ofInt 64 (a : Int) ||| BitVec.ofInt 64 (b : Int)).toNat = a ||| b := by
    rw [BitVec.ofInt_natCast, BitVec.ofInt_natCast, BitVec.toNat_or, BitVec.toNat_ofNat, BitVec.toNat_ofNat, Nat.mod_eq_of_lt (by omega), Nat.mod_eq_of_lt (by omega)]
  show IntKind.u64.wrap (((BitVec.ofInt 64 (a : Int) ||| BitVec.ofInt 64 (b : Int)).toNat : Nat) : Int) = _
  rw [h]
  exact u64_wrap (Nat.or_lt_two_pow (n := 64) (by omega) (by omega))
theorem bits_and1 {a : Nat} (ha : a < 18446744073709551616) : Go.bits .and .u64 (a : Int) 1 = ((a % 2 : Nat) : Int) := by
  have h : (BitVec.ofInt 64 (a : Int) &&& BitVec.ofInt 64 ((1 : Nat) : Int)).toNat = a % 2 := by
    rw [BitVec.ofInt_natCast, BitVec.ofInt_natCast, BitVec.toNat_and, BitVec.toNat_ofNat, BitVec.toNat_ofNat, Nat.mod_eq_of_lt (by omega), Nat.mod_eq_of_lt (by omega), Nat.and_one_is_mod]
  show IntKind.u64.wrap (((BitVec.ofInt 64 (a : Int) &&& BitVec.ofInt 64 ((1 : Nat) : Int)).toNat : Nat) : Int) = _
  rw [h]
  exact u64_wrap (by omega)
theorem word_at {x : List Int} (h : u64s x) (j : Nat) : ∃ n : Nat, x.getD j 0 = (n : Int) ∧ n < 18446744073709551616 := by
  by_cases hj : j < x.length
  · have := h _ (List.getElem_mem hj)
    refine ⟨(x.getD j 0).toNat, ?_, ?_⟩ <;> rw [List.getD_eq_getElem?_getD, List.getElem?_eq_getElem hj, Option.getD_some] <;> omega
  · exact ⟨0, by rw [List.getD_eq_getElem?_getD, List.getElem?_eq_none (by omega)]; rfl, by decide⟩
theorem has_f {x : List Int} (h : u64s x) {k : Nat} (hk : k / 64 < x.length) (hl : x.length ≤ 1000000) : sparse_set_has.f x (k : Int) = some (bitOf x k) := by
  have e1 : Int.tdiv (k : Int) 64 = ((k / 64 : Nat) : Int) := rfl
  have e2 : Int.tmod (k : Int) 64 = ((k % 64 : Nat) : Int) := rfl
  have e3 : wrap64 ((k / 64 : Nat) : Int) = ((k / 64 : Nat) : Int) := by unfold wrap64; omega
  obtain ⟨n, hn, hn2⟩ := word_at h (k / 64)
  have hm : k % 64 < 64 := Nat.mod_lt _ (by decide)
  have e4 : shr .u64 (n : Int) ((k % 64 : Nat) : Int) = ((n / 2 ^ (k % 64) : Nat) : Int) := by
    unfold shr
    rw [Int.toNat_natCast, Nat.min_eq_left (by show k % 64 ≤ 64; omega)]
    norm_cast
  unfold sparse_set_has.f bitOf
  rw [e1, e2, e3, if_pos (by omega), if_pos (by omega), if_pos (by omega), show rd x ((k / 64 : Nat) : Int) = (n : Int) from by unfold rd; rw [Int.toNat_natCast]; exact hn, e4, bits_and1 (Nat.lt_of_le_of_lt (Nat.div_le_self _ _) hn2), hn, Int.toNat_natCast, Nat.testBit_eq_decide_div_mod_eq]
  congr 1
  have h2 := Nat.mod_two_eq_zero_or_one (n / 2 ^ (k % 64))
  rcases h2 with h2 | h2 <;> rw [h2] <;> rfl
theorem word_set {x : List Int} (h : u64s x) {v : Int} (hv : 0 ≤ v ∧ v < 18446744073709551616) (j : Nat) : u64s (x.set j v) := fun d hd => by
  rcases List.mem_or_eq_of_mem_set hd with hd | rfl
  · exact h d hd
  · exact hv
theorem word_zero (N : Nat) : u64s (List.replicate N 0) := fun d hd => by rw [(List.mem_replicate.1 hd).2]; decide
theorem bit_zero (N k : Nat) : bitOf (List.replicate N 0) k = false := by
  unfold bitOf
  have e : (List.replicate N (0 : Int)).getD (k / 64) 0 = 0 := by
    rw [List.getD_eq_getElem?_getD, List.getElem?_replicate]
    split <;> rfl
  rw [e]
  exact Nat.zero_testBit _
theorem bit_set {x : List Int} {j : Nat} (hj : j < x.length) (m : Nat) (k : Nat) : bitOf (x.set j (m : Int)) k = if k / 64 = j then m.testBit (k % 64) else bitOf x k := by
  unfold bitOf
  by_cases e : k / 64 = j
  · subst e
    rw [if_pos rfl, List.getD_eq_getElem?_getD, List.getElem?_set_self (by simpa using hj), Option.getD_some, Int.toNat_natCast]
  · rw [if_neg e, List.getD_eq_getElem?_getD, List.getElem?_set_ne (fun h => e h.symm), ← List.getD_eq_getElem?_getD]
/-- One set into another: the words from j on. -/
theorem with_l0 {o : List Int} (ho : u64s o) (hl : o.length ≤ 1000000) : ∀ d j x, j + d = o.length → x.length = o.length → u64s x → ∃ r : List Int, Ev (fun k => sparse_set_with.l0 k x o (o.length : Int) (j : Int)) r ∧ r.length = o.length ∧ u64s r ∧ ∀ k, bitOf r k = if k / 64 < j then bitOf x k else bitOf x k || bitOf o k := by
  intro d
  induction d with
  | zero =>
    intro j x hj hx hu
    refine ⟨x, ⟨1, fun n hn => ?_⟩, hx, hu, fun k => ?_⟩
    · obtain ⟨m, rfl⟩ : ∃ m, n = m + 1 := ⟨n - 1, by omega⟩
      show sparse_set_with.l0 (m + 1) x o (o.length : Int) (j : Int) = some x
      rw [sparse_set_with.l0, if_neg (by omega)]
    · by_cases e : k / 64 < j
      · rw [if_pos e]
      · rw [if_neg e]
        have h0 : bitOf o k = false := by
          unfold bitOf
          rw [List.getD_eq_getElem?_getD, List.getElem?_eq_none (by omega)]
          exact Nat.zero_testBit _
        rw [h0, Bool.or_false]
  | succ d ih =>
    intro j x hj hx hu
    obtain ⟨a, ha, ha2⟩ := word_at hu j
    obtain ⟨b, hb, hb2⟩ := word_at ho j
    have hor : (a ||| b) < 18446744073709551616 := Nat.or_lt_two_pow (n := 64) (by omega) (by omega)
    obtain ⟨r, hr, hrl, hru, hrb⟩ := ih (j + 1) (x.set j ((a ||| b : Nat) : Int)) (by omega) (by rw [List.length_set]; exact hx) (word_set hu ⟨by omega, by omega⟩ j)
    refine ⟨r, ?_, hrl, hru, fun k => ?_⟩
    · obtain ⟨n0, h0⟩ := hr
      refine ⟨n0 + 1, fun n hn => ?_⟩
      obtain ⟨m, rfl⟩ : ∃ m, n = m + 1 := ⟨n - 1, by omega⟩
      show sparse_set_with.l0 (m + 1) x o (o.length : Int) (j : Int) = some r
      rw [sparse_set_with.l0, if_pos (by omega), if_pos (by omega), if_pos (by omega), if_pos (by omega), wnx j (by omega), Int.toNat_natCast, show rd x (j : Int) = (a : Int) from ha, show rd o (j : Int) = (b : Int) from hb, bits_or ha2 hb2]
      exact h0 m (by omega)
    · rw [hrb k, bit_set (by omega)]
      by_cases e1 : k / 64 < j
      · rw [if_pos (by omega), if_neg (by omega), if_pos e1]
      · by_cases e2 : k / 64 = j
        · rw [if_pos (by omega), if_pos e2, if_neg e1]
          have h1 : bitOf x k = a.testBit (k % 64) := by unfold bitOf; rw [e2, ha, Int.toNat_natCast]
          have h2 : bitOf o k = b.testBit (k % 64) := by unfold bitOf; rw [e2, hb, Int.toNat_natCast]
          rw [h1, h2, Nat.testBit_or]
        · rw [if_neg (by omega), if_neg e2, if_neg e1]
theorem with_f {x o : List Int} (hx : u64s x) (ho : u64s o) (hxl : x.length = o.length) (hl : o.length ≤ 1000000) : ∃ r : List Int, Ev (fun k => sparse_set_with.f k x o) r ∧ r.length = o.length ∧ u64s r ∧ ∀ k, bitOf r k = (bitOf x k || bitOf o k) := by
  obtain ⟨r, h1, h2, h3, h4⟩ := with_l0 ho hl o.length 0 x (by omega) hxl hx
  exact ⟨r, h1, h2, h3, fun k => by rw [h4 k, if_neg (by omega)]⟩
theorem first_f {N : Nat} {n i : Nat} (hN : N = n / 64 + 1) (hn : n ≤ 1000000) (hi : i ≤ 1000000) : ∃ r : List Int, depFirst N (n : Int) (i : Int) = some r ∧ r.length = N ∧ u64s r ∧ ∀ k, k < n → bitOf r k = decide (i = k) := by
  unfold depFirst
  by_cases h : (i : Int) < (n : Int)
  · have e1 : Int.tdiv (i : Int) 64 = ((i / 64 : Nat) : Int) := rfl
    have e2 : Int.tmod (i : Int) 64 = ((i % 64 : Nat) : Int) := rfl
    have e3 : wrap64 ((i / 64 : Nat) : Int) = ((i / 64 : Nat) : Int) := by unfold wrap64; omega
    have hp : 2 ^ (i % 64) < 18446744073709551616 := Nat.lt_of_lt_of_le (Nat.pow_lt_pow_right (by decide) (Nat.mod_lt i (by decide : 0 < 64))) (by decide)
    have e4 : IntKind.u64.wrap ((2 : Int) ^ (((i % 64 : Nat) : Int)).toNat) = ((2 ^ (i % 64) : Nat) : Int) := by
      rw [Int.toNat_natCast, show (2 : Int) ^ (i % 64) = ((2 ^ (i % 64) : Nat) : Int) from by norm_cast]
      exact u64_wrap hp
    have e5 : rdOf 0 (List.replicate N (0 : Int)) ((i / 64 : Nat) : Int) = ((0 : Nat) : Int) := by
      unfold rdOf
      rw [List.getD_eq_getElem?_getD, List.getElem?_replicate]
      split <;> rfl
    rw [if_pos h, e1, e2, e3, if_pos ⟨by omega, by omega, Int.natCast_nonneg _, by omega⟩, e4, e5, bits_or (by decide) hp, Nat.zero_or, Int.toNat_natCast]
    refine ⟨_, rfl, by rw [List.length_set, List.length_replicate], word_set (word_zero N) ⟨Int.natCast_nonneg _, Int.ofNat_lt.2 hp⟩ _, fun k hk => ?_⟩
    rw [bit_set (by rw [List.length_replicate]; omega), bit_zero]
    by_cases e : i = k
    · subst e
      rw [if_pos rfl, Nat.testBit_two_pow_self, decide_eq_true rfl]
    · rw [decide_eq_false e]
      by_cases e6 : k / 64 = i / 64
      · rw [if_pos e6]
        exact Nat.testBit_two_pow_of_ne (by omega)
      · rw [if_neg e6]
  · rw [if_neg h]
    exact ⟨_, rfl, List.length_replicate, word_zero N, fun k hk => by rw [bit_zero, decide_eq_false (by omega)]⟩
/-! ### what a step depends on -/
def hasA (f : Int) : Bool := decide (3 ≤ f) && decide (f ≤ 7)
def hasB (f : Int) : Bool := decide (3 ≤ f) && decide (f ≤ 6)
def stepOk (i : Nat) (s : S44) : Prop := (1 ≤ s.f0 ∧ s.f0 < 8) ∧ (hasA s.f0 = true → 0 ≤ s.f1 ∧ s.f1 < (i : Int)) ∧ (hasB s.f0 = true → 0 ≤ s.f2 ∧ s.f2 < (i : Int))
def stepsOk : Nat → List S44 → Prop
  | _, [] => True
  | i, s :: ss => stepOk i s ∧ stepsOk (i + 1) ss
def onStep (k i : Nat) (on : List Bool) (s : S44) : Bool := decide (i = k) || (hasA s.f0 && on.getD s.f1.toNat false || hasB s.f0 && on.getD s.f2.toNat false)
def onAll (k : Nat) : List S44 → List Bool → List Bool
  | [], on => on
  | s :: ss, on => onAll k ss (on ++ [onStep k on.length on s])
def specP (n : Nat) (ss : List S44) (os : List Int) : List (List Bool) := os.map fun o => (List.range n).map fun k => (onAll k ss []).getD o.toNat false
theorem onAll_len (k : Nat) : ∀ (ss : List S44) (on : List Bool), (onAll k ss on).length = on.length + ss.length
  | [], on => rfl
  | s :: ss, on => by rw [onAll, onAll_len k ss, List.length_append, List.length_cons]; simp; omega
/-- The sets of the steps so far are what each input reaches. -/
def Done (N n i : Nat) (done : List (List Int)) (on : Nat → List Bool) : Prop := done.length = i ∧ (∀ x ∈ done, x.length = N ∧ u64s x) ∧ ∀ k, k < n → (on k).length = i ∧ ∀ j, j < i → bitOf (done.getD j []) k = (on k).getD j false
section
variable {N n i : Nat} {done : List (List Int)} {on : Nat → List Bool}
theorem one_f (hd : Done N n i done on) (hN : N ≤ 1000000) {p : Int} (hp : 0 ≤ p ∧ p < (i : Int)) {row : List Int} (hr : row.length = N ∧ u64s row) : ∃ r : List Int, (∀ ps r2, Ev (fun K => depWith K done ps r) r2 → Ev (fun K => depWith K done (p :: ps) row) r2) ∧ (r.length = N ∧ u64s r) ∧ ∀ k, k < n → bitOf r k = (bitOf row k || (on k).getD p.toNat false) := by
  have hpt : p.toNat < done.length := by have := hd.1; omega
  have hx : done.getD p.toNat [] ∈ done := by rw [List.getD_eq_getElem?_getD, List.getElem?_eq_getElem hpt]; exact List.getElem_mem hpt
  obtain ⟨hxl, hxu⟩ := hd.2.1 _ hx
  obtain ⟨r, h1, h2, h3, h4⟩ := with_f hr.2 hxu (by rw [hr.1, hxl]) (by omega)
  refine ⟨r, fun ps r2 h => ?_, ⟨by rw [h2, hxl], h3⟩, fun k hk => by rw [h4 k, (hd.2.2 k hk).2 p.toNat (by have := hd.1; omega)]⟩
  show Ev (fun K => depWith K done (p :: ps) row) r2
  refine Ev.congr (fun K => by rw [depWith]) ?_
  exact Ev.yes ⟨hp.1, by have := hd.1; omega⟩ (Ev.bind h1 h)
theorem kind_A {f : Int} (h : 1 ≤ f ∧ f < 8) : kindA f.toNat = hasA f := by unfold kindA hasA; congr 1 <;> (apply decide_eq_decide.2; omega)
theorem kind_B {f : Int} (h : 1 ≤ f ∧ f < 8) : kindB f.toNat = hasB f := by unfold kindB hasB; congr 1 <;> (apply decide_eq_decide.2; omega)
theorem row_f (hd : Done N n i done on) (hN : N = n / 64 + 1) (hn : n ≤ 1000000) (hi : i ≤ 1000000) {s : S44} (hs : stepOk i s) : ∃ (ps row0 r : List Int), trace_Parts.f s.f0 s.f1 s.f2 = some ps ∧ depFirst N (n : Int) (i : Int) = some row0 ∧ Ev (fun K => depWith K done ps row0) r ∧ (r.length = N ∧ u64s r) ∧ ∀ k, k < n → bitOf r k = onStep k i (on k) s := by
  obtain ⟨row0, h0, h1, h2, h3⟩ := first_f hN hn hi
  obtain ⟨hk, hA, hB⟩ := hs
  have hps : trace_Parts.f s.f0 s.f1 s.f2 = some (if hasB s.f0 = true then [s.f1, s.f2] else if hasA s.f0 = true then [s.f1] else []) := by
    unfold trace_Parts.f trace_parts.f
    rw [if_pos (by omega), kind_A hk, kind_B hk]
  have hAB : hasB s.f0 = true → hasA s.f0 = true := by unfold hasA hasB; simp; omega
  cases hb : hasB s.f0 with
  | true =>
    have ha := hAB hb
    obtain ⟨r1, e1, l1, b1⟩ := one_f hd (by omega) (hA ha) ⟨h1, h2⟩
    obtain ⟨r2, e2, l2, b2⟩ := one_f hd (by omega) (hB hb) l1
    refine ⟨_, row0, r2, hps, h0, ?_, l2, fun k hk => ?_⟩
    · rw [if_pos hb]
      exact e1 _ _ (e2 _ _ (Ev.is rfl))
    · rw [b2 k hk, b1 k hk, h3 k hk]
      unfold onStep
      rw [ha, hb, Bool.true_and, Bool.true_and, Bool.or_assoc]
  | false =>
    cases ha : hasA s.f0 with
    | true =>
      obtain ⟨r1, e1, l1, b1⟩ := one_f hd (by omega) (hA ha) ⟨h1, h2⟩
      refine ⟨_, row0, r1, hps, h0, ?_, l1, fun k hk => ?_⟩
      · rw [if_neg (by rw [hb]; decide), if_pos ha]
        exact e1 _ _ (Ev.is rfl)
      · rw [b1 k hk, h3 k hk]
        unfold onStep
        rw [ha, hb, Bool.true_and, Bool.false_and, Bool.or_false]
    | false =>
      refine ⟨_, row0, row0, hps, h0, ?_, ⟨h1, h2⟩, fun k hk => ?_⟩
      · rw [if_neg (by rw [hb]; decide), if_neg (by rw [ha]; decide)]
        exact Ev.is rfl
      · rw [h3 k hk]
        unfold onStep
        rw [ha, hb, Bool.false_and, Bool.false_and, Bool.or_false, Bool.or_false]
theorem done_next (hd : Done N n i done on) {s : S44} {r : List Int} (hr : r.length = N ∧ u64s r) (hb : ∀ k, k < n → bitOf r k = onStep k i (on k) s) : Done N n (i + 1) (done ++ [r]) (fun k => on k ++ [onStep k (on k).length (on k) s]) := by
  refine ⟨by rw [List.length_append, hd.1]; rfl, fun x hx => ?_, fun k hk => ?_⟩
  · rcases List.mem_append.1 hx with h | h
    · exact hd.2.1 x h
    · rw [List.mem_singleton.1 h]; exact hr
  · obtain ⟨h1, h2⟩ := hd.2.2 k hk
    refine ⟨by rw [List.length_append, h1]; rfl, fun j hj => ?_⟩
    by_cases e : j < i
    · rw [List.getD_eq_getElem?_getD, List.getElem?_append_left (by rw [hd.1]; exact e), ← List.getD_eq_getElem?_getD, h2 j e, List.getD_eq_getElem?_getD, List.getD_eq_getElem?_getD, List.getElem?_append_left (by rw [h1]; exact e)]
    · obtain rfl : j = i := by omega
      rw [List.getD_eq_getElem?_getD, List.getElem?_append_right (by rw [hd.1]; exact Nat.le_refl _), hd.1, Nat.sub_self, List.getD_eq_getElem?_getD, List.getElem?_append_right (by rw [h1]; exact Nat.le_refl _), h1, Nat.sub_self]
      exact hb k hk
end
theorem wordsOf_nat {n : Nat} (hn : n ≤ 1000000) : wordsOf (n : Int) = ((n / 64 + 1 : Nat) : Int) := by
  have e1 : Int.tdiv (n : Int) 64 = ((n / 64 : Nat) : Int) := rfl
  unfold wordsOf
  rw [e1]
  unfold wrap64
  omega
theorem depSteps_f {n : Nat} (hn : n ≤ 1000000) : ∀ (ss : List S44) (i : Nat) (done : List (List Int)) (on : Nat → List Bool), i + ss.length ≤ 1000000 → Done (n / 64 + 1) n i done on → stepsOk i ss → ∃ l : List (List Int), Ev (fun K => depSteps K (n : Int) ss i done) l ∧ Done (n / 64 + 1) n (i + ss.length) l (fun k => onAll k ss (on k))
  | [], i, done, on, hl, hd, _ => ⟨done, Ev.is rfl, hd⟩
  | s :: ss, i, done, on, hl, hd, hs => by
    rw [List.length_cons] at hl
    obtain ⟨ps, row0, r, h1, h2, h3, h4, h5⟩ := row_f hd rfl hn (by omega) hs.1
    obtain ⟨l, e1, e2⟩ := depSteps_f hn ss (i + 1) (done ++ [r]) _ (by omega) (done_next hd h4 h5) hs.2
    have h2' : depFirst (wordsOf (n : Int)).toNat (n : Int) (i : Int) = some row0 := by rw [wordsOf_nat hn, Int.toNat_natCast]; exact h2
    refine ⟨l, Ev.congr (fun K => by rw [depSteps]) (Ev.bind (Ev.con h1) (Ev.bind (Ev.con h2') (Ev.bind h3 e1))), ?_⟩
    · rw [List.length_cons, show i + (ss.length + 1) = i + 1 + ss.length from by omega]
      exact e2
theorem patHas_f {s : List Int} {n : Nat} (hu : u64s s) (hl : s.length = n / 64 + 1) (hn : n ≤ 1000000) : ∀ m j (row : List Bool), j + m = n → row.length = n → ∃ r : List Bool, patHas s m j row = some r ∧ r.length = n ∧ ∀ i, i < n → r[i]? = if i < j then row[i]? else some (bitOf s i)
  | 0, j, row, hj, hr => ⟨row, rfl, hr, fun i hi => by rw [if_pos (by omega)]⟩
  | m + 1, j, row, hj, hr => by
    obtain ⟨r, h1, h2, h3⟩ := patHas_f hu hl hn m (j + 1) (row.set j (bitOf s j)) (by omega) (by rw [List.length_set]; exact hr)
    refine ⟨r, ?_, h2, fun i hi => ?_⟩
    · rw [patHas, has_f hu (by omega) (by omega)]
      exact h1
    · rw [h3 i hi]
      by_cases e : i < j
      · rw [if_pos (by omega), if_pos e, List.getElem?_set_ne (by omega)]
      · by_cases e2 : i = j
        · subst e2
          rw [if_pos (by omega), if_neg e, List.getElem?_set_self (by omega)]
        · rw [if_neg (by omega), if_neg e]
theorem patRow_f {s : List Int} {n : Nat} (hu : u64s s) (hl : s.length = n / 64 + 1) (hn : n ≤ 1000000) : patHas s n 0 (List.replicate n false) = some ((List.range n).map (bitOf s)) := by
  obtain ⟨r, h1, h2, h3⟩ := patHas_f hu hl hn n 0 (List.replicate n false) (by omega) List.length_replicate
  rw [h1]
  congr 1
  apply List.ext_getElem?
  intro i
  by_cases hi : i < n
  · rw [h3 i hi, if_neg (by omega), List.getElem?_map, List.getElem?_range hi]
    rfl
  · rw [List.getElem?_eq_none (by omega), List.getElem?_eq_none (by rw [List.length_map, List.length_range]; omega)]
theorem patRows_f {n : Nat} (hn : n ≤ 1000000) : ∀ (l : List (List Int)) (acc : List (List Bool)), (∀ x ∈ l, x.length = n / 64 + 1 ∧ u64s x) → patRows n l acc = some (acc ++ l.map fun s => (List.range n).map (bitOf s))
  | [], acc, _ => by rw [patRows, List.map_nil, List.append_nil]
  | s :: ss, acc, h => by
    rw [patRows, patRow_f (h s (List.mem_cons_self ..)).2 (h s (List.mem_cons_self ..)).1 hn, Option.bind_some, patRows_f hn ss _ (fun x hx => h x (List.mem_cons_of_mem _ hx)), List.map_cons, List.append_assoc]
    rfl
theorem pattern_f {n : Nat} (hn : n ≤ 1000000) {ss : List S44} {os : List Int} (hs : ss.length ≤ 1000000) (ho : os.length ≤ 1000000) (hok : stepsOk 0 ss) (hout : ∀ o ∈ os, 0 ≤ o ∧ o < (ss.length : Int)) : Ev (fun K => sparse_pattern.f K (n : Int) ss os) (specP n ss os) := by
  obtain ⟨l, h1, h2⟩ := depSteps_f hn ss 0 [] (fun _ => []) (by omega) ⟨rfl, fun x hx => by simp at hx, fun k _ => ⟨rfl, fun j hj => by omega⟩⟩ hok
  rw [Nat.zero_add] at h2
  have hmem : ∀ o ∈ os, l.getD o.toNat [] ∈ l := fun o ho' => by
    have h3 : o.toNat < l.length := by have := hout o ho'; have := h2.1; omega
    rw [List.getD_eq_getElem?_getD, List.getElem?_eq_getElem h3]
    exact List.getElem_mem h3
  have hdep : Ev (fun K => sparse_depends.f K (n : Int) ss os) (os.map fun o => l.getD o.toNat []) := by
    unfold sparse_depends.f
    refine Ev.yes ?_ (Ev.bind h1 (Ev.yes ?_ (Ev.is rfl)))
    · rw [wordsOf_nat hn, Int.toNat_natCast]
      exact ⟨by omega, by omega, hs, ho⟩
    · rw [List.all_eq_true]
      intro o ho'
      have := hout o ho'
      rw [decide_eq_true this.1, decide_eq_true (by have := h2.1; omega)]
      rfl
  unfold sparse_pattern.f
  refine Ev.yes ⟨by omega, by omega⟩ (Ev.bind hdep (Ev.yes (by rw [List.length_map]; exact ho) (Ev.con ?_)))
  rw [Int.toNat_natCast, patRows_f hn _ _ (fun x hx => by obtain ⟨o, ho', rfl⟩ := List.mem_map.1 hx; exact h2.2.1 _ (hmem o ho')), List.nil_append, List.map_map]
  congr 1
  unfold specP
  apply List.map_congr_left
  intro o ho'
  show (List.range n).map (bitOf (l.getD o.toNat [])) = _
  apply List.map_congr_left
  intro k hk
  exact (h2.2.2 k (List.mem_range.1 hk)).2 o.toNat (by have := hout o ho'; omega)
/-! ### what the specification's pattern is -/
theorem refHas_f (f : Int) : fluxionref11_Has.f f = some (hasA f, hasB f) := by
  unfold fluxionref11_Has.f hasA hasB
  by_cases h3 : f = 3
  · subst h3; rfl
  · by_cases h4 : f = 4
    · subst h4; rfl
    · by_cases h5 : f = 5
      · subst h5; rfl
      · by_cases h6 : f = 6
        · subst h6; rfl
        · rw [if_neg h3, if_neg h4, if_neg h5, if_neg h6]
          have e6 : (f == 6) = false := by simpa using h6
          rw [e6]
          by_cases h7 : f = 7
          · subst h7; rfl
          · have e7 : (f == 7) = false := by simpa using h7
            have a : (decide (3 ≤ f) && decide (f ≤ 7)) = false := by
              rw [Bool.and_eq_false_iff]
              by_cases q : 3 ≤ f
              · exact .inr (decide_eq_false (by omega))
              · exact .inl (decide_eq_false q)
            have b : (decide (3 ≤ f) && decide (f ≤ 6)) = false := by
              rw [Bool.and_eq_false_iff]
              by_cases q : 3 ≤ f
              · exact .inr (decide_eq_false (by omega))
              · exact .inl (decide_eq_false q)
            rw [e7, a, b]
theorem stepsOk_at : ∀ (ss : List S44) (i j : Nat) (h : j < ss.length), stepsOk i ss → stepOk (i + j) ss[j]
  | [], _, j, h, _ => absurd h (by simp)
  | s :: ss, i, 0, _, hs => hs.1
  | s :: ss, i, j + 1, h, hs => by
    have := stepsOk_at ss (i + 1) j (by simpa using h) hs.2
    rw [show i + (j + 1) = i + 1 + j from by omega]
    exact this
theorem pad_get (on : List Bool) (m : Nat) (z : Int) (h0 : 0 ≤ z) (h1 : z < (on.length : Int)) : rdOf false (on ++ List.replicate m false) z = on.getD z.toNat false := by
  unfold rdOf
  rw [List.getD_eq_getElem?_getD, List.getElem?_append_left (by omega), ← List.getD_eq_getElem?_getD]
theorem pad_set (on : List Bool) (m : Nat) (b : Bool) : (on ++ List.replicate (m + 1) false).set on.length b = (on ++ [b]) ++ List.replicate m false := by
  rw [List.set_append_right _ _ (Nat.le_refl _), Nat.sub_self, List.replicate_succ, List.set_cons_zero, List.append_assoc]
  rfl
section
variable {ss : List S44} {os : List Int} {n : Nat}
/-- One step of one input. -/
theorem ref_l1_step (hl : ss.length ≤ 1000000) {out : List (List Bool)} {k i d : Nat} {on : List Bool} (hi : i + (d + 1) = ss.length) (hon : on.length = i) (hs : stepOk i (ss.getD i ⟨0, 0, 0, ⟨0, false, [], []⟩⟩)) {r : List (List Bool)} (h : Ev (fun K => fluxionref19_Pattern.l1 K out (k : Int) ((on ++ [onStep k i on (ss.getD i ⟨0, 0, 0, ⟨0, false, [], []⟩⟩)]) ++ List.replicate d false) ((i + 1 : Nat) : Int) (n : Int) ss os) r) :
    Ev (fun K => fluxionref19_Pattern.l1 K out (k : Int) (on ++ List.replicate (d + 1) false) (i : Int) (n : Int) ss os) r := by
  obtain ⟨s, hse⟩ : ∃ s, ss.getD i ⟨0, 0, 0, ⟨0, false, [], []⟩⟩ = s := ⟨_, rfl⟩
  rw [hse] at hs h
  have hrd : rd_T44 ss (i : Int) = s := by
    unfold rd_T44
    rw [Int.toNat_natCast, ← hse]
    rfl
  have hlen : (on ++ List.replicate (d + 1) false).length = ss.length := by rw [List.length_append, List.length_replicate, hon, hi]
  have hset : ∀ b, (on ++ List.replicate (d + 1) false).set i b = (on ++ [b]) ++ List.replicate d false := fun b => by rw [← hon, pad_set]
  have hlt : (i : Int) < ((on ++ List.replicate (d + 1) false).length : Int) := by rw [hlen]; omega
  refine Ev.step (fun K => by rw [fluxionref19_Pattern.l1]) ?_
  refine Ev.yes (by omega) (Ev.yes (by omega) ?_)
  rw [hrd, refHas_f]
  simp only [Option.bind_some, Int.toNat_natCast, wnx i (by omega), hset]
  obtain ⟨hk, hA, hB⟩ := hs
  unfold onStep at h
  by_cases c1 : (i : Int) = (k : Int)
  · refine Ev.yes c1 (Ev.yes hlt ?_)
    rw [decide_eq_true (by omega : i = k), Bool.true_or] at h
    exact h
  · refine Ev.no c1 ?_
    rw [decide_eq_false (by omega : ¬ i = k), Bool.false_or] at h
    have fin : ∀ b, (hasB s.f0 && on.getD s.f2.toNat false) = b → Ev (fun K => fluxionref19_Pattern.l1 K out (k : Int) ((on ++ [b]) ++ List.replicate d false) ((i + 1 : Nat) : Int) (n : Int) ss os) r →
        Ev (fun K => if hasB s.f0 = true then (if 0 ≤ s.f2 then (if s.f2 < ((on ++ List.replicate (d + 1) false).length : Int) then (if (i : Int) < ((on ++ List.replicate (d + 1) false).length : Int) then (fluxionref19_Pattern.l1 K out (k : Int) ((on ++ [rdOf false (on ++ List.replicate (d + 1) false) s.f2]) ++ List.replicate d false) ((i + 1 : Nat) : Int) (n : Int) ss os) else none) else none) else none) else (if (i : Int) < ((on ++ List.replicate (d + 1) false).length : Int) then (fluxionref19_Pattern.l1 K out (k : Int) ((on ++ [false]) ++ List.replicate d false) ((i + 1 : Nat) : Int) (n : Int) ss os) else none)) r := fun b hb hr => by
      cases e : hasB s.f0 with
      | true =>
        have h2 := hB e
        refine Ev.yes rfl (Ev.yes h2.1 (Ev.yes (by rw [hlen]; omega) (Ev.yes hlt ?_)))
        rw [pad_get on (d + 1) s.f2 h2.1 (by omega)]
        rw [e, Bool.true_and] at hb
        rw [hb]
        exact hr
      | false =>
        refine Ev.no (by decide) (Ev.yes hlt ?_)
        rw [e, Bool.false_and] at hb
        subst hb
        exact hr
    cases e : hasA s.f0 with
    | true =>
      have h2 := hA e
      rw [e, Bool.true_and] at h
      refine Ev.yes rfl (Ev.yes h2.1 (Ev.yes (by rw [hlen]; omega) ?_))
      rw [pad_get on (d + 1) s.f1 h2.1 (by omega)]
      cases e2 : on.getD s.f1.toNat false with
      | true =>
        rw [e2, Bool.true_or] at h
        exact Ev.yes rfl (Ev.yes hlt h)
      | false =>
        rw [e2, Bool.false_or] at h
        exact Ev.no (by decide) (fin _ rfl h)
    | false =>
      rw [e, Bool.false_and, Bool.false_or] at h
      exact Ev.no (by decide) (fin _ rfl h)
end
def colR (ss : List S44) (m : Nat) (o : Int) : List Bool := (List.range m).map fun k => (onAll k ss []).getD o.toNat false
theorem colR_next (ss : List S44) (m : Nat) (o : Int) : colR ss (m + 1) o = colR ss m o ++ [(onAll m ss []).getD o.toNat false] := by
  unfold colR
  rw [List.range_succ, List.map_append]
  rfl
section
variable {ss : List S44} {os : List Int} {n : Nat}
theorem ref_l1 (hl : ss.length ≤ 1000000) (hok : stepsOk 0 ss) {out : List (List Bool)} {k : Nat} {r : List (List Bool)} : ∀ d i (on : List Bool), i + d = ss.length → on.length = i →
    Ev (fun K => fluxionref19_Pattern.l2 K out (k : Int) (onAll k (ss.drop i) on) 0 (n : Int) ss os) r → Ev (fun K => fluxionref19_Pattern.l1 K out (k : Int) (on ++ List.replicate d false) (i : Int) (n : Int) ss os) r
  | 0, i, on, hi, hon, h => by
    rw [List.drop_eq_nil_of_le (by omega), onAll] at h
    refine Ev.step (fun K => by rw [fluxionref19_Pattern.l1]) (Ev.no (by omega) ?_)
    rw [List.replicate_zero, List.append_nil]
    exact h
  | d + 1, i, on, hi, hon, h => by
    have hlt : i < ss.length := by omega
    have hs := stepsOk_at ss 0 i hlt hok
    rw [Nat.zero_add] at hs
    have hg : ss.getD i ⟨0, 0, 0, ⟨0, false, [], []⟩⟩ = ss[i] := by rw [List.getD_eq_getElem?_getD, List.getElem?_eq_getElem hlt]; rfl
    refine ref_l1_step hl hi hon (by rw [hg]; exact hs) ?_
    rw [hg]
    refine ref_l1 hl hok d (i + 1) _ (by omega) (by rw [List.length_append, hon]; rfl) ?_
    rw [List.drop_eq_getElem_cons hlt, onAll, hon] at h
    exact h
def mixR (ss : List S44) (os : List Int) (k q : Nat) : List (List Bool) := (os.take q).map (colR ss (k + 1)) ++ (os.drop q).map (colR ss k)
theorem mixR_len (k q : Nat) : (mixR ss os k q).length = os.length := by unfold mixR; rw [List.length_append, List.length_map, List.length_map, List.length_take, List.length_drop]; omega
theorem mixR_at {k q : Nat} (hq : q < os.length) : (mixR ss os k q).getD q [] = colR ss k os[q] := by
  unfold mixR
  rw [List.getD_eq_getElem?_getD, List.getElem?_append_right (by rw [List.length_map, List.length_take]; omega), List.length_map, List.length_take, Nat.min_eq_left (by omega), Nat.sub_self, List.drop_eq_getElem_cons hq]
  rfl
theorem mixR_set {k q : Nat} (hq : q < os.length) : (mixR ss os k q).set q (colR ss (k + 1) os[q]) = mixR ss os k (q + 1) := by
  unfold mixR
  rw [List.drop_eq_getElem_cons hq, List.map_cons, List.set_append_right _ _ (by rw [List.length_map, List.length_take]; omega), List.length_map, List.length_take, Nat.min_eq_left (by omega), Nat.sub_self, List.set_cons_zero, List.take_add_one, List.getElem?_eq_getElem hq, List.map_append, List.append_assoc]
  rfl
theorem ref_l2 (hl : ss.length ≤ 1000000) (ho : os.length ≤ 1000000) (hout : ∀ o ∈ os, 0 ≤ o ∧ o < (ss.length : Int)) {k : Nat} (hk : k ≤ 1000000) {r : List (List Bool)} (h : Ev (fun K => fluxionref19_Pattern.l0 K (os.map (colR ss (k + 1))) ((k + 1 : Nat) : Int) (n : Int) ss os) r) : ∀ d q, q + d = os.length →
    Ev (fun K => fluxionref19_Pattern.l2 K (mixR ss os k q) (k : Int) (onAll k ss []) (q : Int) (n : Int) ss os) r
  | 0, q, hq => by
    refine Ev.step (fun K => by rw [fluxionref19_Pattern.l2]) (Ev.no (by omega) ?_)
    rw [wnx k (by omega), show mixR ss os k q = os.map (colR ss (k + 1)) from by unfold mixR; rw [List.take_of_length_le (by omega), List.drop_eq_nil_of_le (by omega), List.map_nil, List.append_nil]]
    exact h
  | d + 1, q, hq => by
    have hqt : q < os.length := by omega
    have hmem := hout os[q] (List.getElem_mem hqt)
    have hrd : rd os (q : Int) = os[q] := by unfold rd; simp [hqt]
    have hon : (onAll k ss []).length = ss.length := by rw [onAll_len]; simp
    have hrl : rd_L7 (mixR ss os k q) (q : Int) = colR ss k os[q] := by
      rw [← mixR_at hqt]
      unfold rd_L7
      rw [Int.toNat_natCast]
    have hrow : (colR ss k os[q]).length = k := by unfold colR; rw [List.length_map, List.length_range]
    refine Ev.step (fun K => by rw [fluxionref19_Pattern.l2]) ?_
    refine Ev.yes (by omega) (Ev.yes (by omega) (Ev.yes (by rw [mixR_len]; omega) ?_))
    rw [hrd, hrl]
    refine Ev.yes hmem.1 (Ev.yes (by rw [hon]; exact hmem.2) (Ev.yes (by rw [hrow]; omega) ?_))
    rw [wnx q (by omega), Int.toNat_natCast, show colR ss k os[q] ++ [rdOf false (onAll k ss []) os[q]] = colR ss (k + 1) os[q] from (colR_next ss k os[q]).symm, mixR_set hqt]
    exact ref_l2 hl ho hout hk h d (q + 1) (by omega)
theorem ref_l0 (hl : ss.length ≤ 1000000) (ho : os.length ≤ 1000000) (hn : n ≤ 1000000) (hok : stepsOk 0 ss) (hout : ∀ o ∈ os, 0 ≤ o ∧ o < (ss.length : Int)) : ∀ d k, k + d = n → Ev (fun K => fluxionref19_Pattern.l0 K (os.map (colR ss k)) (k : Int) (n : Int) ss os) (specP n ss os)
  | 0, k, hk => by
    refine Ev.step (fun K => by rw [fluxionref19_Pattern.l0]) (Ev.no (by omega) (Ev.is ?_))
    rw [show k = n from by omega]
    rfl
  | d + 1, k, hk => by
    refine Ev.step (fun K => by rw [fluxionref19_Pattern.l0]) (Ev.yes (by omega) (Ev.yes (by omega) (Ev.yes (by omega) ?_)))
    have h1 := ref_l2 (r := specP n ss os) hl ho hout (k := k) (by omega) (ref_l0 hl ho hn hok hout d (k + 1) (by omega)) os.length 0 (by omega)
    have h2 := ref_l1 (n := n) (os := os) hl hok (out := mixR ss os k 0) (k := k) ss.length 0 [] (by omega) rfl (by rw [List.drop_zero]; exact h1)
    rw [List.nil_append, show mixR ss os k 0 = os.map (colR ss k) from by unfold mixR; rfl] at h2
    rw [Int.toNat_natCast]
    exact h2
theorem refPattern_f (hl : ss.length ≤ 1000000) (ho : os.length ≤ 1000000) (hn : n ≤ 1000000) (hok : stepsOk 0 ss) (hout : ∀ o ∈ os, 0 ≤ o ∧ o < (ss.length : Int)) : Ev (fun K => fluxionref19_Pattern.f K (n : Int) ss os) (specP n ss os) := by
  have h := ref_l0 hl ho hn hok hout n 0 (by omega)
  unfold fluxionref19_Pattern.f
  refine Ev.yes (by omega) (Ev.yes (by omega) ?_)
  rw [Int.toNat_natCast, show List.replicate os.length ([] : List Bool) = os.map (colR ss 0) from by rw [show colR ss 0 = fun _ => [] from rfl, List.map_const']]
  exact h
end
/-! ### both Checks give the same error -/
def u32R (x : S42) : Prop := u32s x.f2 ∧ u32s x.f3 ∧ x.f2.length < 1000000 ∧ x.f3.length < 1000000
def zeroB (f : Int) (p : Bool) (x y : List Int) : Bool := (f == 0) && (!p && (x.isEmpty && y.isEmpty))
def badF (f a b : Int) (inp : Bool) : Bool := (inp != (f == 1)) || (!hasA f && (a != 0)) || (!hasB f && (b != 0))
def formB (s : S44) (inp : Bool) : Bool :=
  if 1 ≤ s.f0 ∧ s.f0 < 8 then (if badF s.f0 s.f1 s.f2 inp = true then false else if s.f0 = 2 then (isRatB s.f3.f0 s.f3.f1 s.f3.f2 s.f3.f3 && (s.f3.f0 == 0)) else zeroB s.f3.f0 s.f3.f1 s.f3.f2 s.f3.f3) else false
theorem digits_nil (x : List Int) : Ev (fun k => fluxionref02_digits.f k x []) x.isEmpty := by
  unfold fluxionref02_digits.f
  cases x with
  | nil => exact Ev.yes rfl (Ev.step (f := fun _ => some true) (fun K => by rw [fluxionref02_digits.l0, if_neg (by decide)]) (Ev.is rfl))
  | cons a x => exact Ev.no (by simp; omega) (Ev.is rfl)
theorem equal_zero (f : Int) (p : Bool) (x y : List Int) : Ev (fun k => fluxionref02_Equal.f k f p x y 0 false [] []) (zeroB f p x y) := by
  unfold fluxionref02_Equal.f zeroB
  by_cases hf : f = 0
  · subst hf
    refine Ev.yes rfl ?_
    cases p with
    | true => exact Ev.no (by decide) (Ev.is rfl)
    | false =>
      refine Ev.yes rfl (Ev.bind (digits_nil x) ?_)
      cases h : x.isEmpty with
      | true => exact Ev.yes rfl (Ev.bind (digits_nil y) (Ev.is rfl))
      | false => exact Ev.no (by decide) (Ev.is rfl)
  · exact Ev.no hf (Ev.is (by rw [show (f == 0) = false from by simpa using hf]; rfl))
theorem form_j0 {f : Int} {p : Bool} {x y : List Int} (hx : u32s x) (hy : u32s y) (lx : x.length < 1000000) (ly : y.length < 1000000) (inp A bad : Bool) (k0 a b : Int) :
    Ev (fun k => fluxionref11_form.j0 k inp A bad k0 a b f p x y) (if bad = true then false else if k0 = 2 then (isRatB f p x y && (f == 0)) else if (inp || A) = true then zeroB f p x y else false) := by
  refine Ev.step (fun K => by rw [fluxionref11_form.j0]) ?_
  cases bad with
  | true => exact Ev.yes rfl (Ev.is rfl)
  | false =>
    refine Ev.no (by decide) ?_
    rw [if_neg (by decide)]
    by_cases h2 : k0 = 2
    · rw [if_pos h2]
      refine Ev.yes h2 ?_
      by_cases hf : f = 0
      · refine Ev.yes hf (Ev.bind (refIsRat_f hx hy (by omega) (by omega)) (Ev.is ?_))
        rw [show (f == 0) = true from by simpa using hf, Bool.and_true]
      · refine Ev.no hf (Ev.is ?_)
        rw [show (f == 0) = false from by simpa using hf, Bool.and_false]
    · rw [if_neg h2]
      refine Ev.no h2 ?_
      cases inp with
      | true => exact Ev.yes rfl (Ev.bind (equal_zero f p x y) (Ev.is rfl))
      | false =>
        refine Ev.no (by decide) ?_
        cases A with
        | true => exact Ev.yes rfl (Ev.bind (equal_zero f p x y) (Ev.is rfl))
        | false => exact Ev.no (by decide) (Ev.is rfl)
theorem formed_f {s : S44} (h : u32R s.f3) (inp : Bool) : Ev (fun k => trace_formed.f k s.f0 s.f1 s.f2 s.f3.f0 s.f3.f1 s.f3.f2 s.f3.f3 inp) (formB s inp) := by
  unfold trace_formed.f formB
  by_cases hk : 1 ≤ s.f0 ∧ s.f0 < 8
  · rw [if_pos hk]
    refine Ev.yes hk ?_
    rw [kind_A hk, kind_B hk]
    change Ev (fun k => if badF s.f0 s.f1 s.f2 inp = true then some false else _) _
    cases hb : badF s.f0 s.f1 s.f2 inp with
    | true => exact Ev.yes rfl (Ev.is rfl)
    | false =>
      refine Ev.no (by decide) ?_
      rw [if_neg (by decide)]
      by_cases h2 : s.f0 = 2
      · rw [if_pos h2]
        refine Ev.yes (by rw [h2]; rfl) (Ev.bind (progIsRat_f h.1 h.2.1 (by have := h.2.2.1; omega) (by have := h.2.2.2; omega) (fun _ => by have := h.2.2.1; have := h.2.2.2; omega)) (Ev.is rfl))
      · rw [if_neg h2]
        refine Ev.no (by unfold kindN; simp; omega) (Ev.is ?_)
        unfold zeroB
        congr 2
        have h3 := h.2.2.1
        have h4 := h.2.2.2
        have e : wrap64 ((s.f3.f2.length : Int) + (s.f3.f3.length : Int)) = ((s.f3.f2.length + s.f3.f3.length : Nat) : Int) := by unfold wrap64; omega
        rw [e]
        cases s.f3.f2 <;> cases s.f3.f3 <;> simp <;> omega
  · rw [if_neg hk]
    exact Ev.no hk (Ev.is rfl)
theorem refForm_f {s : S44} (h : u32R s.f3) (inp : Bool) : Ev (fun k => fluxionref11_form.f k s.f0 s.f1 s.f2 s.f3.f0 s.f3.f1 s.f3.f2 s.f3.f3 inp) (formB s inp) := by
  have hj := fun A bad => form_j0 (f := s.f3.f0) (p := s.f3.f1) h.1 h.2.1 h.2.2.1 h.2.2.2 inp A bad s.f0 s.f1 s.f2
  have hB : hasB s.f0 = true → hasA s.f0 = true := by unfold hasA hasB; simp; omega
  have hA7 : hasA s.f0 = true → 3 ≤ s.f0 ∧ s.f0 ≤ 7 := by unfold hasA; simp
  have key : ∀ bad, bad = badF s.f0 s.f1 s.f2 inp → (if bad = true then false else if s.f0 = 2 then (isRatB s.f3.f0 s.f3.f1 s.f3.f2 s.f3.f3 && (s.f3.f0 == 0)) else if (inp || hasA s.f0) = true then zeroB s.f3.f0 s.f3.f1 s.f3.f2 s.f3.f3 else false) = formB s inp := fun bad hbad => by
    subst hbad
    unfold formB
    cases hb : badF s.f0 s.f1 s.f2 inp with
    | true => simp
    | false =>
      simp only [Bool.false_eq_true, if_false]
      have hi : (inp != (s.f0 == 1)) = false := by
        unfold badF at hb
        rw [Bool.or_eq_false_iff, Bool.or_eq_false_iff] at hb
        exact hb.1.1
      by_cases h2 : s.f0 = 2
      · rw [if_pos h2, if_pos (by omega), if_pos h2]
      · rw [if_neg h2]
        by_cases h1 : s.f0 = 1
        · rw [show (s.f0 == 1) = true from by simpa using h1] at hi
          have hin : inp = true := by cases inp <;> simp_all
          rw [hin, Bool.true_or, if_pos rfl, if_pos (by omega), if_neg h2]
        · rw [show (s.f0 == 1) = false from by simpa using h1] at hi
          have hin : inp = false := by cases inp <;> simp_all
          rw [hin, Bool.false_or]
          by_cases ha : hasA s.f0 = true
          · have := hA7 ha
            rw [if_pos ha, if_pos (by omega), if_neg h2]
          · rw [if_neg ha]
            have h7 : ¬ (1 ≤ s.f0 ∧ s.f0 < 8) := fun hk => ha (by unfold hasA; rw [decide_eq_true (by omega : 3 ≤ s.f0), decide_eq_true (by omega : s.f0 ≤ 7)]; rfl)
            rw [if_neg h7]
  unfold fluxionref11_form.f
  rw [refHas_f]
  simp only [Option.bind_some]
  cases hi : (inp != (s.f0 == 1)) with
  | true =>
    refine Ev.yes rfl ?_
    rw [← key true (by unfold badF; rw [hi]; rfl)]
    exact hj _ true
  | false =>
    refine Ev.no (by decide) ?_
    cases ha : hasA s.f0 with
    | true =>
      refine Ev.yes rfl ?_
      rw [ha] at key
      cases hb : hasB s.f0 with
      | true =>
        refine Ev.yes rfl ?_
        rw [← key false (by unfold badF; rw [hi, ha, hb]; rfl)]
        exact hj true false
      | false =>
        refine Ev.no (by decide) ?_
        rw [← key (s.f2 != 0) (by unfold badF; rw [hi, ha, hb]; rfl)]
        exact hj true (s.f2 != 0)
    | false =>
      refine Ev.no (by decide) ?_
      have hb : hasB s.f0 = false := by cases e : hasB s.f0 with | true => rw [hB e] at ha; cases ha | false => rfl
      rw [ha] at key
      by_cases h0 : s.f1 = 0
      · refine Ev.yes h0 ?_
        rw [hb]
        refine Ev.no (by decide) ?_
        rw [← key (s.f2 != 0) (by unfold badF; rw [hi, ha, hb, h0]; rfl)]
        exact hj false (s.f2 != 0)
      · refine Ev.no h0 ?_
        rw [← key true (by unfold badF; rw [hi, ha, show (s.f1 != 0) = true from by simpa using h0]; rfl)]
        exact hj false true
def badParts (i : Nat) (s : S44) : Bool := hasA s.f0 && outOf (i : Int) s.f1 || hasB s.f0 && outOf (i : Int) s.f2
def errL (n : Int) : List S44 → Nat → Int
  | [], _ => 0
  | s :: ss, i => if formB s (decide ((i : Int) < n)) = true then (if badParts i s = true then 6 else errL n ss (i + 1)) else 5
theorem formB_kind {s : S44} {inp : Bool} (h : formB s inp = true) : 1 ≤ s.f0 ∧ s.f0 < 8 := by
  by_cases hk : 1 ≤ s.f0 ∧ s.f0 < 8
  · exact hk
  · unfold formB at h
    rw [if_neg hk] at h
    cases h
theorem progL_f {n : Int} : ∀ (ss : List S44) (i : Nat), (∀ s ∈ ss, u32R s.f3) → Ev (fun k => trace_CheckL k n ss i) (errL n ss i)
  | [], i, _ => Ev.is rfl
  | s :: ss, i, h => by
    refine Ev.congr (fun K => by rw [trace_CheckL]) (Ev.bind (formed_f (h s (List.mem_cons_self ..)) _) ?_)
    rw [errL]
    cases hf : formB s (decide ((i : Int) < n)) with
    | false => exact Ev.no (by decide) (Ev.is rfl)
    | true =>
      rw [if_pos rfl]
      have hk := formB_kind hf
      have hps : trace_parts.f s.f0 s.f1 s.f2 = some (if hasB s.f0 = true then [s.f1, s.f2] else if hasA s.f0 = true then [s.f1] else []) := by
        unfold trace_parts.f
        rw [if_pos (by omega), kind_A hk, kind_B hk]
      have hAB : hasB s.f0 = true → hasA s.f0 = true := by unfold hasA hasB; simp; omega
      have hany : (if hasB s.f0 = true then [s.f1, s.f2] else if hasA s.f0 = true then [s.f1] else []).any (outOf (i : Int)) = badParts i s := by
        unfold badParts
        cases hb : hasB s.f0 with
        | true => rw [hAB hb]; simp
        | false => cases hasA s.f0 <;> simp
      refine Ev.yes rfl (Ev.bind (Ev.con hps) ?_)
      rw [hany]
      cases badParts i s with
      | true => exact Ev.yes rfl (Ev.is rfl)
      | false => exact Ev.no (by decide) (progL_f ss (i + 1) (fun x hx => h x (List.mem_cons_of_mem _ hx)))
theorem refL_f {n : Int} : ∀ (ss : List S44) (i : Nat), (∀ s ∈ ss, u32R s.f3) → Ev (fun k => fluxionref11_CheckL k n ss i) (errL n ss i)
  | [], i, _ => Ev.is rfl
  | s :: ss, i, h => by
    refine Ev.congr (fun K => by rw [fluxionref11_CheckL]) (Ev.bind (refForm_f (h s (List.mem_cons_self ..)) _) ?_)
    rw [errL]
    cases hf : formB s (decide ((i : Int) < n)) with
    | false => exact Ev.no (by decide) (Ev.is rfl)
    | true =>
      rw [if_pos rfl]
      refine Ev.yes rfl (Ev.bind (Ev.con (refHas_f s.f0)) ?_)
      show Ev (fun k => if badParts i s = true then some 6 else fluxionref11_CheckL k n ss (i + 1)) _
      cases badParts i s with
      | true => exact Ev.yes rfl (Ev.is rfl)
      | false => exact Ev.no (by decide) (refL_f ss (i + 1) (fun x hx => h x (List.mem_cons_of_mem _ hx)))
def errT (n : Int) (ss : List S44) (os : List Int) : Int :=
  if (ss.length : Int) > 262144 then 3 else if (os.length : Int) > 32768 then 3 else if n < 0 then 2 else if n > (ss.length : Int) then 2
  else if errL n ss 0 = 0 then (if os.any (outOf (ss.length : Int)) = true then 6 else 0) else errL n ss 0
theorem errT_tail {n : Int} {ss : List S44} {os : List Int} {g : Nat → Option Int} (h : Ev g (errL n ss 0)) : Ev (fun k => if (ss.length : Int) > 262144 then some 3 else if (os.length : Int) > 32768 then some 3 else if n < 0 then some 2 else if n > (ss.length : Int) then some 2
    else (g k).bind fun e => if e = 0 then (if os.any (outOf (ss.length : Int)) = true then some 6 else some 0) else some e) (errT n ss os) := by
  unfold errT
  by_cases h1 : (ss.length : Int) > 262144
  · rw [if_pos h1]; exact Ev.yes h1 (Ev.is rfl)
  · rw [if_neg h1]
    refine Ev.no h1 ?_
    by_cases h2 : (os.length : Int) > 32768
    · rw [if_pos h2]; exact Ev.yes h2 (Ev.is rfl)
    · rw [if_neg h2]
      refine Ev.no h2 ?_
      by_cases h3 : n < 0
      · rw [if_pos h3]; exact Ev.yes h3 (Ev.is rfl)
      · rw [if_neg h3]
        refine Ev.no h3 ?_
        by_cases h4 : n > (ss.length : Int)
        · rw [if_pos h4]; exact Ev.yes h4 (Ev.is rfl)
        · rw [if_neg h4]
          refine Ev.no h4 (Ev.bind h ?_)
          by_cases h5 : errL n ss 0 = 0
          · simp only [if_pos h5]
            cases os.any (outOf (ss.length : Int)) with
            | true => exact Ev.con rfl
            | false => exact Ev.con rfl
          · simp only [if_neg h5]
            exact Ev.is rfl
theorem progCheck_f {n : Int} {ss : List S44} {os : List Int} (h : ∀ s ∈ ss, u32R s.f3) : Ev (fun k => trace_Check.f k n ss os) (errT n ss os) := errT_tail (progL_f ss 0 h)
theorem refCheck_f {n : Int} {ss : List S44} {os : List Int} (h : ∀ s ∈ ss, u32R s.f3) : Ev (fun k => fluxionref11_Check.f k n ss os) (errT n ss os) := errT_tail (refL_f ss 0 h)
theorem out_of {n x : Int} (h : outOf n x = false) : 0 ≤ x ∧ x < n := by
  unfold outOf at h
  rw [Bool.or_eq_false_iff] at h
  have h1 := of_decide_eq_false h.1
  have h2 := of_decide_eq_false h.2
  omega
theorem errL_ok {n : Int} : ∀ (ss : List S44) (i : Nat), errL n ss i = 0 → stepsOk i ss
  | [], _, _ => trivial
  | s :: ss, i, h => by
    rw [errL] at h
    cases hf : formB s (decide ((i : Int) < n)) with
    | false => rw [hf, if_neg (by decide)] at h; cases h
    | true =>
      rw [hf, if_pos rfl] at h
      cases hb : badParts i s with
      | true => rw [hb, if_pos rfl] at h; cases h
      | false =>
        rw [hb, if_neg (by decide)] at h
        refine ⟨⟨formB_kind hf, fun ha => ?_, fun hB => ?_⟩, errL_ok ss (i + 1) h⟩
        · unfold badParts at hb
          rw [ha, Bool.true_and, Bool.or_eq_false_iff] at hb
          exact out_of hb.1
        · unfold badParts at hb
          rw [hB, Bool.true_and, Bool.or_eq_false_iff] at hb
          exact out_of hb.2
theorem errT_ok {n : Int} {ss : List S44} {os : List Int} (h : errT n ss os = 0) : 0 ≤ n ∧ n ≤ (ss.length : Int) ∧ stepsOk 0 ss ∧ ∀ o ∈ os, 0 ≤ o ∧ o < (ss.length : Int) := by
  unfold errT at h
  split at h
  · cases h
  · split at h
    · cases h
    · split at h
      · cases h
      · split at h
        · cases h
        · split at h
          · rename_i h3 h4 h5
            refine ⟨by omega, by omega, errL_ok ss 0 h5, fun o ho => ?_⟩
            split at h
            · cases h
            · rename_i h6
              have h7 : os.any (outOf (ss.length : Int)) = false := by cases e : os.any (outOf (ss.length : Int)) with | true => exact absurd e h6 | false => rfl
              rw [List.any_eq_false] at h7
              have h8 := h7 o ho
              exact out_of (by cases e : outOf (ss.length : Int) o with | true => exact absurd e h8 | false => rfl)
          · rename_i h5
            exact absurd h h5
/-! ### the same pattern twice -/
theorem same_l1 {P : List (List Bool)} {i : Nat} (hi : i < P.length) (hl : P[i].length ≤ 1000000) (hP : P.length ≤ 1000000) (h : Ev (fun K => fluxionref19_Same.l0 K P P ((i + 1 : Nat) : Int)) true) : ∀ d j, j + d = P[i].length → Ev (fun K => fluxionref19_Same.l1 K P P (i : Int) (j : Int)) true := by
  have hr : rd_L7 P (i : Int) = P[i] := by show P.getD i [] = _; simp [List.getD_eq_getElem?_getD, hi]
  intro d
  induction d with
  | zero =>
    intro j hj
    refine Ev.step (fun K => by rw [fluxionref19_Same.l1]) (Ev.yes (by omega) (Ev.yes (by omega) ?_))
    rw [hr, wnx i (by omega)]
    exact Ev.no (by omega) h
  | succ d ih =>
    intro j hj
    refine Ev.step (fun K => by rw [fluxionref19_Same.l1]) (Ev.yes (by omega) (Ev.yes (by omega) ?_))
    rw [hr]
    refine Ev.yes (by omega) (Ev.yes (by omega) (Ev.yes (by omega) (Ev.yes (by omega) (Ev.no (by simp) ?_))))
    rw [wnx j (by omega)]
    exact ih (j + 1) (by omega)
theorem samePat_f {P : List (List Bool)} (hP : P.length ≤ 1000000) (hl : ∀ row ∈ P, row.length ≤ 1000000) : Ev (fun K => fluxionref19_Same.f K P P) true := by
  have h0 : ∀ d i, i + d = P.length → Ev (fun K => fluxionref19_Same.l0 K P P (i : Int)) true := by
    intro d
    induction d with
    | zero => intro i hi; exact Ev.step (f := fun _ => some true) (fun K => by rw [fluxionref19_Same.l0, if_neg (by omega)]) (Ev.is rfl)
    | succ d ih =>
      intro i hi
      refine Ev.step (fun K => by rw [fluxionref19_Same.l0]) (Ev.yes (by omega) (Ev.yes (by omega) (Ev.yes (by omega) (Ev.yes rfl ?_))))
      have hi' : i < P.length := by omega
      exact same_l1 hi' (hl _ (List.getElem_mem hi')) hP (ih (i + 1) (by omega)) P[i].length 0 (by omega)
  unfold fluxionref19_Same.f
  exact Ev.yes rfl (h0 P.length 0 (by omega))
/-! ### the cut of the tape -/
theorem cutRat_f {x : S42} (h2 : u32s x.f2) (h3 : u32s x.f3) (room : Int) : ∃ (y : S42) (u : Int), fluxionref08_CutRat.f x.f0 x.f1 x.f2 x.f3 room = some (y.f0, y.f1, y.f2, y.f3, u) ∧ u32R y := by
  obtain ⟨c, hc⟩ : ∃ c : Int, mn 130 (mx 2 (wrap64 (Int.tdiv room 2))) = c := ⟨_, rfl⟩
  have hc0 : 2 ≤ c ∧ c ≤ 130 := by rw [← hc]; unfold mn mx; split <;> split <;> omega
  have hm : ∀ n : Nat, ∃ t : Nat, mn (n : Int) c = (t : Int) ∧ t ≤ n ∧ t ≤ 130 := fun n => by
    by_cases h : c < (n : Int)
    · exact ⟨c.toNat, by unfold mn; rw [if_pos h]; omega, by omega, by omega⟩
    · exact ⟨n, by unfold mn; rw [if_neg h], Nat.le_refl _, by omega⟩
  obtain ⟨t, ht, ht1, ht2⟩ := hm x.f2.length
  obtain ⟨s, hs, hs1, hs2⟩ := hm x.f3.length
  refine ⟨⟨x.f0, x.f1, x.f2.take t, x.f3.take s⟩, wrap64 (((x.f2.take t).length : Int) + ((x.f3.take s).length : Int)), ?_, u32s_take h2 t, u32s_take h3 s, by show (x.f2.take t).length < _; rw [List.length_take]; omega, by show (x.f3.take s).length < _; rw [List.length_take]; omega⟩
  unfold fluxionref08_CutRat.f
  rw [hc, ht, hs]
  simp only [Option.bind_some, Int.toNat_natCast, List.nil_append, List.length_nil, Nat.zero_add]
  rw [if_pos (by omega), if_pos (by omega), if_pos (by rw [List.length_take]; omega), if_pos (by omega), if_pos (by omega), if_pos (by rw [List.length_take]; omega)]
section
variable {n : Int} {ss : List S44} {os ol : List Int}
theorem cut_l0 (hu : ∀ s ∈ ss, u32s s.f3.f2 ∧ u32s s.f3.f3) : ∀ d i room (out : List S44), i + d = min ss.length 200 → out.length = i → (∀ s ∈ out, u32R s.f3) → ∃ r : List S44, Ev (fun K => fluxionref11_Cut.l0 K 200 room (i : Int) n ss os n out ol) (n, r, ol) ∧ r.length ≤ 200 ∧ ∀ s ∈ r, u32R s.f3
  | 0, i, room, out, hd, ho, hout => by
    refine ⟨out, Ev.step (f := fun _ => some (n, out, ol)) (fun K => ?_) (Ev.is rfl), by omega, hout⟩
    rw [fluxionref11_Cut.l0]
    by_cases h1 : (i : Int) < (ss.length : Int)
    · rw [if_pos h1, if_neg (by omega)]
    · rw [if_neg h1]
  | d + 1, i, room, out, hd, ho, hout => by
    have hlt : i < ss.length := by omega
    have hrd : rd_T44 ss (i : Int) = ss[i] := by unfold rd_T44; simp [hlt]
    have h1 := hu ss[i] (List.getElem_mem hlt)
    obtain ⟨y, u, hy, hyu⟩ := cutRat_f h1.1 h1.2 room
    obtain ⟨r, hr, hl, hru⟩ := cut_l0 hu d (i + 1) (wrap64 (room - u)) (out ++ [⟨ss[i].f0, ss[i].f1, ss[i].f2, y⟩]) (by omega) (by rw [List.length_append, ho]; rfl) (fun s hs => by
      rcases List.mem_append.1 hs with h | h
      · exact hout s h
      · rw [List.mem_singleton.1 h]; exact hyu)
    refine ⟨r, Ev.step (fun K => by rw [fluxionref11_Cut.l0]) (Ev.yes (by omega) (Ev.yes (by omega) (Ev.yes (by omega) ?_))), hl, hru⟩
    rw [hrd, hy]
    simp only [Option.bind_some]
    refine Ev.yes (by omega) ?_
    rw [wnx i (by omega)]
    exact hr
theorem cutTape_f (hu : ∀ s ∈ ss, u32s s.f3.f2 ∧ u32s s.f3.f3) : ∃ (sl : List S44) (ol : List Int), Ev (fun K => fluxionref11_Cut.f K n ss os 200 100) (n, sl, ol) ∧ sl.length ≤ 200 ∧ ol.length ≤ 200 ∧ ∀ s ∈ sl, u32R s.f3 := by
  have hm : mn (os.length : Int) 200 = ((min os.length 200 : Nat) : Int) := by unfold mn; split <;> omega
  obtain ⟨r, h1, h2, h3⟩ := cut_l0 (n := n) (os := os) (ol := ([] : List Int) ++ os.take (min os.length 200)) hu (min ss.length 200) 0 100 [] (by omega) rfl (fun s hs => by simp at hs)
  refine ⟨r, [] ++ os.take (min os.length 200), ?_, h2, by rw [List.nil_append, List.length_take]; omega, h3⟩
  unfold fluxionref11_Cut.f
  rw [hm]
  simp only [Option.bind_some, Int.toNat_natCast]
  exact Ev.yes (by omega) (Ev.yes (by omega) (Ev.yes (by rw [List.length_nil, List.length_take]; omega) h1))
end
theorem law_g {n : Int} {ss : List S44} {os : List Int} (hs : ss.length ≤ 200) (ho : os.length ≤ 200) (hu : ∀ s ∈ ss, u32R s.f3) : Ev (fun K => fluxionlaw19_SparsePatterns.g K n ss os) true := by
  unfold fluxionlaw19_SparsePatterns.g sparse_Pattern.f
  by_cases he : errT n ss os = 0
  · obtain ⟨h0, h1, hok, hout⟩ := errT_ok he
    obtain ⟨m, rfl⟩ : ∃ m : Nat, n = (m : Int) := ⟨n.toNat, by omega⟩
    have hp : Ev (fun k => (trace_Check.f k (m : Int) ss os).bind fun e => if e = 0 then (if (m : Int) > 4096 then some (([] : List (List Bool)), (3 : Int)) else if (os.length : Int) > 4096 then some ([], 3) else (sparse_pattern.f k (m : Int) ss os).bind fun p => some (p, 0)) else some ([], e)) (specP m ss os, (0 : Int)) := by
      refine Ev.bind (progCheck_f hu) ?_
      exact Ev.yes he (Ev.no (by omega) (Ev.no (by omega) (Ev.bind (pattern_f (by omega) (by omega) (by omega) hok hout) (Ev.is rfl))))
    refine Ev.bind hp (Ev.bind (refCheck_f hu) (Ev.yes he (Ev.bind (refPattern_f (by omega) (by omega) (by omega) hok hout) (Ev.bind (samePat_f ?_ ?_) (Ev.yes ⟨rfl, rfl⟩ (Ev.is rfl))))))
    · unfold specP; rw [List.length_map]; omega
    · intro row hr
      obtain ⟨o, _, rfl⟩ := List.mem_map.1 hr
      rw [List.length_map, List.length_range]
      omega
  · have hp : Ev (fun k => (trace_Check.f k n ss os).bind fun e => if e = 0 then (if n > 4096 then some (([] : List (List Bool)), (3 : Int)) else if (os.length : Int) > 4096 then some ([], 3) else (sparse_pattern.f k n ss os).bind fun p => some (p, 0)) else some ([], e)) (([] : List (List Bool)), errT n ss os) :=
      Ev.bind (progCheck_f hu) (Ev.no he (Ev.is rfl))
    exact Ev.bind hp (Ev.bind (refCheck_f hu) (Ev.no he (Ev.yes ⟨rfl, rfl⟩ (Ev.is rfl))))
theorem patterns_f {n : Int} {ss : List S44} {os : List Int} (hu : ∀ s ∈ ss, u32s s.f3.f2 ∧ u32s s.f3.f3) : Ev (fun K => fluxionlaw19_SparsePatterns.f K n ss os) true := by
  obtain ⟨sl, ol, h1, h2, h3, h4⟩ := cutTape_f (n := n) (os := os) hu
  unfold fluxionlaw19_SparsePatterns.f
  exact Ev.bind h1 (law_g h2 h3 h4)
end Go.Proofs.YtjjbondlcjnaiaaDoor.Pure
