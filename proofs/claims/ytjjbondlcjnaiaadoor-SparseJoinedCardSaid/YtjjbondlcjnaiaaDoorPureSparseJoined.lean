/- What the program and the specification compute, without the program's code: the plain part of SparseJoined. -/
import Derived.Test.YtjjbondlcjnaiaaDoorPSparseJoinedx
namespace Go.Proofs.YtjjbondlcjnaiaaDoor.Pure
open Go.RowKit Go.Proofs.YtjjbondlcjnaiaaDoor.PSparseJoined Go.Proofs.YtjjbondlcjnaiaaDoorW.PrintWords Go.Proofs.YtjjbondlcjnaiaaDoorW.PrintLast Go.Proofs.YtjjbondlcjnaiaaDoorW.PrintMore
set_option linter.unusedVariables false
set_option linter.unusedSimpArgs false
theorem val_split (x : List Int) (i : Nat) : valN x = valN (x.take i) + 4294967296 ^ i * valN (x.drop i) := by
  by_cases h : i ≤ x.length
  · conv => lhs; rw [← List.take_append_drop i x]
    rw [val_append, List.length_take, Nat.min_eq_left h]
  · rw [List.drop_eq_nil_of_le (by omega), List.take_of_length_le (by omega)]; simp [valN]
/-- how many binary digits a number has -/
def nb (n : Nat) : Nat := if h : n = 0 then 0 else nb (n / 2) + 1
  termination_by n
  decreasing_by omega
theorem nb_zero : nb 0 = 0 := by rw [nb]; rfl
theorem nb_pos {n : Nat} (h : n ≠ 0) : nb n = nb (n / 2) + 1 := by rw [nb, dif_neg h]
theorem nb_lt (n : Nat) : n < 2 ^ nb n := by
  induction n using Nat.strongRecOn with
  | _ n ih =>
    by_cases h : n = 0
    · subst h; rw [nb_zero]; decide
    · have := ih (n / 2) (by omega); rw [nb_pos h, Nat.pow_succ]; omega
theorem nb_le {n k : Nat} (h : n < 2 ^ k) : nb n ≤ k := by
  induction k generalizing n with
  | zero => have : n = 0 := by simpa using h
            rw [this, nb_zero]; exact Nat.le_refl _
  | succ k ih =>
    by_cases h0 : n = 0
    · rw [h0, nb_zero]; omega
    · rw [nb_pos h0]; rw [Nat.pow_succ] at h; have := ih (n := n / 2) (by omega); omega
theorem nb_ge {n k : Nat} (h : 2 ^ k ≤ n) : k < nb n := by
  refine Nat.lt_of_not_le fun hk => ?_
  have h1 := nb_lt n
  have : 2 ^ nb n ≤ 2 ^ k := Nat.pow_le_pow_right (by decide) hk
  omega
theorem pow32 (i : Nat) : (4294967296 : Nat) ^ i = 2 ^ (32 * i) := by rw [Nat.pow_mul]
/-- the digits of a number, by its value -/
theorem dgt_val {x : List Int} (h : u32s x) (j : Nat) : dgt x j = valN x / 4294967296 ^ j % 4294967296 := by
  have h1 := val_take_lt h j
  have h2 := dgt_lt h j
  rw [val_split x j, val_drop, Nat.add_mul_div_left _ _ (by exact Nat.pow_pos (by decide)), Nat.div_eq_of_lt h1]
  omega
theorem nb_two (n k : Nat) (h : 2 ^ k ≤ n) (h2 : n < 2 ^ (k + 1)) : nb n = k + 1 := Nat.le_antisymm (nb_le h2) (nb_ge h)
theorem nb_top {x : List Int} (h : canon x) {k : Nat} (hk : x.length = k + 1) : nb (valN x) = 32 * k + nb (dgt x k) := by
  have hx : x ≠ [] := by intro e; rw [e] at hk; simp at hk
  have e := val_take_succ x k
  rw [val_take_len (by omega)] at e
  have h1 := val_take_lt h.1 k
  have hd : dgt x k ≠ 0 := by
    intro h0; rw [h0] at e
    have := val_ge h hk; omega
  have hn := nb_lt (dgt x k)
  obtain ⟨j, hj⟩ : ∃ j, nb (dgt x k) = j + 1 := ⟨nb (dgt x k / 2), nb_pos hd⟩
  have hlow : 2 ^ j ≤ dgt x k := by
    refine Nat.le_of_not_lt fun hl => ?_
    have := nb_le hl; omega
  rw [hj] at hn ⊢
  rw [← Nat.add_assoc]
  apply nb_two
  · rw [e, pow32, Nat.pow_add]
    exact Nat.le_trans (Nat.mul_le_mul_left _ hlow) (Nat.le_add_left _ _)
  · rw [pow32] at e h1
    have h3 : dgt x k + 1 ≤ 2 ^ (j + 1) := hn
    have h4 := Nat.mul_le_mul_left (2 ^ (32 * k)) h3
    rw [Nat.mul_add, Nat.mul_one] at h4
    rw [show 32 * k + j + 1 = 32 * k + (j + 1) by omega, Nat.pow_add, e]; omega
set_option maxHeartbeats 2000000 in
/-- what form says of a list of digits -/
def formV (x : List Int) : Int := if 512 < x.length then 3 else if x ≠ [] ∧ x.getLast?.getD 1 = 0 then 5 else 0
def formL : List (List Int) → Int
  | [] => 0
  | x :: l => if formV x = 0 then formL l else formV x
theorem natForm_l0 (xs : List (List Int)) (hs : xs.length < 4294967296) (hxs : ∀ x ∈ xs, x.length < 4294967296) : ∀ d i, i + d = xs.length → Ev (fun k => nat_form.l0 k xs xs.length i) (formL (xs.drop i)) := by
  intro d
  induction d with
  | zero =>
    intro i hi
    refine Ev.step (fun k => by rw [nat_form.l0]) ?_
    refine Ev.no (by omega) (Ev.is ?_)
    rw [List.drop_eq_nil_of_le (by omega)]; rfl
  | succ d ih =>
    intro i hi
    have hl : i < xs.length := by omega
    have er : rd_L3 xs (i : Int) = xs[i] := by show xs.getD i [] = _; simp [List.getD_eq_getElem?_getD, hl]
    have hx := hxs xs[i] (List.getElem_mem hl)
    have ihn := ih (i + 1) (by omega)
    refine Ev.step (fun k => by rw [nat_form.l0]) ?_
    rw [er, wnx i (by omega), List.drop_eq_getElem_cons hl, formL]
    generalize xs[i] = x at *
    refine Ev.yes (by omega) (Ev.yes (by omega) (Ev.yes (by omega) ?_))
    by_cases h1 : 512 < x.length
    · have e : formV x = 3 := if_pos h1
      rw [e]
      exact Ev.yes (by omega) (Ev.now _)
    · refine Ev.no (by omega) ?_
      by_cases h0 : x.length = 0
      · have hn : x = [] := List.length_eq_zero_iff.1 h0
        have e : formV x = 0 := by unfold formV; rw [if_neg h1, if_neg (fun h => h.1 hn)]
        rw [e, if_pos rfl]
        exact Ev.no (by omega) ihn
      · have hn : x ≠ [] := fun e => h0 (by rw [e]; rfl)
        rw [wpx x.length (by omega) (by omega)]
        have e2 : rd x ((x.length - 1 : Nat) : Int) = x.getLast?.getD 1 := by
          show x.getD (x.length - 1) 0 = _
          rw [List.getLast?_eq_getElem?, List.getD_eq_getElem?_getD, List.getElem?_eq_getElem (by omega)]; rfl
        rw [e2]
        refine Ev.yes (by omega) (Ev.yes (by omega) (Ev.yes (by omega) ?_))
        by_cases h2 : x.getLast?.getD 1 = 0
        · have e : formV x = 5 := by unfold formV; rw [if_neg h1, if_pos ⟨hn, h2⟩]
          rw [e]
          exact Ev.yes h2 (Ev.now _)
        · have e : formV x = 0 := by unfold formV; rw [if_neg h1, if_neg (fun h => h2 h.2)]
          rw [e, if_pos rfl]
          exact Ev.no h2 ihn
theorem natForm_f (xs : List (List Int)) (hs : xs.length < 4294967296) (hxs : ∀ x ∈ xs, x.length < 4294967296) : Ev (fun k => nat_form.f k xs) (formL xs) := by
  have := natForm_l0 xs hs hxs xs.length 0 (by omega)
  rw [List.drop_zero] at this; exact this
theorem formV_canon {x : List Int} (hx : canon x) (h : x.length ≤ 512) : formV x = 0 := by
  unfold formV; rw [if_neg (by omega), if_neg]
  intro hc
  have := hx.2 hc.1
  rw [List.getLast?_eq_some_getLast hc.1] at hc
  exact this hc.2
theorem canon_formV {x : List Int} (hu : u32s x) (h : formV x = 0) : canon x ∧ x.length ≤ 512 := by
  unfold formV at h
  by_cases h1 : 512 < x.length
  · rw [if_pos h1] at h; omega
  · rw [if_neg h1] at h
    refine ⟨⟨hu, fun hn h0 => ?_⟩, by omega⟩
    rw [if_pos ⟨hn, by rw [List.getLast?_eq_some_getLast hn]; exact h0⟩] at h; omega
/-- a list of digits that is a number of no more than 4096 binary digits -/
def goodB (x : List Int) : Bool := decide (x.length ≤ 128) && (x.isEmpty || decide (x.getLast?.getD 1 ≠ 0))
theorem good_canon {x : List Int} (hu : u32s x) (h : goodB x = true) : canon x ∧ x.length ≤ 128 := by
  unfold goodB at h
  rw [Bool.and_eq_true, decide_eq_true_iff, Bool.or_eq_true, decide_eq_true_iff] at h
  refine ⟨⟨hu, fun hn h0 => ?_⟩, h.1⟩
  rcases h.2 with h2 | h2
  · cases x with
    | nil => exact hn rfl
    | cons a x => simp at h2
  · exact h2 (by rw [List.getLast?_eq_some_getLast hn]; exact h0)
/-- a valid Rat -/
def isRatB (f : Int) (p : Bool) (x a : List Int) : Bool :=
  if f = 0 then goodB x && (goodB a && (!a.isEmpty && (!(p && x.isEmpty) && decide (Nat.gcd (valN x) (valN a) = 1)))) else (decide (f = 4) || decide (f = 11)) && (!p && (x.isEmpty && a.isEmpty))
theorem one_digit (g : Nat) (hg : 0 < g) : (if ((digN g).length : Int) = 1 then (if 0 < ((digN g).length : Int) then (some ((rd (digN g) 0) == 1)) else (none)) else (some false)) = some (decide (g = 1)) := by
  by_cases h1 : (digN g).length = 1
  · rw [if_pos (by omega), if_pos (by omega)]
    have hlt : g < 4294967296 := by
      have := val_lt (u32s_digN g)
      rw [val_digN, h1, Nat.pow_one] at this; exact this
    have e1 : rd (digN g) 0 = ((dgt (digN g) 0 : Nat) : Int) := rd_dgt (u32s_digN g) 0
    have e2 := dgt_val (u32s_digN g) 0
    rw [val_digN, Nat.pow_zero, Nat.div_one, Nat.mod_eq_of_lt hlt] at e2
    rw [e1, e2]; congr 1; rw [Bool.eq_iff_iff, beq_iff_eq, decide_eq_true_iff]; omega
  · rw [if_neg (by omega)]; congr 1
    symm; apply decide_eq_false; intro h
    apply h1; rw [h, digN_pos (by decide)]; simp [digN_zero]
theorem natDiv_is {x y : List Int} (hx : canon x) (hy : canon y) (h0 : y ≠ []) (hs : x.length < 4294960000) : nat_div.f x y = some (digN (valN x / valN y), digN (valN x % valN y)) := by
  unfold nat_div.f
  rw [if_pos]
  simp only [Bool.and_eq_true, decide_eq_true_eq, canonB_iff]
  exact ⟨⟨⟨hx, hy⟩, fun h => h0 (List.length_eq_zero_iff.1 h)⟩, hs⟩
theorem digN_len_le {n : Nat} {x : List Int} (hx : u32s x) (h : n ≤ valN x) : (digN n).length ≤ x.length := len_digN_le (Nat.lt_of_le_of_lt h (val_lt hx))
theorem natGcd_l0 : ∀ (Y X : Nat) (x y : List Int), canon x → canon y → valN x = X → valN y = Y → x.length < 4294960000 → y.length < 4294960000 → Ev (fun k => nat_gcd.l0 k x y) (digN (Nat.gcd X Y)) := by
  intro Y
  induction Y using Nat.strongRecOn with
  | _ Y ih =>
    intro X x y hx hy ex ey hs hys
    refine Ev.step (fun k => by rw [nat_gcd.l0]) ?_
    by_cases h0 : y = []
    · subst h0
      have e : Y = 0 := ey.symm
      subst e
      refine Ev.no (by simp) ?_
      rw [Nat.gcd_zero_right, ← ex, digN_val hx]
      exact Ev.bind (Ev.con (show slices_Clone_uint32_uint32.f x = some x from if_pos (by omega))) (Ev.now _)
    · have hp := val_pos hy h0
      have hl : 0 < y.length := Nat.pos_of_ne_zero fun h => h0 (List.length_eq_zero_iff.1 h)
      refine Ev.yes (by omega) (Ev.bind (Ev.con (natDiv_is hx hy h0 hs)) ?_)
      have hm := Nat.mod_lt X (show Y > 0 by omega)
      rw [ex, ey]
      have e : Nat.gcd X Y = Nat.gcd Y (X % Y) := by rw [Nat.gcd_comm X Y, Nat.gcd_rec Y X, Nat.gcd_comm]
      rw [e]
      have hl2 := digN_len_le hy.1 (show X % Y ≤ valN y by omega)
      exact ih (X % Y) hm Y y (digN (X % Y)) hy (canon_digN _) ey (val_digN _) hys (by omega)
theorem natGcd_f {x y : List Int} (hx : canon x) (hy : canon y) (hs : x.length < 4294960000) (hys : y.length < 4294960000) : Ev (fun k => nat_gcd.f k x y) (digN (Nat.gcd (valN x) (valN y))) := natGcd_l0 _ _ x y hx hy rfl rfl hs hys
theorem form2 {x y : List Int} (hx : canon x) (hy : canon y) (hs : x.length ≤ 512) (hys : y.length ≤ 512) : Ev (fun k => nat_form.f k ([x, y] : List (List Int))) 0 := by
  have := natForm_f [x, y] (by simp) (by intro z hz; simp at hz; rcases hz with rfl | rfl <;> omega)
  rw [formL, formV_canon hx hs, if_pos rfl, formL, formV_canon hy hys, if_pos rfl, formL] at this
  exact this
theorem natGcdE_f {x y : List Int} (hx : canon x) (hy : canon y) (hs : x.length ≤ 512) (hys : y.length ≤ 512) : Ev (fun k => nat_Gcd.f k x y) (digN (Nat.gcd (valN x) (valN y)), 0) := by
  unfold nat_Gcd.f
  exact Ev.bind (form2 hx hy hs hys) (Ev.yes rfl (Ev.bind (natGcd_f hx hy (by omega) (by omega)) (Ev.now _)))
theorem bitLen_nb : ∀ (f x : Nat), x < 2 ^ f → f ≤ 64 → Lib.bitLen x = nb x
  | 0, x, h, _ => by have e : x = 0 := by simpa using h
                     subst e; rw [nb_zero]; rfl
  | f + 1, x, h, hf => by
    by_cases h0 : x = 0
    · subst h0; rw [nb_zero]; rfl
    · have h64 : x < 2 ^ 64 := Nat.lt_of_lt_of_le h (Nat.pow_le_pow_right (by decide) hf)
      rw [Lib.bitLen_half x h0 h64, nb_pos h0, bitLen_nb f (x / 2) (by rw [Nat.pow_succ] at h; omega) (by omega)]
      omega
theorem nb_shift (k : Nat) : ∀ (d r : Nat), d ≠ 0 → r < 2 ^ k → nb (r + 2 ^ k * d) = k + nb d := by
  induction k with
  | zero => intro d r hd hr; have : r = 0 := by simpa using hr
            subst this; simp
  | succ k ih =>
    intro d r hd hr
    have hp : 0 < 2 ^ k * d := Nat.mul_pos (Nat.pow_pos (by decide)) (Nat.pos_of_ne_zero hd)
    rw [Nat.pow_succ] at hr
    have e : r + 2 ^ (k + 1) * d = r + 2 * (2 ^ k * d) := by rw [Nat.pow_succ, Nat.mul_comm (2 ^ k) 2, Nat.mul_assoc]
    rw [e, nb_pos (by omega), show (r + 2 * (2 ^ k * d)) / 2 = r / 2 + 2 ^ k * d by omega, ih d (r / 2) hd (by omega)]
    omega
theorem nbTop {x : List Int} (hx : canon x) {n : Nat} (hn : x.length = n + 1) : nb (valN x) = 32 * n + nb (dgt x n) := by
  have hd : dgt x n ≠ 0 := by
    intro e
    have h1 := val_top x hn
    have h2 : valN (x.take n) < 4294967296 ^ n := val_take_lt hx.1 n
    have h3 := val_ge hx hn
    rw [e, Nat.mul_zero] at h1; omega
  have h1 := val_top x hn
  have hB : (4294967296 : Nat) ^ n = 2 ^ (32 * n) := by rw [Nat.pow_mul]
  rw [h1, hB]
  exact nb_shift _ _ _ hd (by rw [← hB]; exact val_take_lt hx.1 n)
theorem natSize_f {x : List Int} (hx : canon x) (hs : x.length ≤ 512) : nat_size.f x = some ((nb (valN x) : Nat) : Int) := by
  unfold nat_size.f
  by_cases h0 : x.length = 0
  · have e : x = [] := List.length_eq_zero_iff.1 h0
    subst e
    rw [show valN [] = 0 from rfl, nb_zero]; rfl
  · obtain ⟨n, hn⟩ : ∃ n, x.length = n + 1 := ⟨x.length - 1, by omega⟩
    have e : wrap64 ((x.length : Int) - 1) = ((n : Nat) : Int) := by rw [w64 _ (by omega)]; omega
    have hd := dgt_lt hx.1 n
    rw [if_neg (by omega), e, if_pos (by omega), if_pos (by omega), rd_dgt hx.1]
    have hb : bits_Len32.f ((dgt x n : Nat) : Int) = some ((nb (dgt x n) : Nat) : Int) := by
      unfold bits_Len32.f
      rw [if_pos (by omega), if_pos (by omega), Int.toNat_natCast, bitLen_nb 32 _ hd (by decide)]
    have hle : nb (dgt x n) ≤ 32 := nb_le hd
    rw [hb, Option.bind_some, nbTop hx hn]
    have e1 : wrap64 (32 * ((n : Nat) : Int)) = ((32 * n : Nat) : Int) := by rw [w64 _ (by omega)]; omega
    rw [e1, w64 _ (by omega)]
    exact congrArg some (by omega)
theorem form1 {x : List Int} (hl : x.length < 4294967296) : Ev (fun k => nat_form.f k ([x] : List (List Int))) (formV x) := by
  have := natForm_f [x] (by simp) (by intro z hz; simp at hz; subst hz; exact hl)
  rw [formL] at this
  by_cases h : formV x = 0
  · rw [if_pos h, formL] at this; rw [h]; exact this
  · rw [if_neg h] at this; exact this
theorem long_f {x : List Int} (hx : canon x) (hs : x.length ≤ 512) : Ev (fun k => frac_long.f k x) (decide (4096 < nb (valN x))) := by
  unfold frac_long.f nat_Bits.f
  have h1 := form1 (x := x) (by omega)
  rw [formV_canon hx hs] at h1
  refine Ev.bind (Ev.bind h1 (Ev.yes rfl (Ev.bind (Ev.con (natSize_f hx hs)) (Ev.now _)))) (Ev.yes rfl (Ev.is ?_))
  congr 1
  exact propext (by constructor <;> intro h <;> omega)
def fB (x : List Int) : Bool := canonB x && decide (x.length ≤ 512)
theorem fB_iff {x : List Int} : fB x = true ↔ canon x ∧ x.length ≤ 512 := by unfold fB; rw [Bool.and_eq_true, canonB_iff, decide_eq_true_iff]
theorem form_dec {x : List Int} (hx : u32s x) (hl : x.length < 4294967296) : Ev (fun k => nat_IsNat.f k x) (fB x) := by
  unfold nat_IsNat.f
  refine Ev.bind (form1 hl) (Ev.is ?_)
  rw [Bool.eq_iff_iff, beq_iff_eq, fB_iff]
  exact ⟨fun h => canon_formV hx h, fun h => formV_canon h.1 h.2⟩
theorem pow_split (a b : Nat) (h : b = 32 * a) : (2 : Nat) ^ b = 4294967296 ^ a := by
  subst h
  rw [Nat.pow_mul]
theorem nb_long {x : List Int} (hx : canon x) : nb (valN x) ≤ 4096 ↔ x.length ≤ 128 := by
  constructor
  · intro h
    refine Nat.le_of_not_lt fun hl => ?_
    obtain ⟨n, hn⟩ : ∃ n, x.length = n + 1 := ⟨x.length - 1, by omega⟩
    have h1 := nb_top hx hn
    have hp : 0 < nb (dgt x n) := by
      refine Nat.pos_of_ne_zero fun e => ?_
      have h2 := nb_lt (dgt x n)
      rw [e, Nat.pow_zero] at h2
      have h3 := val_top x hn
      have h4 : valN (x.take n) < 4294967296 ^ n := val_take_lt hx.1 n
      have h5 := val_ge hx hn
      rw [show dgt x n = 0 by omega, Nat.mul_zero] at h3
      omega
    omega
  · intro h
    refine nb_le ?_
    have h1 := val_lt hx.1
    have h2 : (4294967296 : Nat) ^ x.length ≤ 4294967296 ^ 128 := Nat.pow_le_pow_right (by decide) h
    rw [pow_split 128 4096 rfl]
    omega
theorem good_iff {x : List Int} (hx : u32s x) : goodB x = true ↔ canon x ∧ x.length ≤ 128 := by
  refine ⟨good_canon hx, fun h => ?_⟩
  unfold goodB
  rw [Bool.and_eq_true, decide_eq_true_iff, Bool.or_eq_true, decide_eq_true_iff]
  refine ⟨h.2, ?_⟩
  by_cases hn : x = []
  · exact .inl (by rw [hn]; rfl)
  · exact .inr (by rw [List.getLast?_eq_some_getLast hn]; exact h.1.2 hn)
theorem progIsRat_f {f : Int} {p : Bool} {x a : List Int} (hx : u32s x) (ha : u32s a) (lx : x.length < 4294967296) (la : a.length < 4294967296) (hw : f ≠ 0 → x.length + a.length < 9223372036854775808) : Ev (fun k => frac_IsRat.f k f p x a) (isRatB f p x a) := by
  unfold frac_IsRat.f isRatB
  have emp : ∀ z : List Int, ((z.length : Int) = 0) ↔ z.isEmpty = true := by intro z; cases z <;> simp; omega
  by_cases h0 : f = 0
  · rw [if_pos h0]
    refine Ev.yes h0 (Ev.bind (form_dec hx lx) ?_)
    by_cases c1 : canon x ∧ x.length ≤ 512
    · refine Ev.yes (fB_iff.2 c1) (Ev.bind (form_dec ha la) ?_)
      by_cases c2 : canon a ∧ a.length ≤ 512
      · refine Ev.yes (fB_iff.2 c2) (Ev.bind (long_f c1.1 c1.2) ?_)
        by_cases g1 : goodB x = true
        · have l1 := (nb_long c1.1).2 (good_canon hx g1).2
          refine Ev.no (fun h => by have := of_decide_eq_true h; omega) (Ev.bind (long_f c2.1 c2.2) ?_)
          rw [g1, Bool.true_and]
          by_cases g2 : goodB a = true
          · have l2 := (nb_long c2.1).2 (good_canon ha g2).2
            refine Ev.no (fun h => by have := of_decide_eq_true h; omega) ?_
            rw [g2, Bool.true_and]
            cases e1 : a.isEmpty with
            | true => exact Ev.yes ((emp a).2 e1) (Ev.now _)
            | false =>
              refine Ev.no (fun h => by rw [(emp a).1 h] at e1; exact absurd e1 (by decide)) ?_
              have hpa := val_pos c2.1 (fun e => by rw [e] at e1; simp at e1)
              have hg := natGcdE_f c1.1 c2.1 c1.2 c2.2
              have one := one_digit (Nat.gcd (valN x) (valN a)) (Nat.gcd_pos_of_pos_right _ hpa)
              cases p with
              | true =>
                refine Ev.yes rfl ?_
                cases e2 : x.isEmpty with
                | true => exact Ev.yes ((emp x).2 e2) (Ev.now _)
                | false => exact Ev.no (fun h => by rw [(emp x).1 h] at e2; exact absurd e2 (by decide)) (Ev.bind hg (Ev.con one))
              | false => exact Ev.no (by decide) (Ev.bind hg (Ev.con one))
          · refine Ev.yes (decide_eq_true (Nat.lt_of_not_le fun h => g2 ((good_iff ha).2 ⟨c2.1, (nb_long c2.1).1 h⟩))) ?_
            rw [Bool.eq_false_iff.2 g2]; exact Ev.now _
        · refine Ev.yes (decide_eq_true (Nat.lt_of_not_le fun h => g1 ((good_iff hx).2 ⟨c1.1, (nb_long c1.1).1 h⟩))) ?_
          rw [Bool.eq_false_iff.2 g1]; exact Ev.now _
      · refine Ev.no (fun h => c2 (fB_iff.1 h)) ?_
        have g2 : goodB a = false := Bool.eq_false_iff.2 fun h => c2 ⟨(good_canon ha h).1, by have := (good_canon ha h).2; omega⟩
        rw [g2, Bool.false_and, Bool.and_false]; exact Ev.now _
    · refine Ev.no (fun h => c1 (fB_iff.1 h)) ?_
      have g1 : goodB x = false := Bool.eq_false_iff.2 fun h => c1 ⟨(good_canon hx h).1, by have := (good_canon hx h).2; omega⟩
      rw [g1, Bool.false_and]; exact Ev.now _
  · rw [if_neg h0]
    have hw := hw h0
    have ew : wrap64 ((x.length : Int) + (a.length : Int)) = (x.length : Int) + (a.length : Int) := w64 _ (by omega)
    have hfl : frac_isFault.f f = some (decide (f = 4) || decide (f = 11)) := by
      unfold frac_isFault.f
      by_cases h4 : f = 4
      · rw [if_pos h4, decide_eq_true h4]; rfl
      · rw [if_neg h4, decide_eq_false h4, Bool.false_or]; congr 1
    refine Ev.no h0 (Ev.bind (Ev.con hfl) ?_)
    cases hb : (decide (f = 4) || decide (f = 11)) with
    | false => exact Ev.no (by decide) (Ev.now _)
    | true =>
      refine Ev.yes rfl ?_
      cases p with
      | true => exact Ev.yes rfl (Ev.now _)
      | false =>
        refine Ev.no (by decide) (Ev.is ?_)
        rw [ew]
        congr 1
        rw [Bool.eq_iff_iff, beq_iff_eq]
        cases x <;> cases a <;> simp <;> omega
/-! ### sets of inputs, 64 in a word -/
def u64s (x : List Int) : Prop := ∀ d ∈ x, 0 ≤ d ∧ d < 18446744073709551616
def bitOf (row : List Int) (k : Nat) : Bool := (row.getD (k / 64) 0).toNat.testBit (k % 64)
theorem u64_wrap {n : Nat} (h : n < 18446744073709551616) : IntKind.u64.wrap (n : Int) = (n : Int) := by
  unfold IntKind.wrap
  simp [IntKind.signed, IntKind.bits]
  omega
theorem bits_or {a b : Nat} (ha : a < 18446744073709551616) (hb : b < 18446744073709551616) : Go.bits .or .u64 (a : Int) (b : Int) = ((a ||| b : Nat) : Int) := by
  have h : (BitVec.ofInt 64 (a : Int) ||| BitVec.ofInt 64 (b : Int)).toNat = a ||| b := by
    rw [BitVec.ofInt_natCast, BitVec.ofInt_natCast, BitVec.toNat_or, BitVec.toNat_ofNat, BitVec.toNat_ofNat, Nat.mod_eq_of_lt (by omega), Nat.mod_eq_of_lt (by omega)]
  show IntKind.u64.wrap (((BitVec.ofInt 64 (a : Int) ||| BitVec.ofInt 64 (b : Int)).toNat : Nat) : Int) = _
  rw [h]
  exact u64_wrap (Nat.or_lt_two_pow (n := 64) (by omega) (by omega))
theorem bits_and1 {a : Nat} (ha : a < 18446744073709551616) : Go.bits .and .u64 (a : Int) 1 = ((a % 2 : Nat) : Int) := by
  have h : (BitVec.ofInt 64 (a : Int) &&& BitVec.ofInt 64 ((1 : Nat) : Int)).toNat = a % 2 := by
    rw [BitVec.ofInt_natCast, BitVec.ofInt_natCast, BitVec.toNat_and, BitVec.toNat_ofNat, BitVec.toNat_ofNat, Nat.mod_eq_of_lt (by omega), Nat.mod_eq_of_lt (by omega), Nat.and_one_is_mod]
  show IntKind.u64.wrap (((BitVec.ofInt 64 (a : Int) &&& BitVec.ofInt 64 ((1 : Nat) : Int)).toNat : Nat) : Int) = _
  rw [h]
  exact u64_wrap (by omega)
theorem word_at {x : List Int} (h : u64s x) (j : Nat) : ∃ n : Nat, x.getD j 0 = (n : Int) ∧ n < 18446744073709551616 := by
  by_cases hj : j < x.length
  · have := h _ (List.getElem_mem hj)
    refine ⟨(x.getD j 0).toNat, ?_, ?_⟩ <;> rw [List.getD_eq_getElem?_getD, List.getElem?_eq_getElem hj, Option.getD_some] <;> omega
  · exact ⟨0, by rw [List.getD_eq_getElem?_getD, List.getElem?_eq_none (by omega)]; rfl, by decide⟩
theorem has_f {x : List Int} (h : u64s x) {k : Nat} (hk : k / 64 < x.length) (hl : x.length ≤ 1000000) : sparse_set_has.f x (k : Int) = some (bitOf x k) := by
  have e1 : Int.tdiv (k : Int) 64 = ((k / 64 : Nat) : Int) := rfl
  have e2 : Int.tmod (k : Int) 64 = ((k % 64 : Nat) : Int) := rfl
  have e3 : wrap64 ((k / 64 : Nat) : Int) = ((k / 64 : Nat) : Int) := by unfold wrap64; omega
  obtain ⟨n, hn, hn2⟩ := word_at h (k / 64)
  have hm : k % 64 < 64 := Nat.mod_lt _ (by decide)
  have e4 : shr .u64 (n : Int) ((k % 64 : Nat) : Int) = ((n / 2 ^ (k % 64) : Nat) : Int) := by
    unfold shr
    rw [Int.toNat_natCast, Nat.min_eq_left (by show k % 64 ≤ 64; omega)]
    norm_cast
  unfold sparse_set_has.f bitOf
  rw [e1, e2, e3, if_pos (by omega), if_pos (by omega), if_pos (by omega), show rd x ((k / 64 : Nat) : Int) = (n : Int) from by unfold rd; rw [Int.toNat_natCast]; exact hn, e4, bits_and1 (Nat.lt_of_le_of_lt (Nat.div_le_self _ _) hn2), hn, Int.toNat_natCast, Nat.testBit_eq_decide_div_mod_eq]
  congr 1
  have h2 := Nat.mod_two_eq_zero_or_one (n / 2 ^ (k % 64))
  rcases h2 with h2 | h2 <;> rw [h2] <;> rfl
theorem word_set {x : List Int} (h : u64s x) {v : Int} (hv : 0 ≤ v ∧ v < 18446744073709551616) (j : Nat) : u64s (x.set j v) := fun d hd => by
  rcases List.mem_or_eq_of_mem_set hd with hd | rfl
  · exact h d hd
  · exact hv
theorem word_zero (N : Nat) : u64s (List.replicate N 0) := fun d hd => by rw [(List.mem_replicate.1 hd).2]; decide
theorem bit_zero (N k : Nat) : bitOf (List.replicate N 0) k = false := by
  unfold bitOf
  have e : (List.replicate N (0 : Int)).getD (k / 64) 0 = 0 := by
    rw [List.getD_eq_getElem?_getD, List.getElem?_replicate]
    split <;> rfl
  rw [e]
  exact Nat.zero_testBit _
theorem bit_set {x : List Int} {j : Nat} (hj : j < x.length) (m : Nat) (k : Nat) : bitOf (x.set j (m : Int)) k = if k / 64 = j then m.testBit (k % 64) else bitOf x k := by
  unfold bitOf
  by_cases e : k / 64 = j
  · subst e
    rw [if_pos rfl, List.getD_eq_getElem?_getD, List.getElem?_set_self (by simpa using hj), Option.getD_some, Int.toNat_natCast]
  · rw [if_neg e, List.getD_eq_getElem?_getD, List.getElem?_set_ne (fun h => e h.symm), ← List.getD_eq_getElem?_getD]
/-- One set into another: the words from j on. -/
theorem with_l0 {o : List Int} (ho : u64s o) (hl : o.length ≤ 1000000) : ∀ d j x, j + d = o.length → x.length = o.length → u64s x → ∃ r : List Int, Ev (fun k => sparse_set_with.l0 k x o (o.length : Int) (j : Int)) r ∧ r.length = o.length ∧ u64s r ∧ ∀ k, bitOf r k = if k / 64 < j then bitOf x k else bitOf x k || bitOf o k := by
  intro d
  induction d with
  | zero =>
    intro j x hj hx hu
    refine ⟨x, ⟨1, fun n hn => ?_⟩, hx, hu, fun k => ?_⟩
    · obtain ⟨m, rfl⟩ : ∃ m, n = m + 1 := ⟨n - 1, by omega⟩
      show sparse_set_with.l0 (m + 1) x o (o.length : Int) (j : Int) = some x
      rw [sparse_set_with.l0, if_neg (by omega)]
    · by_cases e : k / 64 < j
      · rw [if_pos e]
      · rw [if_neg e]
        have h0 : bitOf o k = false := by
          unfold bitOf
          rw [List.getD_eq_getElem?_getD, List.getElem?_eq_none (by omega)]
          exact Nat.zero_testBit _
        rw [h0, Bool.or_false]
  | succ d ih =>
    intro j x hj hx hu
    obtain ⟨a, ha, ha2⟩ := word_at hu j
    obtain ⟨b, hb, hb2⟩ := word_at ho j
    have hor : (a ||| b) < 18446744073709551616 := Nat.or_lt_two_pow (n := 64) (by omega) (by omega)
    obtain ⟨r, hr, hrl, hru, hrb⟩ := ih (j + 1) (x.set j ((a ||| b : Nat) : Int)) (by omega) (by rw [List.length_set]; exact hx) (word_set hu ⟨by omega, by omega⟩ j)
    refine ⟨r, ?_, hrl, hru, fun k => ?_⟩
    · obtain ⟨n0, h0⟩ := hr
      refine ⟨n0 + 1, fun n hn => ?_⟩
      obtain ⟨m, rfl⟩ : ∃ m, n = m + 1 := ⟨n - 1, by omega⟩
      show sparse_set_with.l0 (m + 1) x o (o.length : Int) (j : Int) = some r
      rw [sparse_set_with.l0, if_pos (by omega), if_pos (by omega), if_pos (by omega), if_pos (by omega), wnx j (by omega), Int.toNat_natCast, show rd x (j : Int) = (a : Int) from ha, show rd o (j : Int) = (b : Int) from hb, bits_or ha2 hb2]
      exact h0 m (by omega)
    · rw [hrb k, bit_set (by omega)]
      by_cases e1 : k / 64 < j
      · rw [if_pos (by omega), if_neg (by omega), if_pos e1]
      · by_cases e2 : k / 64 = j
        · rw [if_pos (by omega), if_pos e2, if_neg e1]
          have h1 : bitOf x k = a.testBit (k % 64) := by unfold bitOf; rw [e2, ha, Int.toNat_natCast]
          have h2 : bitOf o k = b.testBit (k % 64) := by unfold bitOf; rw [e2, hb, Int.toNat_natCast]
          rw [h1, h2, Nat.testBit_or]
        · rw [if_neg (by omega), if_neg e2, if_neg e1]
theorem with_f {x o : List Int} (hx : u64s x) (ho : u64s o) (hxl : x.length = o.length) (hl : o.length ≤ 1000000) : ∃ r : List Int, Ev (fun k => sparse_set_with.f k x o) r ∧ r.length = o.length ∧ u64s r ∧ ∀ k, bitOf r k = (bitOf x k || bitOf o k) := by
  obtain ⟨r, h1, h2, h3, h4⟩ := with_l0 ho hl o.length 0 x (by omega) hxl hx
  exact ⟨r, h1, h2, h3, fun k => by rw [h4 k, if_neg (by omega)]⟩
theorem first_f {N : Nat} {n i : Nat} (hN : N = n / 64 + 1) (hn : n ≤ 1000000) (hi : i ≤ 1000000) : ∃ r : List Int, depFirst N (n : Int) (i : Int) = some r ∧ r.length = N ∧ u64s r ∧ ∀ k, k < n → bitOf r k = decide (i = k) := by
  unfold depFirst
  by_cases h : (i : Int) < (n : Int)
  · have e1 : Int.tdiv (i : Int) 64 = ((i / 64 : Nat) : Int) := rfl
    have e2 : Int.tmod (i : Int) 64 = ((i % 64 : Nat) : Int) := rfl
    have e3 : wrap64 ((i / 64 : Nat) : Int) = ((i / 64 : Nat) : Int) := by unfold wrap64; omega
    have hp : 2 ^ (i % 64) < 18446744073709551616 := Nat.lt_of_lt_of_le (Nat.pow_lt_pow_right (by decide) (Nat.mod_lt i (by decide : 0 < 64))) (by decide)
    have e4 : IntKind.u64.wrap ((2 : Int) ^ (((i % 64 : Nat) : Int)).toNat) = ((2 ^ (i % 64) : Nat) : Int) := by
      rw [Int.toNat_natCast, show (2 : Int) ^ (i % 64) = ((2 ^ (i % 64) : Nat) : Int) from by norm_cast]
      exact u64_wrap hp
    have e5 : rdOf 0 (List.replicate N (0 : Int)) ((i / 64 : Nat) : Int) = ((0 : Nat) : Int) := by
      unfold rdOf
      rw [List.getD_eq_getElem?_getD, List.getElem?_replicate]
      split <;> rfl
    rw [if_pos h, e1, e2, e3, if_pos ⟨by omega, by omega, Int.natCast_nonneg _, by omega⟩, e4, e5, bits_or (by decide) hp, Nat.zero_or, Int.toNat_natCast]
    refine ⟨_, rfl, by rw [List.length_set, List.length_replicate], word_set (word_zero N) ⟨Int.natCast_nonneg _, Int.ofNat_lt.2 hp⟩ _, fun k hk => ?_⟩
    rw [bit_set (by rw [List.length_replicate]; omega), bit_zero]
    by_cases e : i = k
    · subst e
      rw [if_pos rfl, Nat.testBit_two_pow_self, decide_eq_true rfl]
    · rw [decide_eq_false e]
      by_cases e6 : k / 64 = i / 64
      · rw [if_pos e6]
        exact Nat.testBit_two_pow_of_ne (by omega)
      · rw [if_neg e6]
  · rw [if_neg h]
    exact ⟨_, rfl, List.length_replicate, word_zero N, fun k hk => by rw [bit_zero, decide_eq_false (by omega)]⟩
/-! ### what a step depends on -/
def hasA (f : Int) : Bool := decide (3 ≤ f) && decide (f ≤ 7)
def hasB (f : Int) : Bool := decide (3 ≤ f) && decide (f ≤ 6)
def stepOk (i : Nat) (s : S44) : Prop := (1 ≤ s.f0 ∧ s.f0 < 8) ∧ (hasA s.f0 = true → 0 ≤ s.f1 ∧ s.f1 < (i : Int)) ∧ (hasB s.f0 = true → 0 ≤ s.f2 ∧ s.f2 < (i : Int))
def stepsOk : Nat → List S44 → Prop
  | _, [] => True
  | i, s :: ss => stepOk i s ∧ stepsOk (i + 1) ss
def onStep (k i : Nat) (on : List Bool) (s : S44) : Bool := decide (i = k) || (hasA s.f0 && on.getD s.f1.toNat false || hasB s.f0 && on.getD s.f2.toNat false)
def onAll (k : Nat) : List S44 → List Bool → List Bool
  | [], on => on
  | s :: ss, on => onAll k ss (on ++ [onStep k on.length on s])
def specP (n : Nat) (ss : List S44) (os : List Int) : List (List Bool) := os.map fun o => (List.range n).map fun k => (onAll k ss []).getD o.toNat false
theorem onAll_len (k : Nat) : ∀ (ss : List S44) (on : List Bool), (onAll k ss on).length = on.length + ss.length
  | [], on => rfl
  | s :: ss, on => by rw [onAll, onAll_len k ss, List.length_append, List.length_cons]; simp; omega
/-- The sets of the steps so far are what each input reaches. -/
def Done (N n i : Nat) (done : List (List Int)) (on : Nat → List Bool) : Prop := done.length = i ∧ (∀ x ∈ done, x.length = N ∧ u64s x) ∧ ∀ k, k < n → (on k).length = i ∧ ∀ j, j < i → bitOf (done.getD j []) k = (on k).getD j false
section
variable {N n i : Nat} {done : List (List Int)} {on : Nat → List Bool}
theorem one_f (hd : Done N n i done on) (hN : N ≤ 1000000) {p : Int} (hp : 0 ≤ p ∧ p < (i : Int)) {row : List Int} (hr : row.length = N ∧ u64s row) : ∃ r : List Int, (∀ ps r2, Ev (fun K => depWith K done ps r) r2 → Ev (fun K => depWith K done (p :: ps) row) r2) ∧ (r.length = N ∧ u64s r) ∧ ∀ k, k < n → bitOf r k = (bitOf row k || (on k).getD p.toNat false) := by
  have hpt : p.toNat < done.length := by have := hd.1; omega
  have hx : done.getD p.toNat [] ∈ done := by rw [List.getD_eq_getElem?_getD, List.getElem?_eq_getElem hpt]; exact List.getElem_mem hpt
  obtain ⟨hxl, hxu⟩ := hd.2.1 _ hx
  obtain ⟨r, h1, h2, h3, h4⟩ := with_f hr.2 hxu (by rw [hr.1, hxl]) (by omega)
  refine ⟨r, fun ps r2 h => ?_, ⟨by rw [h2, hxl], h3⟩, fun k hk => by rw [h4 k, (hd.2.2 k hk).2 p.toNat (by have := hd.1; omega)]⟩
  show Ev (fun K => depWith K done (p :: ps) row) r2
  refine Ev.congr (fun K => by rw [depWith]) ?_
  exact Ev.yes ⟨hp.1, by have := hd.1; omega⟩ (Ev.bind h1 h)
theorem kind_A {f : Int} (h : 1 ≤ f ∧ f < 8) : kindA f.toNat = hasA f := by unfold kindA hasA; congr 1 <;> (apply decide_eq_decide.2; omega)
theorem kind_B {f : Int} (h : 1 ≤ f ∧ f < 8) : kindB f.toNat = hasB f := by unfold kindB hasB; congr 1 <;> (apply decide_eq_decide.2; omega)
theorem row_f (hd : Done N n i done on) (hN : N = n / 64 + 1) (hn : n ≤ 1000000) (hi : i ≤ 1000000) {s : S44} (hs : stepOk i s) : ∃ (ps row0 r : List Int), trace_Parts.f s.f0 s.f1 s.f2 = some ps ∧ depFirst N (n : Int) (i : Int) = some row0 ∧ Ev (fun K => depWith K done ps row0) r ∧ (r.length = N ∧ u64s r) ∧ ∀ k, k < n → bitOf r k = onStep k i (on k) s := by
  obtain ⟨row0, h0, h1, h2, h3⟩ := first_f hN hn hi
  obtain ⟨hk, hA, hB⟩ := hs
  have hps : trace_Parts.f s.f0 s.f1 s.f2 = some (if hasB s.f0 = true then [s.f1, s.f2] else if hasA s.f0 = true then [s.f1] else []) := by
    unfold trace_Parts.f trace_parts.f
    rw [if_pos (by omega), kind_A hk, kind_B hk]
  have hAB : hasB s.f0 = true → hasA s.f0 = true := by unfold hasA hasB; simp; omega
  cases hb : hasB s.f0 with
  | true =>
    have ha := hAB hb
    obtain ⟨r1, e1, l1, b1⟩ := one_f hd (by omega) (hA ha) ⟨h1, h2⟩
    obtain ⟨r2, e2, l2, b2⟩ := one_f hd (by omega) (hB hb) l1
    refine ⟨_, row0, r2, hps, h0, ?_, l2, fun k hk => ?_⟩
    · rw [if_pos hb]
      exact e1 _ _ (e2 _ _ (Ev.is rfl))
    · rw [b2 k hk, b1 k hk, h3 k hk]
      unfold onStep
      rw [ha, hb, Bool.true_and, Bool.true_and, Bool.or_assoc]
  | false =>
    cases ha : hasA s.f0 with
    | true =>
      obtain ⟨r1, e1, l1, b1⟩ := one_f hd (by omega) (hA ha) ⟨h1, h2⟩
      refine ⟨_, row0, r1, hps, h0, ?_, l1, fun k hk => ?_⟩
      · rw [if_neg (by rw [hb]; decide), if_pos ha]
        exact e1 _ _ (Ev.is rfl)
      · rw [b1 k hk, h3 k hk]
        unfold onStep
        rw [ha, hb, Bool.true_and, Bool.false_and, Bool.or_false]
    | false =>
      refine ⟨_, row0, row0, hps, h0, ?_, ⟨h1, h2⟩, fun k hk => ?_⟩
      · rw [if_neg (by rw [hb]; decide), if_neg (by rw [ha]; decide)]
        exact Ev.is rfl
      · rw [h3 k hk]
        unfold onStep
        rw [ha, hb, Bool.false_and, Bool.false_and, Bool.or_false, Bool.or_false]
theorem done_next (hd : Done N n i done on) {s : S44} {r : List Int} (hr : r.length = N ∧ u64s r) (hb : ∀ k, k < n → bitOf r k = onStep k i (on k) s) : Done N n (i + 1) (done ++ [r]) (fun k => on k ++ [onStep k (on k).length (on k) s]) := by
  refine ⟨by rw [List.length_append, hd.1]; rfl, fun x hx => ?_, fun k hk => ?_⟩
  · rcases List.mem_append.1 hx with h | h
    · exact hd.2.1 x h
    · rw [List.mem_singleton.1 h]; exact hr
  · obtain ⟨h1, h2⟩ := hd.2.2 k hk
    refine ⟨by rw [List.length_append, h1]; rfl, fun j hj => ?_⟩
    by_cases e : j < i
    · rw [List.getD_eq_getElem?_getD, List.getElem?_append_left (by rw [hd.1]; exact e), ← List.getD_eq_getElem?_getD, h2 j e, List.getD_eq_getElem?_getD, List.getD_eq_getElem?_getD, List.getElem?_append_left (by rw [h1]; exact e)]
    · obtain rfl : j = i := by omega
      rw [List.getD_eq_getElem?_getD, List.getElem?_append_right (by rw [hd.1]; exact Nat.le_refl _), hd.1, Nat.sub_self, List.getD_eq_getElem?_getD, List.getElem?_append_right (by rw [h1]; exact Nat.le_refl _), h1, Nat.sub_self]
      exact hb k hk
end
theorem wordsOf_nat {n : Nat} (hn : n ≤ 1000000) : wordsOf (n : Int) = ((n / 64 + 1 : Nat) : Int) := by
  have e1 : Int.tdiv (n : Int) 64 = ((n / 64 : Nat) : Int) := rfl
  unfold wordsOf
  rw [e1]
  unfold wrap64
  omega
theorem depSteps_f {n : Nat} (hn : n ≤ 1000000) : ∀ (ss : List S44) (i : Nat) (done : List (List Int)) (on : Nat → List Bool), i + ss.length ≤ 1000000 → Done (n / 64 + 1) n i done on → stepsOk i ss → ∃ l : List (List Int), Ev (fun K => depSteps K (n : Int) ss i done) l ∧ Done (n / 64 + 1) n (i + ss.length) l (fun k => onAll k ss (on k))
  | [], i, done, on, hl, hd, _ => ⟨done, Ev.is rfl, hd⟩
  | s :: ss, i, done, on, hl, hd, hs => by
    rw [List.length_cons] at hl
    obtain ⟨ps, row0, r, h1, h2, h3, h4, h5⟩ := row_f hd rfl hn (by omega) hs.1
    obtain ⟨l, e1, e2⟩ := depSteps_f hn ss (i + 1) (done ++ [r]) _ (by omega) (done_next hd h4 h5) hs.2
    have h2' : depFirst (wordsOf (n : Int)).toNat (n : Int) (i : Int) = some row0 := by rw [wordsOf_nat hn, Int.toNat_natCast]; exact h2
    refine ⟨l, Ev.congr (fun K => by rw [depSteps]) (Ev.bind (Ev.con h1) (Ev.bind (Ev.con h2') (Ev.bind h3 e1))), ?_⟩
    · rw [List.length_cons, show i + (ss.length + 1) = i + 1 + ss.length from by omega]
      exact e2
theorem patHas_f {s : List Int} {n : Nat} (hu : u64s s) (hl : s.length = n / 64 + 1) (hn : n ≤ 1000000) : ∀ m j (row : List Bool), j + m = n → row.length = n → ∃ r : List Bool, patHas s m j row = some r ∧ r.length = n ∧ ∀ i, i < n → r[i]? = if i < j then row[i]? else some (bitOf s i)
  | 0, j, row, hj, hr => ⟨row, rfl, hr, fun i hi => by rw [if_pos (by omega)]⟩
  | m + 1, j, row, hj, hr => by
    obtain ⟨r, h1, h2, h3⟩ := patHas_f hu hl hn m (j + 1) (row.set j (bitOf s j)) (by omega) (by rw [List.length_set]; exact hr)
    refine ⟨r, ?_, h2, fun i hi => ?_⟩
    · rw [patHas, has_f hu (by omega) (by omega)]
      exact h1
    · rw [h3 i hi]
      by_cases e : i < j
      · rw [if_pos (by omega), if_pos e, List.getElem?_set_ne (by omega)]
      · by_cases e2 : i = j
        · subst e2
          rw [if_pos (by omega), if_neg e, List.getElem?_set_self (by omega)]
        · rw [if_neg (by omega), if_neg e]
theorem patRow_f {s : List Int} {n : Nat} (hu : u64s s) (hl : s.length = n / 64 + 1) (hn : n ≤ 1000000) : patHas s n 0 (List.replicate n false) = some ((List.range n).map (bitOf s)) := by
  obtain ⟨r, h1, h2, h3⟩ := patHas_f hu hl hn n 0 (List.replicate n false) (by omega) List.length_replicate
  rw [h1]
  congr 1
  apply List.ext_getElem?
  intro i
  by_cases hi : i < n
  · rw [h3 i hi, if_neg (by omega), List.getElem?_map, List.getElem?_range hi]
    rfl
  · rw [List.getElem?_eq_none (by omega), List.getElem?_eq_none (by rw [List.length_map, List.length_range]; omega)]
theorem patRows_f {n : Nat} (hn : n ≤ 1000000) : ∀ (l : List (List Int)) (acc : List (List Bool)), (∀ x ∈ l, x.length = n / 64 + 1 ∧ u64s x) → patRows n l acc = some (acc ++ l.map fun s => (List.range n).map (bitOf s))
  | [], acc, _ => by rw [patRows, List.map_nil, List.append_nil]
  | s :: ss, acc, h => by
    rw [patRows, patRow_f (h s (List.mem_cons_self ..)).2 (h s (List.mem_cons_self ..)).1 hn, Option.bind_some, patRows_f hn ss _ (fun x hx => h x (List.mem_cons_of_mem _ hx)), List.map_cons, List.append_assoc]
    rfl
theorem pattern_f {n : Nat} (hn : n ≤ 1000000) {ss : List S44} {os : List Int} (hs : ss.length ≤ 1000000) (ho : os.length ≤ 1000000) (hok : stepsOk 0 ss) (hout : ∀ o ∈ os, 0 ≤ o ∧ o < (ss.length : Int)) : Ev (fun K => sparse_pattern.f K (n : Int) ss os) (specP n ss os) := by
  obtain ⟨l, h1, h2⟩ := depSteps_f hn ss 0 [] (fun _ => []) (by omega) ⟨rfl, fun x hx => by simp at hx, fun k _ => ⟨rfl, fun j hj => by omega⟩⟩ hok
  rw [Nat.zero_add] at h2
  have hmem : ∀ o ∈ os, l.getD o.toNat [] ∈ l := fun o ho' => by
    have h3 : o.toNat < l.length := by have := hout o ho'; have := h2.1; omega
    rw [List.getD_eq_getElem?_getD, List.getElem?_eq_getElem h3]
    exact List.getElem_mem h3
  have hdep : Ev (fun K => sparse_depends.f K (n : Int) ss os) (os.map fun o => l.getD o.toNat []) := by
    unfold sparse_depends.f
    refine Ev.yes ?_ (Ev.bind h1 (Ev.yes ?_ (Ev.is rfl)))
    · rw [wordsOf_nat hn, Int.toNat_natCast]
      exact ⟨by omega, by omega, hs, ho⟩
    · rw [List.all_eq_true]
      intro o ho'
      have := hout o ho'
      rw [decide_eq_true this.1, decide_eq_true (by have := h2.1; omega)]
      rfl
  unfold sparse_pattern.f
  refine Ev.yes ⟨by omega, by omega⟩ (Ev.bind hdep (Ev.yes (by rw [List.length_map]; exact ho) (Ev.con ?_)))
  rw [Int.toNat_natCast, patRows_f hn _ _ (fun x hx => by obtain ⟨o, ho', rfl⟩ := List.mem_map.1 hx; exact h2.2.1 _ (hmem o ho')), List.nil_append, List.map_map]
  congr 1
  unfold specP
  apply List.map_congr_left
  intro o ho'
  show (List.range n).map (bitOf (l.getD o.toNat [])) = _
  apply List.map_congr_left
  intro k hk
  exact (h2.2.2 k (List.mem_range.1 hk)).2 o.toNat (by have := hout o ho'; omega)
/-! ### what the specification's pattern is -/
section
variable {ss : List S44} {os : List Int} {n : Nat}
end
section
variable {ss : List S44} {os : List Int} {n : Nat}
end
/-! ### both Checks give the same error -/
def u32R (x : S42) : Prop := u32s x.f2 ∧ u32s x.f3 ∧ x.f2.length < 1000000 ∧ x.f3.length < 1000000
def zeroB (f : Int) (p : Bool) (x y : List Int) : Bool := (f == 0) && (!p && (x.isEmpty && y.isEmpty))
def badF (f a b : Int) (inp : Bool) : Bool := (inp != (f == 1)) || (!hasA f && (a != 0)) || (!hasB f && (b != 0))
def formB (s : S44) (inp : Bool) : Bool :=
  if 1 ≤ s.f0 ∧ s.f0 < 8 then (if badF s.f0 s.f1 s.f2 inp = true then false else if s.f0 = 2 then (isRatB s.f3.f0 s.f3.f1 s.f3.f2 s.f3.f3 && (s.f3.f0 == 0)) else zeroB s.f3.f0 s.f3.f1 s.f3.f2 s.f3.f3) else false
theorem formed_f {s : S44} (h : u32R s.f3) (inp : Bool) : Ev (fun k => trace_formed.f k s.f0 s.f1 s.f2 s.f3.f0 s.f3.f1 s.f3.f2 s.f3.f3 inp) (formB s inp) := by
  unfold trace_formed.f formB
  by_cases hk : 1 ≤ s.f0 ∧ s.f0 < 8
  · rw [if_pos hk]
    refine Ev.yes hk ?_
    rw [kind_A hk, kind_B hk]
    change Ev (fun k => if badF s.f0 s.f1 s.f2 inp = true then some false else _) _
    cases hb : badF s.f0 s.f1 s.f2 inp with
    | true => exact Ev.yes rfl (Ev.is rfl)
    | false =>
      refine Ev.no (by decide) ?_
      rw [if_neg (by decide)]
      by_cases h2 : s.f0 = 2
      · rw [if_pos h2]
        refine Ev.yes (by rw [h2]; rfl) (Ev.bind (progIsRat_f h.1 h.2.1 (by have := h.2.2.1; omega) (by have := h.2.2.2; omega) (fun _ => by have := h.2.2.1; have := h.2.2.2; omega)) (Ev.is rfl))
      · rw [if_neg h2]
        refine Ev.no (by unfold kindN; simp; omega) (Ev.is ?_)
        unfold zeroB
        congr 2
        have h3 := h.2.2.1
        have h4 := h.2.2.2
        have e : wrap64 ((s.f3.f2.length : Int) + (s.f3.f3.length : Int)) = ((s.f3.f2.length + s.f3.f3.length : Nat) : Int) := by unfold wrap64; omega
        rw [e]
        cases s.f3.f2 <;> cases s.f3.f3 <;> simp <;> omega
  · rw [if_neg hk]
    exact Ev.no hk (Ev.is rfl)
def badParts (i : Nat) (s : S44) : Bool := hasA s.f0 && outOf (i : Int) s.f1 || hasB s.f0 && outOf (i : Int) s.f2
def errL (n : Int) : List S44 → Nat → Int
  | [], _ => 0
  | s :: ss, i => if formB s (decide ((i : Int) < n)) = true then (if badParts i s = true then 6 else errL n ss (i + 1)) else 5
theorem formB_kind {s : S44} {inp : Bool} (h : formB s inp = true) : 1 ≤ s.f0 ∧ s.f0 < 8 := by
  by_cases hk : 1 ≤ s.f0 ∧ s.f0 < 8
  · exact hk
  · unfold formB at h
    rw [if_neg hk] at h
    cases h
theorem progL_f {n : Int} : ∀ (ss : List S44) (i : Nat), (∀ s ∈ ss, u32R s.f3) → Ev (fun k => trace_CheckL k n ss i) (errL n ss i)
  | [], i, _ => Ev.is rfl
  | s :: ss, i, h => by
    refine Ev.congr (fun K => by rw [trace_CheckL]) (Ev.bind (formed_f (h s (List.mem_cons_self ..)) _) ?_)
    rw [errL]
    cases hf : formB s (decide ((i : Int) < n)) with
    | false => exact Ev.no (by decide) (Ev.is rfl)
    | true =>
      rw [if_pos rfl]
      have hk := formB_kind hf
      have hps : trace_parts.f s.f0 s.f1 s.f2 = some (if hasB s.f0 = true then [s.f1, s.f2] else if hasA s.f0 = true then [s.f1] else []) := by
        unfold trace_parts.f
        rw [if_pos (by omega), kind_A hk, kind_B hk]
      have hAB : hasB s.f0 = true → hasA s.f0 = true := by unfold hasA hasB; simp; omega
      have hany : (if hasB s.f0 = true then [s.f1, s.f2] else if hasA s.f0 = true then [s.f1] else []).any (outOf (i : Int)) = badParts i s := by
        unfold badParts
        cases hb : hasB s.f0 with
        | true => rw [hAB hb]; simp
        | false => cases hasA s.f0 <;> simp
      refine Ev.yes rfl (Ev.bind (Ev.con hps) ?_)
      rw [hany]
      cases badParts i s with
      | true => exact Ev.yes rfl (Ev.is rfl)
      | false => exact Ev.no (by decide) (progL_f ss (i + 1) (fun x hx => h x (List.mem_cons_of_mem _ hx)))
def errT (n : Int) (ss : List S44) (os : List Int) : Int :=
  if (ss.length : Int) > 262144 then 3 else if (os.length : Int) > 32768 then 3 else if n < 0 then 2 else if n > (ss.length : Int) then 2
  else if errL n ss 0 = 0 then (if os.any (outOf (ss.length : Int)) = true then 6 else 0) else errL n ss 0
theorem errT_tail {n : Int} {ss : List S44} {os : List Int} {g : Nat → Option Int} (h : Ev g (errL n ss 0)) : Ev (fun k => if (ss.length : Int) > 262144 then some 3 else if (os.length : Int) > 32768 then some 3 else if n < 0 then some 2 else if n > (ss.length : Int) then some 2
    else (g k).bind fun e => if e = 0 then (if os.any (outOf (ss.length : Int)) = true then some 6 else some 0) else some e) (errT n ss os) := by
  unfold errT
  by_cases h1 : (ss.length : Int) > 262144
  · rw [if_pos h1]; exact Ev.yes h1 (Ev.is rfl)
  · rw [if_neg h1]
    refine Ev.no h1 ?_
    by_cases h2 : (os.length : Int) > 32768
    · rw [if_pos h2]; exact Ev.yes h2 (Ev.is rfl)
    · rw [if_neg h2]
      refine Ev.no h2 ?_
      by_cases h3 : n < 0
      · rw [if_pos h3]; exact Ev.yes h3 (Ev.is rfl)
      · rw [if_neg h3]
        refine Ev.no h3 ?_
        by_cases h4 : n > (ss.length : Int)
        · rw [if_pos h4]; exact Ev.yes h4 (Ev.is rfl)
        · rw [if_neg h4]
          refine Ev.no h4 (Ev.bind h ?_)
          by_cases h5 : errL n ss 0 = 0
          · simp only [if_pos h5]
            cases os.any (outOf (ss.length : Int)) with
            | true => exact Ev.con rfl
            | false => exact Ev.con rfl
          · simp only [if_neg h5]
            exact Ev.is rfl
theorem progCheck_f {n : Int} {ss : List S44} {os : List Int} (h : ∀ s ∈ ss, u32R s.f3) : Ev (fun k => trace_Check.f k n ss os) (errT n ss os) := errT_tail (progL_f ss 0 h)
theorem out_of {n x : Int} (h : outOf n x = false) : 0 ≤ x ∧ x < n := by
  unfold outOf at h
  rw [Bool.or_eq_false_iff] at h
  have h1 := of_decide_eq_false h.1
  have h2 := of_decide_eq_false h.2
  omega
theorem errL_ok {n : Int} : ∀ (ss : List S44) (i : Nat), errL n ss i = 0 → stepsOk i ss
  | [], _, _ => trivial
  | s :: ss, i, h => by
    rw [errL] at h
    cases hf : formB s (decide ((i : Int) < n)) with
    | false => rw [hf, if_neg (by decide)] at h; cases h
    | true =>
      rw [hf, if_pos rfl] at h
      cases hb : badParts i s with
      | true => rw [hb, if_pos rfl] at h; cases h
      | false =>
        rw [hb, if_neg (by decide)] at h
        refine ⟨⟨formB_kind hf, fun ha => ?_, fun hB => ?_⟩, errL_ok ss (i + 1) h⟩
        · unfold badParts at hb
          rw [ha, Bool.true_and, Bool.or_eq_false_iff] at hb
          exact out_of hb.1
        · unfold badParts at hb
          rw [hB, Bool.true_and, Bool.or_eq_false_iff] at hb
          exact out_of hb.2
theorem errT_ok {n : Int} {ss : List S44} {os : List Int} (h : errT n ss os = 0) : 0 ≤ n ∧ n ≤ (ss.length : Int) ∧ stepsOk 0 ss ∧ ∀ o ∈ os, 0 ≤ o ∧ o < (ss.length : Int) := by
  unfold errT at h
  split at h
  · cases h
  · split at h
    · cases h
    · split at h
      · cases h
      · split at h
        · cases h
        · split at h
          · rename_i h3 h4 h5
            refine ⟨by omega, by omega, errL_ok ss 0 h5, fun o ho => ?_⟩
            split at h
            · cases h
            · rename_i h6
              have h7 : os.any (outOf (ss.length : Int)) = false := by cases e : os.any (outOf (ss.length : Int)) with | true => exact absurd e h6 | false => rfl
              rw [List.any_eq_false] at h7
              have h8 := h7 o ho
              exact out_of (by cases e : outOf (ss.length : Int) o with | true => exact absurd e h8 | false => rfl)
          · rename_i h5
            exact absurd h h5
/-! ### the same pattern twice -/
/-! ### the cut of the tape -/
theorem cutRat_f {x : S42} (h2 : u32s x.f2) (h3 : u32s x.f3) (room : Int) : ∃ (y : S42) (u : Int), fluxionref08_CutRat.f x.f0 x.f1 x.f2 x.f3 room = some (y.f0, y.f1, y.f2, y.f3, u) ∧ u32R y := by
  obtain ⟨c, hc⟩ : ∃ c : Int, mn 130 (mx 2 (wrap64 (Int.tdiv room 2))) = c := ⟨_, rfl⟩
  have hc0 : 2 ≤ c ∧ c ≤ 130 := by rw [← hc]; unfold mn mx; split <;> split <;> omega
  have hm : ∀ n : Nat, ∃ t : Nat, mn (n : Int) c = (t : Int) ∧ t ≤ n ∧ t ≤ 130 := fun n => by
    by_cases h : c < (n : Int)
    · exact ⟨c.toNat, by unfold mn; rw [if_pos h]; omega, by omega, by omega⟩
    · exact ⟨n, by unfold mn; rw [if_neg h], Nat.le_refl _, by omega⟩
  obtain ⟨t, ht, ht1, ht2⟩ := hm x.f2.length
  obtain ⟨s, hs, hs1, hs2⟩ := hm x.f3.length
  refine ⟨⟨x.f0, x.f1, x.f2.take t, x.f3.take s⟩, wrap64 (((x.f2.take t).length : Int) + ((x.f3.take s).length : Int)), ?_, u32s_take h2 t, u32s_take h3 s, by show (x.f2.take t).length < _; rw [List.length_take]; omega, by show (x.f3.take s).length < _; rw [List.length_take]; omega⟩
  unfold fluxionref08_CutRat.f
  rw [hc, ht, hs]
  simp only [Option.bind_some, Int.toNat_natCast, List.nil_append, List.length_nil, Nat.zero_add]
  rw [if_pos (by omega), if_pos (by omega), if_pos (by rw [List.length_take]; omega), if_pos (by omega), if_pos (by omega), if_pos (by rw [List.length_take]; omega)]
section
variable {n : Int} {ss : List S44} {os ol : List Int}
end
/-! ### one tape behind another -/
def mapStep (tl : List Int) (s : S44) : S44 := ⟨s.f0, if hasA s.f0 = true then tl.getD s.f1.toNat 0 else s.f1, if hasB s.f0 = true then tl.getD s.f2.toNat 0 else s.f2, s.f3⟩
def joinGo : List S44 → List Int → List S44 → List S44 × List Int
  | [], tl, w => (w, tl)
  | s :: ss, tl, w => joinGo ss (tl ++ [(w.length : Int)]) (w ++ [mapStep tl s])
theorem onAll_app (k : Nat) : ∀ (ss ts : List S44) (on : List Bool), onAll k (ss ++ ts) on = onAll k ts (onAll k ss on)
  | [], _, _ => rfl
  | s :: ss, ts, on => by rw [List.cons_append, onAll, onAll, onAll_app k ss ts]
theorem getD_app {α : Type} (l r : List α) (d : α) {i : Nat} (h : i < l.length) : (l ++ r).getD i d = l.getD i d := by
  rw [List.getD_eq_getElem?_getD, List.getElem?_append_left h, ← List.getD_eq_getElem?_getD]
theorem getD_last {α : Type} (l : List α) (a d : α) : (l ++ [a]).getD l.length d = a := by
  rw [List.getD_eq_getElem?_getD, List.getElem?_append_right (Nat.le_refl _), Nat.sub_self]
  rfl
theorem any_or (m : Nat) (f g : Nat → Bool) : ((List.range m).any fun y => f y || g y) = ((List.range m).any f || (List.range m).any g) := by
  induction m with
  | zero => rfl
  | succ m ih => rw [List.range_succ, List.any_append, List.any_append, List.any_append, ih]; simp; cases f m <;> cases g m <;> simp
theorem any_and (m : Nat) (b : Bool) (g : Nat → Bool) : ((List.range m).any fun y => b && g y) = (b && (List.range m).any g) := by
  cases b with
  | true => simp
  | false => simp
theorem any_cong {m : Nat} {f g : Nat → Bool} (h : ∀ y, y < m → f y = g y) : (List.range m).any f = (List.range m).any g := by
  induction m with
  | zero => rfl
  | succ m ih => rw [List.range_succ, List.any_append, List.any_append, ih (fun y hy => h y (by omega))]; simp [h m (by omega)]
theorem join_on {k m : Nat} {A : Nat → Bool} : ∀ (ts : List S44) (x : Nat) (tl : List Int) (w : List S44) (onB : Nat → List Bool), m ≤ x → tl.length = x → stepsOk x ts → (∀ i, i < x → 0 ≤ tl.getD i 0 ∧ tl.getD i 0 < (w.length : Int)) → k < w.length → (∀ y, (onB y).length = x) →
    (∀ i, i < x → (onAll k w []).getD (tl.getD i 0).toNat false = (List.range m).any fun y => (onB y).getD i false && A y) →
    ∀ i, i < x + ts.length → (onAll k (joinGo ts tl w).1 []).getD ((joinGo ts tl w).2.getD i 0).toNat false = (List.range m).any fun y => (onAll y ts (onB y)).getD i false && A y
  | [], x, tl, w, onB, _, _, _, _, _, _, hinv => fun i hi => hinv i (by simpa using hi)
  | s :: ts, x, tl, w, onB, hm, hto, hok, hr, hk, hB, hinv => by
    have hw : (onAll k w []).length = w.length := by rw [onAll_len]; simp
    have hlast : ∀ y, onAll y (s :: ts) (onB y) = onAll y ts (onB y ++ [onStep y x (onB y) s]) := fun y => by rw [onAll, hB y]
    have hsum : onStep k w.length (onAll k w []) (mapStep tl s) = (List.range m).any fun y => onStep y x (onB y) s && A y := by
      obtain ⟨_, hA, hBs⟩ := hok.1
      have e1 : ((List.range m).any fun y => onStep y x (onB y) s && A y) = ((List.range m).any fun y => (hasA s.f0 && ((onB y).getD s.f1.toNat false && A y)) || (hasB s.f0 && ((onB y).getD s.f2.toNat false && A y))) := by
        refine any_cong fun y hy => ?_
        unfold onStep
        rw [decide_eq_false (by omega : ¬ x = y), Bool.false_or]
        cases hasA s.f0 <;> cases hasB s.f0 <;> cases (onB y).getD s.f1.toNat false <;> cases (onB y).getD s.f2.toNat false <;> cases A y <;> rfl
      rw [e1, any_or, any_and, any_and]
      unfold onStep mapStep
      rw [decide_eq_false (by omega : ¬ w.length = k), Bool.false_or]
      cases ha : hasA s.f0 with
      | true =>
        have h1 := hA ha
        rw [if_pos rfl, hinv s.f1.toNat (by omega)]
        cases hb : hasB s.f0 with
        | true =>
          have h2 := hBs hb
          rw [if_pos rfl, hinv s.f2.toNat (by omega)]
        | false => simp
      | false =>
        cases hb : hasB s.f0 with
        | true =>
          have h2 := hBs hb
          rw [if_pos rfl, hinv s.f2.toNat (by omega)]
          simp
        | false => simp
    intro i hi
    rw [List.length_cons] at hi
    simp only [hlast]
    rw [joinGo]
    refine join_on ts (x + 1) (tl ++ [(w.length : Int)]) (w ++ [mapStep tl s]) (fun y => onB y ++ [onStep y x (onB y) s]) (by omega) (by rw [List.length_append, hto]; rfl) hok.2 (fun j hj => ?_) (by rw [List.length_append]; omega) (fun y => by rw [List.length_append, hB y]; rfl) (fun j hj => ?_) i (by omega)
    · by_cases e : j < x
      · rw [getD_app _ _ _ (by omega), List.length_append]
        have := hr j e
        exact ⟨this.1, by rw [List.length_singleton]; omega⟩
      · obtain rfl : j = tl.length := by omega
        rw [getD_last, List.length_append, List.length_singleton]
        omega
    · rw [onAll_app, show onAll k [mapStep tl s] (onAll k w []) = onAll k w [] ++ [onStep k w.length (onAll k w []) (mapStep tl s)] from by rw [onAll, onAll, hw]]
      by_cases e : j < x
      · have h1 := hr j e
        rw [getD_app tl _ _ (by omega), getD_app _ _ _ (by rw [hw]; omega), hinv j e]
        congr 1
        funext y
        rw [getD_app _ _ _ (by rw [hB y]; exact e)]
      · obtain rfl : j = x := by omega
        rw [show (tl ++ [(w.length : Int)]).getD j 0 = (w.length : Int) from by rw [← hto, getD_last], Int.toNat_natCast, show (onAll k w [] ++ [onStep k w.length (onAll k w []) (mapStep tl s)]).getD w.length false = onStep k w.length (onAll k w []) (mapStep tl s) from by rw [← hw, getD_last, hw], hsum]
        congr 1
        funext y
        rw [show (onB y ++ [onStep y j (onB y) s]).getD j false = onStep y j (onB y) s from by have h := hB y; rw [← h, getD_last, h]]
def iota (n : Nat) : List Int := (List.range n).map fun j : Nat => (j : Int)
theorem iota_at {n j : Nat} (h : j < n) : (iota n).getD j 0 = (j : Int) := by
  unfold iota
  rw [List.getD_eq_getElem?_getD, List.getElem?_map, List.getElem?_range h]
  rfl
theorem iota_next (n : Nat) : iota n ++ [(n : Int)] = iota (n + 1) := by unfold iota; rw [List.range_succ, List.map_append]; rfl
theorem mapStep_same {i : Nat} {s : S44} (h : stepOk i s) : mapStep (iota i) s = s := by
  obtain ⟨_, hA, hB⟩ := h
  obtain ⟨a, b, c, d⟩ := s
  unfold mapStep
  have e1 : (if hasA a = true then (iota i).getD b.toNat 0 else b) = b := by
    split
    · rename_i ha
      have := hA ha
      rw [iota_at (by have h := this; simp only at h; omega)]
      have h := this
      simp only at h
      omega
    · rfl
  have e2 : (if hasB a = true then (iota i).getD c.toNat 0 else c) = c := by
    split
    · rename_i hb
      have := hB hb
      rw [iota_at (by have h := this; simp only at h; omega)]
      have h := this
      simp only at h
      omega
    · rfl
  simp only [e1, e2]
theorem join_first : ∀ (ss : List S44) (i : Nat) (w : List S44), stepsOk i ss → w.length = i → joinGo ss (iota i) w = (w ++ ss, iota (i + ss.length))
  | [], i, w, _, _ => by rw [joinGo, List.append_nil]; rfl
  | s :: ss, i, w, hok, hw => by
    rw [joinGo, mapStep_same hok.1, hw, iota_next, join_first ss (i + 1) (w ++ [s]) hok.2 (by rw [List.length_append, hw]; rfl), List.append_assoc, List.length_cons, show i + 1 + ss.length = i + (ss.length + 1) from by omega]
    rfl
theorem inputs_on (y : Nat) : ∀ (ts : List S44) (on : List Bool), (∀ s ∈ ts, s.f0 = 1) → ∀ i, i < on.length + ts.length → (onAll y ts on).getD i false = if i < on.length then on.getD i false else decide (i = y)
  | [], on, _, i, hi => by rw [onAll, if_pos (by simpa using hi)]
  | s :: ts, on, h, i, hi => by
    rw [List.length_cons] at hi
    have h1 : onStep y on.length on s = decide (on.length = y) := by
      unfold onStep
      rw [h s (List.mem_cons_self ..)]
      simp [hasA, hasB]
    rw [onAll, h1, inputs_on y ts _ (fun x hx => h x (List.mem_cons_of_mem _ hx)) i (by rw [List.length_append, List.length_singleton]; omega), List.length_append, List.length_singleton]
    by_cases e : i < on.length
    · rw [if_pos (by omega), if_pos e, getD_app _ _ _ e]
    · rw [if_neg e]
      by_cases e2 : i = on.length
      · subst e2
        rw [if_pos (by omega), getD_last]
      · rw [if_neg (by omega)]
theorem any_is {m i : Nat} (hi : i < m) (A : Nat → Bool) : ((List.range m).any fun y => decide (i = y) && A y) = A i := by
  cases h : A i with
  | true => exact List.any_eq_true.2 ⟨i, List.mem_range.2 hi, by simp [h]⟩
  | false =>
    rw [List.any_eq_false]
    intro y hy
    by_cases e : i = y
    · subst e; simp [h]
    · simp [e]
theorem formB_in {s : S44} {inp : Bool} (h : formB s inp = true) : inp = (s.f0 == 1) := by
  have hk := formB_kind h
  unfold formB at h
  rw [if_pos hk] at h
  cases hb : badF s.f0 s.f1 s.f2 inp with
  | true => rw [hb, if_pos rfl] at h; cases h
  | false =>
    unfold badF at hb
    rw [Bool.or_eq_false_iff, Bool.or_eq_false_iff] at hb
    have h1 := hb.1.1
    cases inp <;> cases e : (s.f0 == 1) <;> simp_all
/-- What the pattern of two tapes one behind the other is. -/
theorem join_dep {m k : Nat} {ss ts : List S44} {os : List Int} (hss : stepsOk 0 ss) (hts : stepsOk 0 ts) (hm : m ≤ ts.length) (hin : ∀ s ∈ ts.take m, s.f0 = 1) (hos : os.length = m) (hout : ∀ o ∈ os, 0 ≤ o ∧ o < (ss.length : Int)) (hk : k < ss.length) :
    ∀ i, i < ts.length → (onAll k (joinGo (ts.drop m) os ss).1 []).getD ((joinGo (ts.drop m) os ss).2.getD i 0).toNat false = (List.range m).any fun y => (onAll y ts []).getD i false && (onAll k ss []).getD (os.getD y 0).toNat false := by
  have hdrop : ∀ (j : Nat) (l : List S44) (x : Nat), stepsOk x l → stepsOk (x + j) (l.drop j) := by
    intro j
    induction j with
    | zero => intro l x h; exact h
    | succ j ih =>
      intro l x h
      cases l with
      | nil => exact trivial
      | cons s l => rw [List.drop_succ_cons, show x + (j + 1) = x + 1 + j from by omega]; exact ih l (x + 1) h.2
  have hall : ∀ y, onAll y ts [] = onAll y (ts.drop m) (onAll y (ts.take m) []) := fun y => by rw [← onAll_app, List.take_append_drop]
  have htl : (ts.take m).length = m := by rw [List.length_take]; omega
  intro i hi
  simp only [hall]
  have hmem : ∀ j, j < m → os.getD j 0 ∈ os := fun j hj => by
    rw [List.getD_eq_getElem?_getD, List.getElem?_eq_getElem (by omega)]
    exact List.getElem_mem (by omega)
  refine join_on (A := fun y => (onAll k ss []).getD (os.getD y 0).toNat false) (ts.drop m) m os ss (fun y => onAll y (ts.take m) []) (Nat.le_refl _) hos (by have := hdrop m ts 0 hts; rwa [Nat.zero_add] at this) (fun j hj => hout _ (hmem j hj)) hk (fun y => by rw [onAll_len, htl]; simp) (fun j hj => ?_) i (by rw [List.length_drop]; omega)
  rw [← any_is hj (fun y => (onAll k ss []).getD (os.getD y 0).toNat false)]
  refine any_cong fun y _ => ?_
  rw [inputs_on y (ts.take m) [] hin j (by rw [htl]; simpa using hj), if_neg (by simp)]
theorem errL_app {n : Int} (s : S44) : ∀ (w : List S44) (i : Nat), errL n w i = 0 → errL n (w ++ [s]) i = errL n [s] (i + w.length)
  | [], i, _ => rfl
  | x :: w, i, h => by
    rw [errL] at h
    rw [List.cons_append, errL]
    cases hf : formB x (decide ((i : Int) < n)) with
    | false => rw [hf, if_neg (by decide)] at h; cases h
    | true =>
      rw [hf, if_pos rfl] at h
      rw [if_pos rfl]
      cases hb : badParts i x with
      | true => rw [hb, if_pos rfl] at h; cases h
      | false =>
        rw [hb, if_neg (by decide)] at h
        rw [if_neg (by decide), errL_app s w (i + 1) h, List.length_cons, show i + 1 + w.length = i + (w.length + 1) from by omega]
theorem errL_cons {n : Int} {s : S44} {ss : List S44} {i : Nat} (h : errL n (s :: ss) i = 0) : formB s (decide ((i : Int) < n)) = true ∧ badParts i s = false ∧ errL n ss (i + 1) = 0 := by
  rw [errL] at h
  cases hf : formB s (decide ((i : Int) < n)) with
  | false => rw [hf, if_neg (by decide)] at h; cases h
  | true =>
    rw [hf, if_pos rfl] at h
    cases hb : badParts i s with
    | true => rw [hb, if_pos rfl] at h; cases h
    | false => rw [hb, if_neg (by decide)] at h; exact ⟨rfl, rfl, h⟩
theorem mapStep_form (tl : List Int) (s : S44) (inp : Bool) : formB (mapStep tl s) inp = formB s inp := by
  have hb : badF (mapStep tl s).f0 (mapStep tl s).f1 (mapStep tl s).f2 inp = badF s.f0 s.f1 s.f2 inp := by
    unfold badF mapStep
    cases ha : hasA s.f0 <;> cases hb : hasB s.f0 <;> simp [ha, hb]
  unfold formB
  rw [hb]
  rfl
theorem in_of {n x : Int} (h0 : 0 ≤ x) (h1 : x < n) : outOf n x = false := by
  unfold outOf
  rw [decide_eq_false (by omega), decide_eq_false (by omega)]
  rfl
theorem mapStep_parts {x : Nat} {tl : List Int} {L : Nat} {s : S44} (hr : ∀ i, i < x → 0 ≤ tl.getD i 0 ∧ tl.getD i 0 < (L : Int)) (h : badParts x s = false) : badParts L (mapStep tl s) = false := by
  unfold badParts at h ⊢
  rw [Bool.or_eq_false_iff] at h ⊢
  refine ⟨?_, ?_⟩
  · show (hasA s.f0 && outOf (L : Int) (mapStep tl s).f1) = false
    cases ha : hasA s.f0 with
    | false => rfl
    | true =>
      have h1 := h.1
      rw [ha, Bool.true_and] at h1
      have h2 := out_of h1
      have h3 := hr s.f1.toNat (by omega)
      rw [Bool.true_and, show (mapStep tl s).f1 = tl.getD s.f1.toNat 0 from by unfold mapStep; rw [ha]; rfl]
      exact in_of h3.1 h3.2
  · show (hasB s.f0 && outOf (L : Int) (mapStep tl s).f2) = false
    cases ha : hasB s.f0 with
    | false => rfl
    | true =>
      have h1 := h.2
      rw [ha, Bool.true_and] at h1
      have h2 := out_of h1
      have h3 := hr s.f2.toNat (by omega)
      rw [Bool.true_and, show (mapStep tl s).f2 = tl.getD s.f2.toNat 0 from by unfold mapStep; rw [ha]; rfl]
      exact in_of h3.1 h3.2
theorem join_ok {n : Int} {m : Nat} : ∀ (ts : List S44) (x : Nat) (tl : List Int) (w : List S44), m ≤ x → tl.length = x → (∀ i, i < x → 0 ≤ tl.getD i 0 ∧ tl.getD i 0 < (w.length : Int)) → n ≤ (w.length : Int) → errL n w 0 = 0 → errL (m : Int) ts x = 0 →
    errL n (joinGo ts tl w).1 0 = 0 ∧ (joinGo ts tl w).1.length = w.length + ts.length ∧ (joinGo ts tl w).2.length = x + ts.length ∧ ∀ i, i < x + ts.length → 0 ≤ (joinGo ts tl w).2.getD i 0 ∧ (joinGo ts tl w).2.getD i 0 < ((joinGo ts tl w).1.length : Int)
  | [], x, tl, w, _, htl, hr, _, hw, _ => ⟨hw, rfl, htl, hr⟩
  | s :: ts, x, tl, w, hm, htl, hr, hn, hw, ht => by
    obtain ⟨h1, h2, h3⟩ := errL_cons ht
    rw [decide_eq_false (by omega)] at h1
    have h4 : errL n (w ++ [mapStep tl s]) 0 = 0 := by
      rw [errL_app _ w 0 hw, Nat.zero_add, errL, decide_eq_false (by omega), mapStep_form, h1, if_pos rfl, mapStep_parts hr h2, if_neg (by decide), errL]
    rw [joinGo]
    obtain ⟨a, b, c, d⟩ := join_ok (n := n) (m := m) ts (x + 1) (tl ++ [(w.length : Int)]) (w ++ [mapStep tl s]) (by omega) (by rw [List.length_append, htl]; rfl) (fun j hj => by
      by_cases e : j < x
      · rw [getD_app _ _ _ (by omega), List.length_append]
        have := hr j e
        exact ⟨this.1, by rw [List.length_singleton]; omega⟩
      · obtain rfl : j = tl.length := by omega
        rw [getD_last, List.length_append, List.length_singleton]
        omega) (by rw [List.length_append]; omega) h4 h3
    refine ⟨a, by rw [b, List.length_append, List.length_singleton, List.length_cons]; omega, by rw [c, List.length_cons]; omega, fun i hi => d i (by rw [List.length_cons] at hi; omega)⟩
/-! ### the law of two tapes -/
/-- The product of two patterns. -/
def prodM (n : Nat) (p q : List (List Bool)) : List (List Bool) := q.map fun row => (List.range n).map fun k => (List.range p.length).any fun x => row.getD x false && (p.getD x []).getD k false
theorem errL_drop {n : Int} : ∀ (j : Nat) (ss : List S44) (i : Nat), errL n ss i = 0 → errL n (ss.drop j) (i + j) = 0
  | 0, ss, i, h => h
  | j + 1, [], i, _ => rfl
  | j + 1, s :: ss, i, h => by
    rw [List.drop_succ_cons, show i + (j + 1) = i + 1 + j from by omega]
    exact errL_drop j ss (i + 1) (errL_cons h).2.2
theorem errL_in {n : Int} : ∀ (ss : List S44) (i : Nat), errL n ss i = 0 → ∀ m : Nat, (i : Int) + m ≤ n → ∀ s ∈ ss.take m, s.f0 = 1
  | [], _, _, m, _, s, hs => by simp at hs
  | x :: ss, i, h, 0, _, s, hs => by simp at hs
  | x :: ss, i, h, m + 1, hm, s, hs => by
    obtain ⟨h1, _, h3⟩ := errL_cons h
    rw [List.take_succ_cons] at hs
    rcases List.mem_cons.1 hs with e | e
    · subst e
      have h4 := formB_in h1
      rw [decide_eq_true (by omega)] at h4
      simpa using h4.symm
    · exact errL_in ss (i + 1) h3 m (by omega) s e
theorem own_f {x : S42} (h : u32R x) : trace_own.f x.f0 x.f1 x.f2 x.f3 = some (x.f0, x.f1, x.f2, x.f3) := by
  have h1 := h.2.2.1
  have h2 := h.2.2.2
  unfold trace_own.f slices_Clone_uint32_uint32.f
  rw [if_pos (by omega), if_pos (by omega)]
  rfl
theorem add_f {i : Nat} {tl : List Int} {s : S44} (hs : stepOk i s) (hl : tl.length = i) (hu : u32R s.f3) : trace_writer_add.f tl s = some (mapStep tl s) := by
  obtain ⟨hk, hA, hB⟩ := hs
  have hAB : hasB s.f0 = true → hasA s.f0 = true := by unfold hasA hasB; simp; omega
  have hps : trace_parts.f s.f0 s.f1 s.f2 = some (if hasB s.f0 = true then [s.f1, s.f2] else if hasA s.f0 = true then [s.f1] else []) := by
    unfold trace_parts.f
    rw [if_pos (by omega), kind_A hk, kind_B hk]
  unfold trace_writer_add.f
  rw [hps]
  simp only [Option.bind_some]
  rw [own_f hu]
  unfold mapStep
  cases hb : hasB s.f0 with
  | true =>
    have ha := hAB hb
    have h1 := hA ha
    have h2 := hB hb
    rw [ha]
    simp only [if_true, List.length_cons, List.length_nil]
    rw [if_pos (by omega), if_pos (by omega), if_pos (by omega), if_pos (by omega)]
    rfl
  | false =>
    cases ha : hasA s.f0 with
    | true =>
      have h1 := hA ha
      simp only [if_true, Bool.false_eq_true, if_false, List.length_cons, List.length_nil]
      rw [if_pos (by omega), if_pos (by omega), if_neg (by omega)]
      rfl
    | false =>
      simp only [Bool.false_eq_true, if_false, List.length_nil]
      rw [if_neg (by omega), if_neg (by omega)]
      rfl
theorem joinL_f (k : Nat) : ∀ (ts : List S44) (x : Nat) (tl : List Int) (w : List S44), stepsOk x ts → tl.length = x → (∀ s ∈ ts, u32R s.f3) → trace_JoinL k ts tl w = some (joinGo ts tl w)
  | [], _, _, _, _, _, _ => rfl
  | s :: ts, x, tl, w, hok, hl, hu => by
    rw [trace_JoinL, add_f hok.1 hl (hu s (List.mem_cons_self ..)), Option.bind_some, joinGo]
    exact joinL_f k ts (x + 1) _ _ hok.2 (by rw [List.length_append, hl]; rfl) (fun y hy => hu y (List.mem_cons_of_mem _ hy))
theorem joinGo_u : ∀ (ts : List S44) (tl : List Int) (w : List S44), (∀ s ∈ ts, u32R s.f3) → (∀ s ∈ w, u32R s.f3) → ∀ s ∈ (joinGo ts tl w).1, u32R s.f3
  | [], _, _, _, hw => hw
  | s :: ts, tl, w, hu, hw => by
    rw [joinGo]
    refine joinGo_u ts _ _ (fun y hy => hu y (List.mem_cons_of_mem _ hy)) (fun y hy => ?_)
    rcases List.mem_append.1 hy with h | h
    · exact hw y h
    · rw [List.mem_singleton.1 h]
      exact hu s (List.mem_cons_self ..)
theorem errT_parts {n : Int} {ss : List S44} {os : List Int} (h : errT n ss os = 0) : errL n ss 0 = 0 := by
  unfold errT at h
  split at h
  · cases h
  · split at h
    · cases h
    · split at h
      · cases h
      · split at h
        · cases h
        · split at h
          · assumption
          · exact h
theorem specP_at {m : Nat} {ss : List S44} {os : List Int} {x : Nat} (hx : x < os.length) : (specP m ss os).getD x [] = (List.range m).map fun k => (onAll k ss []).getD (os.getD x 0).toNat false := by
  unfold specP
  rw [List.getD_eq_getElem?_getD, List.getElem?_map, List.getElem?_eq_getElem hx, List.getD_eq_getElem?_getD, List.getElem?_eq_getElem hx]
  rfl
theorem range_getD {m k : Nat} (hk : k < m) (f : Nat → Bool) : ((List.range m).map f).getD k false = f k := by
  rw [List.getD_eq_getElem?_getD, List.getElem?_map, List.getElem?_range hk]
  rfl
section
variable {m1 m2 : Nat} {s1 s2 : List S44} {o1 o2 : List Int}
theorem joined_pat (h1 : errT (m1 : Int) s1 o1 = 0) (h2 : errT (m2 : Int) s2 o2 = 0) (hl : o1.length = m2) : specP m1 (joinGo (s2.drop m2) o1 s1).1 (o2.map fun o => (joinGo (s2.drop m2) o1 s1).2.getD o.toNat 0) = prodM m1 (specP m1 s1 o1) (specP m2 s2 o2) := by
  obtain ⟨_, a1, a2, a3⟩ := errT_ok h1
  obtain ⟨_, b1, b2, b3⟩ := errT_ok h2
  have hp : (specP m1 s1 o1).length = m2 := by unfold specP; rw [List.length_map, hl]
  unfold prodM
  rw [hp]
  unfold specP
  rw [List.map_map, List.map_map]
  apply List.map_congr_left
  intro o ho
  apply List.map_congr_left
  intro k hk
  have hk := List.mem_range.1 hk
  have hin := b3 o ho
  rw [join_dep a2 b2 (by omega) (errL_in s2 0 (errT_parts h2) m2 (by omega)) hl a3 (by omega) o.toNat (by omega)]
  refine any_cong fun y hy => ?_
  have h3 := specP_at (m := m1) (ss := s1) (os := o1) (x := y) (by omega)
  unfold specP at h3
  rw [range_getD hy, h3, range_getD hk]
theorem joined_ok (h1 : errT (m1 : Int) s1 o1 = 0) (h2 : errT (m2 : Int) s2 o2 = 0) (hl : o1.length = m2) (hs1 : s1.length ≤ 60) (hs2 : s2.length ≤ 60) (ho2 : o2.length ≤ 60) :
    errT (m1 : Int) (joinGo (s2.drop m2) o1 s1).1 (o2.map fun o => (joinGo (s2.drop m2) o1 s1).2.getD o.toNat 0) = 0 ∧ (joinGo (s2.drop m2) o1 s1).1.length ≤ 120 ∧ (joinGo (s2.drop m2) o1 s1).2.length = s2.length := by
  obtain ⟨_, a1, a2, a3⟩ := errT_ok h1
  obtain ⟨_, b1, b2, b3⟩ := errT_ok h2
  have hmem : ∀ j, j < m2 → o1.getD j 0 ∈ o1 := fun j hj => by
    rw [List.getD_eq_getElem?_getD, List.getElem?_eq_getElem (by omega)]
    exact List.getElem_mem (by omega)
  have hd := errL_drop m2 s2 0 (errT_parts h2)
  rw [Nat.zero_add] at hd
  obtain ⟨c1, c2, c3, c4⟩ := join_ok (n := (m1 : Int)) (m := m2) (s2.drop m2) m2 o1 s1 (Nat.le_refl _) hl (fun i hi => a3 _ (hmem i hi)) (by omega) (errT_parts h1) hd
  rw [List.length_drop] at c2 c3 c4
  refine ⟨?_, by omega, by omega⟩
  unfold errT
  rw [if_neg (by omega), if_neg (by rw [List.length_map]; omega), if_neg (by omega), if_neg (by omega), if_pos c1, if_neg]
  intro h
  obtain ⟨x, hx, hx2⟩ := List.any_eq_true.1 h
  obtain ⟨o, ho, rfl⟩ := List.mem_map.1 hx
  have h3 := b3 o ho
  have h4 := c4 o.toNat (by omega)
  rw [in_of h4.1 h4.2] at hx2
  cases hx2
end
theorem pat_f {n : Int} {m : Nat} {ss : List S44} {os : List Int} (hn : n = (m : Int)) (he : errT n ss os = 0) (hs : ss.length ≤ 4000) (ho : os.length ≤ 4000) (hu : ∀ s ∈ ss, u32R s.f3) : Ev (fun k => sparse_Pattern.f k n ss os) (specP m ss os, (0 : Int)) := by
  subst hn
  obtain ⟨h0, h1, hok, hout⟩ := errT_ok he
  unfold sparse_Pattern.f
  refine Ev.bind (progCheck_f hu) ?_
  exact Ev.yes he (Ev.no (by omega) (Ev.no (by omega) (Ev.bind (pattern_f (by omega) (by omega) (by omega) hok hout) (Ev.is rfl))))
theorem cut60_l0 {n : Int} {ss : List S44} {os ol : List Int} (hu : ∀ s ∈ ss, u32s s.f3.f2 ∧ u32s s.f3.f3) : ∀ d i room (out : List S44), i + d = min ss.length 60 → out.length = i → (∀ s ∈ out, u32R s.f3) → ∃ r : List S44, Ev (fun K => fluxionref11_Cut.l0 K 60 room (i : Int) n ss os n out ol) (n, r, ol) ∧ r.length ≤ 60 ∧ ∀ s ∈ r, u32R s.f3
  | 0, i, room, out, hd, ho, hout => by
    refine ⟨out, Ev.step (f := fun _ => some (n, out, ol)) (fun K => ?_) (Ev.is rfl), by omega, hout⟩
    rw [fluxionref11_Cut.l0]
    by_cases h1 : (i : Int) < (ss.length : Int)
    · rw [if_pos h1, if_neg (by omega)]
    · rw [if_neg h1]
  | d + 1, i, room, out, hd, ho, hout => by
    have hlt : i < ss.length := by omega
    have hrd : rd_T44 ss (i : Int) = ss[i] := by unfold rd_T44; simp [hlt]
    have h1 := hu ss[i] (List.getElem_mem hlt)
    obtain ⟨y, u, hy, hyu⟩ := cutRat_f h1.1 h1.2 room
    obtain ⟨r, hr, hl, hru⟩ := cut60_l0 hu d (i + 1) (wrap64 (room - u)) (out ++ [⟨ss[i].f0, ss[i].f1, ss[i].f2, y⟩]) (by omega) (by rw [List.length_append, ho]; rfl) (fun s hs => by
      rcases List.mem_append.1 hs with h | h
      · exact hout s h
      · rw [List.mem_singleton.1 h]; exact hyu)
    refine ⟨r, Ev.step (fun K => by rw [fluxionref11_Cut.l0]) (Ev.yes (by omega) (Ev.yes (by omega) (Ev.yes (by omega) ?_))), hl, hru⟩
    rw [hrd, hy]
    simp only [Option.bind_some]
    refine Ev.yes (by omega) ?_
    rw [wnx i (by omega)]
    exact hr
theorem cut60_f {n : Int} {ss : List S44} {os : List Int} (hu : ∀ s ∈ ss, u32s s.f3.f2 ∧ u32s s.f3.f3) : ∃ (sl : List S44) (ol : List Int), Ev (fun K => fluxionref11_Cut.f K n ss os 60 60) (n, sl, ol) ∧ sl.length ≤ 60 ∧ ol.length ≤ 60 ∧ ∀ s ∈ sl, u32R s.f3 := by
  have hm : mn (os.length : Int) 60 = ((min os.length 60 : Nat) : Int) := by unfold mn; split <;> omega
  obtain ⟨r, h1, h2, h3⟩ := cut60_l0 (n := n) (os := os) (ol := ([] : List Int) ++ os.take (min os.length 60)) hu (min ss.length 60) 0 60 [] (by omega) rfl (fun s hs => by simp at hs)
  refine ⟨r, [] ++ os.take (min os.length 60), ?_, h2, by rw [List.nil_append, List.length_take]; omega, h3⟩
  unfold fluxionref11_Cut.f
  rw [hm]
  simp only [Option.bind_some, Int.toNat_natCast]
  exact Ev.yes (by omega) (Ev.yes (by omega) (Ev.yes (by rw [List.length_nil, List.length_take]; omega) h1))
/-! ### the law's loops -/
section
variable {n : Nat} {P Q R : List (List Bool)} {ss : List S44} {os : List Int}
def pAt (P Q : List (List Bool)) (i kk x : Nat) : Bool := (List.range x).any fun y => (Q.getD i []).getD y false && (P.getD y []).getD kk false
theorem pAt_next (i kk x : Nat) : pAt P Q i kk (x + 1) = (pAt P Q i kk x || ((Q.getD i []).getD x false && (P.getD x []).getD kk false)) := by
  unfold pAt
  rw [List.range_succ, List.any_append]
  simp
theorem getD_mem {α : Type} {l : List α} {d : α} {i : Nat} (h : i < l.length) : l.getD i d ∈ l := by
  rw [List.getD_eq_getElem?_getD, List.getElem?_eq_getElem h]
  exact List.getElem_mem h
theorem prodM_row {i : Nat} (hi : i < Q.length) : (prodM n P Q).getD i [] = (List.range n).map fun k => pAt P Q i k P.length := by
  unfold prodM pAt
  rw [List.getD_eq_getElem?_getD, List.getElem?_map, List.getElem?_eq_getElem hi, List.getD_eq_getElem?_getD, List.getElem?_eq_getElem hi]
  rfl
theorem alive_f : (fluxionlaw19_alive.f.bind fun t => some t) = some true := rfl
theorem rd_at (l : List (List Bool)) (i : Nat) : rd_L7 l (i : Int) = l.getD i [] := rfl
theorem jl2 (hP : ∀ row ∈ P, row.length = n) (hQ : ∀ row ∈ Q, row.length = P.length) (hR : R = prodM n P Q) (hPl : P.length ≤ 1000000) {i kk : Nat} (hi : i < Q.length) (hk : kk < n) (hn : n ≤ 1000000)
    (next : Ev (fun K => fluxionlaw19_SparseJoined.l1 K P Q R (i : Int) ((kk + 1 : Nat) : Int) (n : Int) ss os) true) : ∀ d x b, x + d = P.length → b = pAt P Q i kk x → Ev (fun K => fluxionlaw19_SparseJoined.l2 K P Q R (i : Int) (kk : Int) b (x : Int) (n : Int) ss os) true := by
  have hRl : R.length = Q.length := by rw [hR]; unfold prodM; rw [List.length_map]
  have hrow : R.getD i [] = (List.range n).map fun k => pAt P Q i k P.length := by rw [hR]; exact prodM_row hi
  have hQi : (Q.getD i []).length = P.length := hQ _ (getD_mem hi)
  intro d
  induction d with
  | zero =>
    intro x b hx hb
    refine Ev.step (fun K => by rw [fluxionlaw19_SparseJoined.l2]) (Ev.no (by omega) (Ev.yes (by omega) (Ev.yes (by omega) (Ev.yes (by omega) ?_))))
    rw [rd_at, hrow]
    refine Ev.yes (by rw [List.length_map, List.length_range]; omega) (Ev.no ?_ ?_)
    · rw [hb, show x = P.length from by omega]
      show ¬ ((_ != ((List.range n).map fun k => pAt P Q i k P.length).getD kk false) = true)
      rw [range_getD hk]
      simp
    · rw [wnx kk (by omega)]
      exact next
  | succ d ih =>
    intro x b hx hb
    have hxl : (P.getD x []).length = n := hP _ (getD_mem (by omega))
    refine Ev.step (fun K => by rw [fluxionlaw19_SparseJoined.l2]) (Ev.yes (by omega) (Ev.yes (by omega) ?_))
    rw [rd_at, rd_at, wnx x (by omega), hxl, hQi]
    refine Ev.yes rfl ?_
    cases b with
    | true => exact Ev.yes rfl (ih (x + 1) true (by omega) (by rw [pAt_next, ← hb]; rfl))
    | false =>
      refine Ev.no (by decide) (Ev.yes (by omega) (Ev.yes (by omega) (Ev.yes (by omega) ?_)))
      cases e : (Q.getD i []).getD x false with
      | true =>
        refine Ev.yes e (Ev.yes (by omega) (Ev.yes (by omega) ?_))
        exact ih (x + 1) _ (by omega) (by rw [pAt_next, ← hb, e]; rfl)
      | false =>
        refine Ev.no (by show ¬ (Q.getD i []).getD x false = true; rw [e]; decide) ?_
        exact ih (x + 1) false (by omega) (by rw [pAt_next, ← hb, e]; rfl)
theorem jl1 (hP : ∀ row ∈ P, row.length = n) (hQ : ∀ row ∈ Q, row.length = P.length) (hR : R = prodM n P Q) (hPl : P.length ≤ 1000000) {i : Nat} (hi : i < Q.length) (hQl : Q.length ≤ 1000000) (hn : n ≤ 1000000)
    (next : Ev (fun K => fluxionlaw19_SparseJoined.l0 K P Q R ((i + 1 : Nat) : Int) (n : Int) ss os) true) : ∀ d kk, kk + d = n → Ev (fun K => fluxionlaw19_SparseJoined.l1 K P Q R (i : Int) (kk : Int) (n : Int) ss os) true := by
  intro d
  induction d with
  | zero =>
    intro kk hk
    refine Ev.step (fun K => by rw [fluxionlaw19_SparseJoined.l1]) (Ev.no (by omega) ?_)
    rw [wnx i (by omega)]
    exact next
  | succ d ih =>
    intro kk hk
    refine Ev.step (fun K => by rw [fluxionlaw19_SparseJoined.l1]) (Ev.yes (by omega) ?_)
    exact jl2 hP hQ hR hPl hi (by omega) hn (ih (kk + 1) (by omega)) P.length 0 false (by omega) rfl
theorem jl0 (hP : ∀ row ∈ P, row.length = n) (hQ : ∀ row ∈ Q, row.length = P.length) (hR : R = prodM n P Q) (hPl : P.length ≤ 1000000) (hQl : Q.length ≤ 1000000) (hn : n ≤ 1000000) : ∀ d i, i + d = Q.length → Ev (fun K => fluxionlaw19_SparseJoined.l0 K P Q R (i : Int) (n : Int) ss os) true := by
  have hRl : R.length = Q.length := by rw [hR]; unfold prodM; rw [List.length_map]
  intro d
  induction d with
  | zero =>
    intro i hi
    exact Ev.step (fun K => by rw [fluxionlaw19_SparseJoined.l0]) (Ev.no (by omega) (Ev.con alive_f))
  | succ d ih =>
    intro i hi
    have hrow : R.getD i [] = (List.range n).map fun k => pAt P Q i k P.length := by rw [hR]; exact prodM_row (by omega)
    have hQi : (Q.getD i []).length = P.length := hQ _ (getD_mem (by omega))
    refine Ev.step (fun K => by rw [fluxionlaw19_SparseJoined.l0]) (Ev.yes (by omega) (Ev.yes (by omega) ?_))
    rw [rd_at, rd_at, hrow, hQi]
    refine Ev.yes (by rw [List.length_map, List.length_range]) (Ev.yes (by omega) (Ev.yes rfl ?_))
    exact jl1 hP hQ hR hPl (by omega) hQl hn (ih (i + 1) (by omega)) n 0 (by omega)
end
theorem j0_true {n1 n2 : Int} {s1 s2 : List S44} {o1 o2 : List Int} : Ev (fun K => fluxionlaw19_SparseJoined.j0 K true n1 s1 o1 n2 s2 o2) true :=
  Ev.step (fun K => by rw [fluxionlaw19_SparseJoined.j0]) (Ev.yes rfl (Ev.con alive_f))
theorem join_f {m1 m2 : Nat} {s1 s2 : List S44} {o1 o2 : List Int} (h1 : errT (m1 : Int) s1 o1 = 0) (h2 : errT (m2 : Int) s2 o2 = 0) (hl' : o1.length = m2) (hs1 : s1.length ≤ 60) (hs2 : s2.length ≤ 60) (ho1 : o1.length ≤ 60) (ho2 : o2.length ≤ 60) (hu1 : ∀ s ∈ s1, u32R s.f3) (hu2 : ∀ s ∈ s2, u32R s.f3) :
    Ev (fun K => trace_Join.f K (m1 : Int) s1 o1 (m2 : Int) s2 o2) ((m1 : Int), (joinGo (s2.drop m2) o1 s1).1, (o2.map fun o => (joinGo (s2.drop m2) o1 s1).2.getD o.toNat 0), (0 : Int)) := by
  obtain ⟨_, a1, a2, a3⟩ := errT_ok h1
  obtain ⟨_, b1, b2, b3⟩ := errT_ok h2
  obtain ⟨c1, c2, c3⟩ := joined_ok h1 h2 hl' hs1 hs2 ho2
  have hok2 : ∀ (j : Nat) (l : List S44) (x : Nat), stepsOk x l → stepsOk (x + j) (l.drop j) := by
    intro j
    induction j with
    | zero => intro l x h; exact h
    | succ j ih =>
      intro l x h
      cases l with
      | nil => exact trivial
      | cons s l => rw [List.drop_succ_cons, show x + (j + 1) = x + 1 + j from by omega]; exact ih l (x + 1) h.2
  have hj : Ev (fun K => trace_Join.g K (m1 : Int) s1 o1 (m2 : Int) s2 o2) ((joinGo (s2.drop m2) o1 s1).1, o2.map fun o => (joinGo (s2.drop m2) o1 s1).2.getD o.toNat 0) := by
    unfold trace_Join.g
    refine Ev.bind (progCheck_f hu1) (Ev.bind (progCheck_f hu2) (Ev.yes ⟨⟨h1, h2⟩, ⟨by omega, by omega, b1⟩, by omega, by omega, by omega, by omega⟩ ?_))
    have e1 : ∀ K, trace_JoinL K s1 [] [] = some (s1, iota s1.length) := fun K => by
      rw [joinL_f K s1 0 [] [] a2 rfl hu1]
      have := join_first s1 0 [] a2 rfl
      rw [Nat.zero_add, List.nil_append] at this
      exact congrArg some this
    have e2 : ∀ K, trace_JoinL K (s2.drop (m2 : Int).toNat) o1 s1 = some (joinGo (s2.drop m2) o1 s1) := fun K => by
      rw [Int.toNat_natCast]
      have := hok2 m2 s2 0 b2
      rw [Nat.zero_add] at this
      exact joinL_f K _ m2 o1 s1 this hl' (fun s hs => hu2 s (List.mem_of_mem_drop hs))
    refine Ev.congr (fun K => by rw [e1 K, Option.bind_some, e2 K, Option.bind_some]) ?_
    exact Ev.yes (fun o ho => ⟨(b3 o ho).1, by rw [c3]; exact (b3 o ho).2⟩) (Ev.is rfl)
  unfold trace_Join.f
  exact Ev.bind hj (Ev.is rfl)
theorem j0_f {n1 n2 : Int} {s1 s2 : List S44} {o1 o2 : List Int} (h1 : errT n1 s1 o1 = 0) (h2 : errT n2 s2 o2 = 0) (hs1 : s1.length ≤ 60) (hs2 : s2.length ≤ 60) (ho1 : o1.length ≤ 60) (ho2 : o2.length ≤ 60) (hu1 : ∀ s ∈ s1, u32R s.f3) (hu2 : ∀ s ∈ s2, u32R s.f3) :
    Ev (fun K => fluxionlaw19_SparseJoined.j0 K ((o1.length : Int) != n2) n1 s1 o1 n2 s2 o2) true := by
  by_cases hl : (o1.length : Int) = n2
  case neg =>
    rw [show ((o1.length : Int) != n2) = true from by simpa using hl]
    exact j0_true
  rw [show ((o1.length : Int) != n2) = false from by simpa using hl]
  obtain ⟨m1, rfl⟩ : ∃ m : Nat, n1 = (m : Int) := ⟨n1.toNat, by have := (errT_ok h1).1; omega⟩
  obtain ⟨m2, rfl⟩ : ∃ m : Nat, n2 = (m : Int) := ⟨n2.toNat, by have := (errT_ok h2).1; omega⟩
  have hl' : o1.length = m2 := by omega
  obtain ⟨_, a1, a2, a3⟩ := errT_ok h1
  obtain ⟨_, b1, b2, b3⟩ := errT_ok h2
  obtain ⟨c1, c2, c3⟩ := joined_ok h1 h2 hl' hs1 hs2 ho2
  refine Ev.step (fun K => by rw [fluxionlaw19_SparseJoined.j0]) (Ev.no (by decide) ?_)
  refine Ev.bind (join_f h1 h2 hl' hs1 hs2 ho1 ho2 hu1 hu2) (Ev.bind (pat_f rfl h1 (by omega) (by omega) hu1) (Ev.bind (pat_f rfl h2 (by omega) (by omega) hu2) (Ev.bind (pat_f rfl c1 (Nat.le_trans c2 (by decide)) (by rw [List.length_map]; omega) (joinGo_u _ _ _ (fun s hs => hu2 s (List.mem_of_mem_drop hs)) hu1)) ?_)))
  have lp : (specP m1 s1 o1).length = o1.length := by unfold specP; rw [List.length_map]
  have lq : (specP m2 s2 o2).length = o2.length := by unfold specP; rw [List.length_map]
  refine Ev.yes rfl (Ev.yes rfl (Ev.yes rfl (Ev.yes rfl (Ev.yes (by show ((specP m1 s1 o1).length : Int) = _; rw [lp]) (Ev.yes (by show ((specP m2 s2 o2).length : Int) = _; rw [lq]) (Ev.yes (by unfold specP; simp) ?_))))))
  refine jl0 (n := m1) ?_ ?_ (joined_pat h1 h2 hl') (by rw [lp]; omega) (by rw [lq]; omega) (by omega) (specP m2 s2 o2).length 0 (by omega)
  · intro row hr
    obtain ⟨o, _, rfl⟩ := List.mem_map.1 hr
    rw [List.length_map, List.length_range]
  · intro row hr
    obtain ⟨o, _, rfl⟩ := List.mem_map.1 hr
    rw [List.length_map, List.length_range, lp]
    exact hl'.symm
theorem joinedLaw_f {n1 n2 : Int} {s1 s2 : List S44} {o1 o2 : List Int} (hu1 : ∀ s ∈ s1, u32s s.f3.f2 ∧ u32s s.f3.f3) (hu2 : ∀ s ∈ s2, u32s s.f3.f2 ∧ u32s s.f3.f3) : Ev (fun K => fluxionlaw19_SparseJoined.f K n1 s1 o1 n2 s2 o2) true := by
  obtain ⟨a, oa, h1, h2, h3, h4⟩ := cut60_f (n := n1) (os := o1) hu1
  obtain ⟨b, ob, k1, k2, k3, k4⟩ := cut60_f (n := n2) (os := o2) hu2
  unfold fluxionlaw19_SparseJoined.f
  refine Ev.bind h1 (Ev.bind k1 (Ev.bind (progCheck_f h4) ?_))
  by_cases e1 : errT n1 a oa = 0
  case neg => exact Ev.no e1 j0_true
  refine Ev.yes e1 (Ev.bind (progCheck_f k4) ?_)
  by_cases e2 : errT n2 b ob = 0
  case neg => exact Ev.no e2 j0_true
  exact Ev.yes e2 (j0_f e1 e2 h2 k2 h3 k3 h4 k4)
end Go.Proofs.YtjjbondlcjnaiaaDoor.Pure
