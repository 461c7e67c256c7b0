-- written by a program of this session, after the kit's print
import Derived.Test.YtjjbondlcjnaiaaPSparseManyx0
import Derived.Test.YtjjbondlcjnaiaaPSparseManyx1
import Derived.Test.YtjjbondlcjnaiaaPSparseManyx2
import Derived.Test.YtjjbondlcjnaiaaPSparseManyx3
import Derived.Test.YtjjbondlcjnaiaaPSparseManyx5
import Derived.Test.YtjjbondlcjnaiaaPSparseManyx8
namespace Go.Proofs.Ytjjbondlcjnaiaa.PSparseMany
open Go.RowKit Go.Proofs.YtjjbondlcjnaiaaW.PrintWords Go.Proofs.YtjjbondlcjnaiaaW.PrintLast Go.Proofs.YtjjbondlcjnaiaaW.PrintMore
attribute [local go_sem] max2_int min2_int max_two min_two max_three min_three max_four min_four   -- for this text's walks alone
set_option linter.unusedVariables false
set_option linter.unusedSimpArgs false

/-! ### fluxionref14_Same: function 30 -/
def fluxionref14_Same.l0 : Nat → List (List (S59)) → List (List (S59)) → Int → Option (Bool)
  | 0, _, _, _ => none
  | k + 1, x0, x1, x5 => if x5 < (x0.length : Int) then (if 0 ≤ x5 then (if x5 < (x1.length : Int) then ((fluxionref11_Numbers.f k (rd_L6 x0 x5) (rd_L6 x1 x5)).bind fun t383 => (if t383 = true then (fluxionref14_Same.l0 k x0 x1 (wrap64 (x5 + 1))) else (none))) else (none)) else (none)) else (some true)
def fluxionref14_Same.f (k : Nat) (l0 : List (List (S59))) (l1 : List (List (S59))) : Option (Bool) := if (l0.length : Int) = (l1.length : Int) then (fluxionref14_Same.l0 k l0 l1 0) else (none)
theorem fluxionref14_Same.mono_l : ∀ k, (∀ y0 y1 y2, LeO (fluxionref14_Same.l0 k y0 y1 y2) (fluxionref14_Same.l0 (k + 1) y0 y1 y2))
  | 0 => fun _ _ _ r h => by simp [fluxionref14_Same.l0] at h
  | k + 1 => by
    have ih0 := fluxionref14_Same.mono_l k
    · intro y0 y1 y2
      unfold fluxionref14_Same.l0
      repeat' first
      | (with_reducible exact ih0 _ _ _)
      | (with_reducible exact fluxionref11_Numbers.mono _ _ _)
      | (with_reducible exact LeO.refl _)
      | (with_reducible exact LeO.none _)
      | (with_reducible refine LeO.ite ?_ ?_)
      | (with_reducible refine LeO.bind ?_ (fun _ => ?_))
      | exact ih0 _ _ _
      | exact fluxionref11_Numbers.mono _ _ _
      | exact LeO.none _
      | refine LeO.ite ?_ ?_
      | refine LeO.bind ?_ (fun _ => ?_)
theorem fluxionref14_Same.mono : ∀ a0 a1 k, LeO (fluxionref14_Same.f k a0 a1) (fluxionref14_Same.f (k + 1) a0 a1) := by
  intro a0 a1 k
  have ih0 := fluxionref14_Same.mono_l k
  unfold fluxionref14_Same.f
  repeat' first
      | (with_reducible exact ih0 _ _ _)
      | (with_reducible exact fluxionref11_Numbers.mono _ _ _)
      | (with_reducible exact LeO.refl _)
      | (with_reducible exact LeO.none _)
      | (with_reducible refine LeO.ite ?_ ?_)
      | (with_reducible refine LeO.bind ?_ (fun _ => ?_))
      | exact ih0 _ _ _
      | exact fluxionref11_Numbers.mono _ _ _
      | exact LeO.none _
      | refine LeO.ite ?_ ?_
      | refine LeO.bind ?_ (fun _ => ?_)
def fluxionref14_Same.T6 : Bool × List (List Nat × List Nat) := (true, [([], []), ([], []), ([0, 1], [0, 1]), ([2], [2]), ([], []), ([], []), ([4, 5], [4, 5]), ([6], [6]), ([3, 7], [3, 7]), ([8], [8])])
def fluxionref14_Same.B6 : List Nat := [0, 0, 3, 7, 0, 0, 48, 112, 255, 511]
theorem fluxionref14_Same.tab6 : rtab .any (opsOf Try.f30 6) = fluxionref14_Same.T6 := by kernel_rfl
theorem fluxionref14_Same.bits6 : waitsOk fluxionref14_Same.T6.2 fluxionref14_Same.B6 = true := by kernel_rfl
set_option maxHeartbeats 8000000 in
set_option maxRecDepth 100000 in
theorem fluxionref14_Same.calls (k : Nat) (A0 : Option Addr) (c0 : Nat) (l0 : List (List (S59))) (A1 : Option Addr) (c1 : Nat) (l1 : List (List (S59))) (r : Bool) (w : World) (hr0 : Kd.C (Kd.slice 59 k59) w A0 l0.length l0) (hc0 : l0.length ≤ c0) (hr1 : Kd.C (Kd.slice 59 k59) w A1 l1.length l1) (hc1 : l1.length ≤ c1) (h : fluxionref14_Same.f k l0 l1 = some r) :
    Calls Try.prog 30 #[.slice A0 l0.length c0, .slice A1 l1.length c1] w fun e w' => e = .returned (.bool r) ∧ Below w.heap.size w w' := by
  have HR0 := Aside0.mk hr0
  have HC0 := Aside0.mk hc0
  clear hr0 hc0
  have HR1 := Aside0.mk hr1
  have HC1 := Aside0.mk hc1
  clear hr1 hc1
  have HB := Aside0.mk (Below.refl w.heap.size w)
  have H : (if (l0.length : Int) = (l1.length : Int) then (fluxionref14_Same.l0 k l0 l1 0) else (none)) = some r := h
  clear h
  by_cases c3 : (l0.length : Int) = (l1.length : Int)
  · rw [if_pos c3] at H
    have c3b0 : ((l0.length : Int) == (l1.length : Int)) = true := beq_iff_eq.mpr c3
    have c3b1 : ((l0.length : Int) != (l1.length : Int)) = false := bne_eq_false_iff_eq.mpr c3
    have c3b2 : (l0.length == l1.length) = true := by first | simpa using c3 | (simp at c3 ⊢; omega)
    clear c3
    have H' := Aside0.mk H
    clear H
    go_enter Try.func30, Try.ntmps30
    go_wp2
    go_loopg [5] k (fun kq v5 w' => ∃ (x5_1 : Int), v5 = .int .i64 x5_1 ∧ Aside0 (fluxionref14_Same.l0 kq l0 l1 x5_1 = some r) ∧ Aside0 (kq ≤ k) ∧ Aside0 (Below w.heap.size w w'))
    case atStart => exact ⟨(0), (by first | rfl | (simp; done) | (simp [*]; done)), H', ⟨Nat.le_refl _⟩, ⟨by repeat (first | (with_reducible first | exact HB.out | apply below_alloc | apply pw_below_drewN | apply below_drew1) | exact HB.out)⟩⟩
    case round =>
      clear H'
      try clear c1
      try clear p2
      try clear c3
      try clear c3b0
      try clear c3b1
      try clear c3b2
      obtain ⟨x5_1, rfl, HA, HK1, HB⟩ := hrel
      cases gk with
      | zero => exact absurd HA.out (by simp [fluxionref14_Same.l0])
      | succ k1 =>
        have H := HA.out
        clear HA
        simp only [fluxionref14_Same.l0] at H
        by_cases c4 : x5_1 < (l0.length : Int)
        · rw [if_pos c4] at H
          have c4b0 : decide (x5_1 < (l0.length : Int)) = true := decide_eq_true c4
          clear c4
          by_cases c5 : 0 ≤ x5_1
          · rw [if_pos c5] at H
            have c5b0 : decide (0 ≤ x5_1) = true := decide_eq_true c5
            clear c5
            by_cases c6 : x5_1 < (l1.length : Int)
            · rw [if_pos c6] at H
              have c6b0 : decide (x5_1 < (l1.length : Int)) = true := decide_eq_true c6
              clear c6
              replace H := Option.bind_eq_some_iff.mp H
              obtain ⟨t383, A70, H⟩ := H
              replace H : (if t383 = true then (fluxionref14_Same.l0 k1 l0 l1 (wrap64 (x5_1 + 1))) else (none)) = some r := H
              have A7 := Aside0.mk A70
              clear A70
              by_cases c8 : t383 = true
              · subst c8
                have H1 : (fluxionref14_Same.l0 k1 l0 l1 (wrap64 (x5_1 + 1))) = some r := by rw [if_pos rfl] at H; exact H
                clear H
                have H := H1
                clear H1
                have H' := Aside0.mk H
                clear H
                try go_wp2
                have n0_ := Aside0.mk (below_drew1 HB.out)
                clear HB
                have HB := n0_
                clear n0_
                have p381 : 0 ≤ (x5_1 : Int) := of_decide_eq_true (by first | (with_reducible assumption) | assumption)
                have q381 : x5_1 < (l0.length : Int) := of_decide_eq_true (by first | (with_reducible assumption) | assumption)
                obtain ⟨ad381, A381_0, c381_0, e381, hx381_0, hl381_0, hi381_0⟩ := at_L6 HR0.out x5_1 p381 q381
                have hw381_0 := hx381_0
                cases e381
                replace hx381_0 := (HB.out.cell (World.block_lt_of_cell? w _ hx381_0)).trans hx381_0
                have HR381_0 := Aside0.mk hi381_0
                have HC381_0 := Aside0.mk hl381_0
                clear hi381_0 hl381_0
                replace p381 := eq_true p381
                replace q381 := eq_true q381
                have p382 : 0 ≤ (x5_1 : Int) := of_decide_eq_true (by first | (with_reducible assumption) | assumption)
                have q382 : x5_1 < (l1.length : Int) := of_decide_eq_true (by first | (with_reducible assumption) | assumption)
                obtain ⟨ad382, A382_0, c382_0, e382, hx382_0, hl382_0, hi382_0⟩ := at_L6 HR1.out x5_1 p382 q382
                have hw382_0 := hx382_0
                cases e382
                replace hx382_0 := (HB.out.cell (World.block_lt_of_cell? w _ hx382_0)).trans hx382_0
                have HR382_0 := Aside0.mk hi382_0
                have HC382_0 := Aside0.mk hl382_0
                clear hi382_0 hl382_0
                replace p382 := eq_true p382
                replace q382 := eq_true q382
                refine start_ (n := 10) (S := fun w' => w'.cell? (ad381.add (x5_1).toNat) = some (.slice A381_0 (rd_L6 l0 x5_1).length c381_0) ∧ w'.cell? (ad382.add (x5_1).toNat) = some (.slice A382_0 (rd_L6 l1 x5_1).length c382_0)) (ds := []) #[false, false, false, false, false, false, false, false, false, false] (by kernel_rfl) rfl rfl ⟨((HB.out.cell (World.block_lt_of_cell? w _ hw381_0)).trans hw381_0), ((HB.out.cell (World.block_lt_of_cell? w _ hw382_0)).trans hw382_0)⟩ (fun hHeld => ?_); refine with_tabW fluxionref14_Same.tab6 fluxionref14_Same.bits6 (fun HT_ HW_ => ?_)
                generalize wr.drew = w9 at HB HR381_0 HR382_0 hx381_0 hx382_0 hHeld ⊢
                refine pure_ (i := 0) (N := some 17) (v := ?_) (a' := ?_) #[true, false, false, false, false, false, false, false, false, false] rfl rfl (any_of HT_.out (by kernel_rfl)) (fun _ _ _ h => h) (Or.inl ⟨by rfl, ?_⟩) ?_ ?_
                rotate_left
                · intro w'
                  go_simp
                  with_reducible rfl
                rotate_left
                · simp only [Act.put, List.setIfInBounds_toArray, List.set_cons_zero, List.set_cons_succ, i64_w, i32_w]
                  rfl
                refine pure_ (i := 1) (N := some 18) (v := ?_) (a' := ?_) #[true, true, false, false, false, false, false, false, false, false] rfl rfl (any_of HT_.out (by kernel_rfl)) (fun _ _ _ h => h) (Or.inl ⟨by rfl, ?_⟩) ?_ ?_
                rotate_left
                · intro w'
                  go_simp
                  with_reducible rfl
                rotate_left
                · simp only [Act.put, List.setIfInBounds_toArray, List.set_cons_zero, List.set_cons_succ, i64_w, i32_w]
                  rfl
                refine pure_ (i := 2) (N := some 19) (v := ?_) (a' := ?_) #[true, true, true, false, false, false, false, false, false, false] rfl rfl (any_of HT_.out (by kernel_rfl)) (fun _ _ _ h => h) (Or.inl ⟨by rfl, ?_⟩) ?_ ?_
                rotate_left
                · intro w'
                  go_simp
                  with_reducible rfl
                rotate_left
                · simp only [Act.put, List.setIfInBounds_toArray, List.set_cons_zero, List.set_cons_succ, i64_w, i32_w]
                  rfl
                refine pure_ (i := 4) (N := some 21) (v := ?_) (a' := ?_) #[true, true, true, false, true, false, false, false, false, false] rfl rfl (any_of HT_.out (by kernel_rfl)) (fun _ _ _ h => h) (Or.inl ⟨by rfl, ?_⟩) ?_ ?_
                rotate_left
                · intro w'
                  go_simp
                  with_reducible rfl
                rotate_left
                · simp only [Act.put, List.setIfInBounds_toArray, List.set_cons_zero, List.set_cons_succ, i64_w, i32_w]
                  rfl
                refine pure_ (i := 5) (N := some 22) (v := ?_) (a' := ?_) #[true, true, true, false, true, true, false, false, false, false] rfl rfl (any_of HT_.out (by kernel_rfl)) (fun _ _ _ h => h) (Or.inl ⟨by rfl, ?_⟩) ?_ ?_
                rotate_left
                · intro w'
                  go_simp
                  with_reducible rfl
                rotate_left
                · simp only [Act.put, List.setIfInBounds_toArray, List.set_cons_zero, List.set_cons_succ, i64_w, i32_w]
                  rfl
                refine pure_ (i := 6) (N := some 23) (v := ?_) (a' := ?_) #[true, true, true, false, true, true, true, false, false, false] rfl rfl (any_of HT_.out (by kernel_rfl)) (fun _ _ _ h => h) (Or.inl ⟨by rfl, ?_⟩) ?_ ?_
                rotate_left
                · intro w'
                  go_simp
                  with_reducible rfl
                rotate_left
                · simp only [Act.put, List.setIfInBounds_toArray, List.set_cons_zero, List.set_cons_succ, i64_w, i32_w]
                  rfl
                refine take_ (i := 3) (N := some 20) (v := ?_) (a' := ?_) #[true, true, true, true, true, true, true, false, false, false] rfl rfl (take_ofW HT_.out HW_.out (by kernel_rfl)) (fun _ _ _ h => h) (Or.inl ⟨by rfl, ?_⟩) hHeld ?_ ?_
                rotate_left
                · rintro w' ⟨s0, s1⟩
                  go_simp
                  with_reducible rfl
                rotate_left
                · simp only [Act.put, List.setIfInBounds_toArray, List.set_cons_zero, List.set_cons_succ, i64_w, i32_w]
                  rfl
                refine take_ (i := 7) (N := some 24) (v := ?_) (a' := ?_) #[true, true, true, true, true, true, true, true, false, false] rfl rfl (take_ofW HT_.out HW_.out (by kernel_rfl)) (fun _ _ _ h => h) (Or.inl ⟨by rfl, ?_⟩) hHeld ?_ ?_
                rotate_left
                · rintro w' ⟨s0, s1⟩
                  go_simp
                  with_reducible rfl
                rotate_left
                · simp only [Act.put, List.setIfInBounds_toArray, List.set_cons_zero, List.set_cons_succ, i64_w, i32_w]
                  rfl
                refine one_ (i := 8) (N := some 25) #[true, true, true, true, true, true, true, true, true, false] rfl rfl (one_of HT_.out (by kernel_rfl)) (by decide) (fun K hK => ?_)
                refine goes_ Try.func44 (by kernel_rfl) rfl #[.slice A381_0 (rd_L6 l0 x5_1).length c381_0, .slice A382_0 (rd_L6 l1 x5_1).length c382_0] (by rfl) rfl rfl (by (try simp only [List.map_toArray, List.map_cons, List.map_nil]); first | done | rfl | (simp only [List.length_drop, List.length_take]; rfl)) ?_
                with_reducible refine (fluxionref11_Numbers.calls k1 _ _ (rd_L6 l0 x5_1) _ _ (rd_L6 l1 x5_1) true _ ?side1 ?side2 ?side3 ?side4 A7.out).mono ?_
                (case side1 => repeat (first | exact (Kd.C_below HR381_0.out HB.out) | (with_reducible refine Kd.C_alloc ?_ _) | (with_reducible refine Kd.C_drewN ?_ _) | (with_reducible refine Kd.C_drew ?_)))
                (case side2 => exact HC381_0.out)
                (case side3 => repeat (first | exact (Kd.C_below HR382_0.out HB.out) | (with_reducible refine Kd.C_alloc ?_ _) | (with_reducible refine Kd.C_drewN ?_ _) | (with_reducible refine Kd.C_drew ?_)))
                (case side4 => exact HC382_0.out)
                rintro e w10 ⟨rfl, hb⟩
                refine ⟨_, rfl, ?_⟩
                have n0_ := Aside0.mk (below_step (by repeat (first | (with_reducible first | exact HB.out | apply below_alloc | apply pw_below_drewN | apply below_drew1) | exact HB.out)) hb)
                clear HB
                have HB := n0_
                clear n0_
                (try clear hb)
                (try clear hb2)
                (try clear hk)
                (try clear hi)
                refine hK.out _ _ ⟨((HB.out.cell (World.block_lt_of_cell? w _ hw381_0)).trans hw381_0), ((HB.out.cell (World.block_lt_of_cell? w _ hw382_0)).trans hw382_0)⟩ (fun hHeld => ?_)
                clear hK K
                refine norm_ (a' := ?_) ?_ ?_
                rotate_left
                · show Act.put _ (some 25) _ = _
                  simp only [Act.put, List.setIfInBounds_toArray, List.set_cons_zero, List.set_cons_succ, i64_w, i32_w]
                  rfl
                refine pure_ (i := 9) (N := some 26) (v := ?_) (a' := ?_) #[true, true, true, true, true, true, true, true, true, true] rfl rfl (any_of HT_.out (by kernel_rfl)) (fun _ _ _ h => h) (Or.inl ⟨by rfl, ?_⟩) ?_ ?_
                rotate_left
                · intro w'
                  go_simp
                  with_reducible rfl
                rotate_left
                · simp only [Act.put, List.setIfInBounds_toArray, List.set_cons_zero, List.set_cons_succ, i64_w, i32_w]
                  rfl
                refine done_ (done_of HT_.out (by kernel_rfl)) ?_
                try go_wp2
                go_roundg k1
                case measure => have := HK1.out; omega
                case rel => exact ⟨(wrap64 (x5_1 + 1)), (by first | rfl | (simp; done) | (simp [*]; done)), H', ⟨by have := HK1.out; omega⟩, ⟨by repeat (first | (with_reducible first | exact HB.out | apply below_alloc | apply pw_below_drewN | apply below_drew1) | exact HB.out)⟩⟩
              · replace c8 := Bool.eq_false_iff.mpr c8
                subst c8
                have H1 : (none) = some r := by rw [if_neg (show ¬ (false = true) by decide)] at H; exact H
                clear H
                have H := H1
                clear H1
                exact absurd H (by simp)
            · rw [if_neg c6] at H
              exact absurd H (by simp)
          · rw [if_neg c5] at H
            exact absurd H (by simp)
        · rw [if_neg c4] at H
          have c4b0 : decide (x5_1 < (l0.length : Int)) = false := decide_eq_false c4
          clear c4
          obtain rfl := Option.some.inj H
          go_wp2
          go_ret
          exact ⟨by first | rfl | (simp [errW_none, errW_some] <;> rfl) | (simp [*, errW_none, errW_some] <;> rfl), by repeat (first | (with_reducible first | exact HB.out | apply below_alloc | apply pw_below_drewN | apply below_drew1) | exact HB.out)⟩
  · rw [if_neg c3] at H
    exact absurd H (by simp)

/-! ### fluxionlaw19_alive: function 10 -/
def SAMPLE : List (List Bool) := [[true, true, false, false], [false, true, true, false], [false, false, true, true]]
theorem ev1 : fluxionlaw19_sample.f = some SAMPLE := by kernel_rfl
theorem ev2 : sparse_Colours.f SAMPLE 4 = some ([0, 1, 0, 1], 0) := by kernel_rfl
theorem ev3 : sparse_Widest.f 20 SAMPLE 4 = some (2, 0) := by kernel_rfl
theorem ev4 : sparse_Fits.f SAMPLE 4 [0, 0, 1, 2] = some (false, 0) := by kernel_rfl
theorem ev5 : fluxionref02_Of.f 40 1 1 = some (0, false, [1], [1]) := by kernel_rfl
theorem ev6 : fluxionref02_Of.f 40 0 1 = some (0, false, [], [1]) := by kernel_rfl
theorem ev7 : sparse_Seeds.f 40 [0, 1, 0, 1] = some ([[⟨0, false, [1], [1]⟩, ⟨0, false, [], [1]⟩, ⟨0, false, [1], [1]⟩, ⟨0, false, [], [1]⟩], [⟨0, false, [], [1]⟩, ⟨0, false, [1], [1]⟩, ⟨0, false, [], [1]⟩, ⟨0, false, [1], [1]⟩]], 0) := by kernel_rfl
theorem ev8 : fluxionref08_Ints.f 20 [0, 1, 0, 1] [0, 1, 0, 1] = some true := by kernel_rfl
theorem ev9 : fluxionref14_Same.f 40 [[⟨0, false, [1], [1]⟩, ⟨0, false, [], [1]⟩, ⟨0, false, [1], [1]⟩, ⟨0, false, [], [1]⟩], [⟨0, false, [], [1]⟩, ⟨0, false, [1], [1]⟩, ⟨0, false, [], [1]⟩, ⟨0, false, [1], [1]⟩]] [[⟨0, false, [1], [1]⟩, ⟨0, false, [], [1]⟩, ⟨0, false, [1], [1]⟩, ⟨0, false, [], [1]⟩], [⟨0, false, [], [1]⟩, ⟨0, false, [1], [1]⟩, ⟨0, false, [], [1]⟩, ⟨0, false, [1], [1]⟩]] = some true := by kernel_rfl
theorem lit4_reads (w : World) (a b c d : Int) : Kd.C (Kd.int .i64) (w.alloc (.cells #[.int .i64 a, .int .i64 b, .int .i64 c, .int .i64 d] 3 (0, 0))) (some ⟨w.heap.size, 0, none⟩) 4 [a, b, c, d] := by
  refine ⟨rfl, by omega, fun _ => ⟨_, rfl, fun j p hj => ⟨[.int .i64 p], rfl, rfl, fun i u hi => ?_⟩⟩⟩
  have e : i = 0 := by
    have := (List.getElem?_eq_some_iff.1 hi).1
    simp at this
    exact this
  subst e
  have hu : u = .int .i64 p := by simpa using hi.symm
  subst hu
  match j, hj with
  | 0, hj => cases hj; first | (go_simp; done) | (go_simp; rfl)
  | 1, hj => cases hj; first | (go_simp; done) | (go_simp; rfl)
  | 2, hj => cases hj; first | (go_simp; done) | (go_simp; rfl)
  | 3, hj => cases hj; first | (go_simp; done) | (go_simp; rfl)
  | j + 4, hj => simp at hj
theorem rats4_reads (W : World) (x0 x1 x2 x3 : S59) (a0 b0 c0 d0 a1 b1 c1 d1 a2 b2 c2 d2 a3 b3 c3 d3 : Value) (h0 : k59.K W x0 [a0, b0, c0, d0]) (h1 : k59.K W x1 [a1, b1, c1, d1]) (h2 : k59.K W x2 [a2, b2, c2, d2]) (h3 : k59.K W x3 [a3, b3, c3, d3]) :
    Kd.C k59 (W.alloc (.cells #[a0, b0, c0, d0, a1, b1, c1, d1, a2, b2, c2, d2, a3, b3, c3, d3] 59 (0, 0))) (some ⟨W.heap.size, 0, none⟩) 4 [x0, x1, x2, x3] := by
  have hb := below_alloc (Below.refl W.heap.size W) (.cells #[a0, b0, c0, d0, a1, b1, c1, d1, a2, b2, c2, d2, a3, b3, c3, d3] 59 (0, 0))
  refine ⟨rfl, by omega, fun _ => ⟨_, rfl, fun j p hj => ?_⟩⟩
  have key : ∀ (q : Nat) (cs : List Value), cs.length = 4 → (∀ i u, cs[i]? = some u → #[a0, b0, c0, d0, a1, b1, c1, d1, a2, b2, c2, d2, a3, b3, c3, d3][q * 4 + i]? = some u) → ∀ i u, cs[i]? = some u → (W.alloc (.cells #[a0, b0, c0, d0, a1, b1, c1, d1, a2, b2, c2, d2, a3, b3, c3, d3] 59 (0, 0))).cell? ((⟨W.heap.size, 0, none⟩ : Addr).add (q * 4 + i)) = some u := by
    intro q cs _ h i u hi
    rw [add_plain, World.cell?_alloc_new]
    exact h i u hi
  match j, hj with
  | 0, hj => cases hj; exact ⟨[a0, b0, c0, d0], rfl, k59.K_below hb h0, key 0 _ rfl (fun i u hi => by match i, hi with | 0, hi => exact hi | 1, hi => exact hi | 2, hi => exact hi | 3, hi => exact hi)⟩
  | 1, hj => cases hj; exact ⟨[a1, b1, c1, d1], rfl, k59.K_below hb h1, key 1 _ rfl (fun i u hi => by match i, hi with | 0, hi => exact hi | 1, hi => exact hi | 2, hi => exact hi | 3, hi => exact hi)⟩
  | 2, hj => cases hj; exact ⟨[a2, b2, c2, d2], rfl, k59.K_below hb h2, key 2 _ rfl (fun i u hi => by match i, hi with | 0, hi => exact hi | 1, hi => exact hi | 2, hi => exact hi | 3, hi => exact hi)⟩
  | 3, hj => cases hj; exact ⟨[a3, b3, c3, d3], rfl, k59.K_below hb h3, key 3 _ rfl (fun i u hi => by match i, hi with | 0, hi => exact hi | 1, hi => exact hi | 2, hi => exact hi | 3, hi => exact hi)⟩
  | j + 4, hj => simp at hj
theorem rows2_reads (W : World) (r0 r1 : List S59) (B0 B1 : Option Addr) (h0 : Kd.C k59 W B0 4 r0) (h1 : Kd.C k59 W B1 4 r1) :
    Kd.C (Kd.slice 59 k59) (W.alloc (.cells #[.slice B0 4 4, .slice B1 4 4] 62 (0, 0))) (some ⟨W.heap.size, 0, none⟩) 2 [r0, r1] := by
  have l0 : r0.length = 4 := h0.1
  have l1 : r1.length = 4 := h1.1
  refine ⟨rfl, by omega, fun _ => ⟨_, rfl, fun j p hj => ?_⟩⟩
  match j, hj with
  | 0, hj => cases hj; exact ⟨[.slice B0 4 4], rfl, ⟨B0, 4, by rw [l0], by omega, by rw [l0]; exact Kd.C_alloc h0 _⟩, fun i u hi => by match i, hi with | 0, hi => (cases hi; rw [add_plain, World.cell?_alloc_new]; rfl)⟩
  | 1, hj => cases hj; exact ⟨[.slice B1 4 4], rfl, ⟨B1, 4, by rw [l1], by omega, by rw [l1]; exact Kd.C_alloc h1 _⟩, fun i u hi => by match i, hi with | 0, hi => (cases hi; rw [add_plain, World.cell?_alloc_new]; rfl)⟩
  | j + 2, hj => simp at hj
def fluxionlaw19_alive.f : Option Bool := some true
set_option maxHeartbeats 8000000 in
set_option maxRecDepth 100000 in
theorem fluxionlaw19_alive.calls (r : Bool) (w : World) (h : fluxionlaw19_alive.f = some r) :
    Calls Try.prog 10 #[] w fun e w' => e = .returned (.bool r) ∧ Below w.heap.size w w' := by
  obtain rfl : true = r := Option.some.inj h
  clear h
  go_enter Try.func10, Try.ntmps10
  go_wp2_with fail
  refine (fluxionlaw19_sample.calls SAMPLE _ ev1).mono ?_
  rintro e w1 ⟨v1, rfl, hN1, hb1⟩
  obtain ⟨A1, c1, rfl, hl1, hC1⟩ := Kd.N_reads hN1
  have HB1 := Aside0.mk hb1
  clear hN1 hb1
  go_wp2_with fail
  refine (sparse_Colours.calls _ _ SAMPLE 4 _ _ _ hC1 hl1 ev2).mono ?_
  rintro e w2 ⟨v2, rfl, hR2, hb2⟩
  obtain ⟨A2, c2, rfl, hl2, hC2⟩ := Kd.R_reads hR2
  have HB2 := Aside0.mk (HB1.out.trans (hb2.mono HB1.out.size))
  have HC2 := Aside0.mk hC2
  have HL2 := Aside0.mk hl2
  clear hR2 hb2 HB1 hC1 hl1 hC2 hl2
  go_wp2_with fail
  refine (fluxionlaw19_sample.calls SAMPLE _ ev1).mono ?_
  rintro e w3 ⟨v3, rfl, hN3, hb3⟩
  obtain ⟨A3, c3, rfl, hl3, hC3⟩ := Kd.N_reads hN3
  have HB3 := Aside0.mk (HB2.out.trans (hb3.mono HB2.out.size))
  replace HC2 := Aside0.mk (Kd.C_below HC2.out hb3)
  clear hN3 hb3 HB2
  go_wp2_with fail
  refine (sparse_Widest.calls 20 _ _ SAMPLE 4 _ _ _ hC3 hl3 ev3).mono ?_
  rintro e w4 ⟨rfl, hb4⟩
  have HB4 := Aside0.mk (HB3.out.trans (hb4.mono HB3.out.size))
  replace HC2 := Aside0.mk (Kd.C_below HC2.out hb4)
  clear hb4 HB3 hC3 hl3
  go_wp2_with fail
  refine (sparse_Seeds.calls 40 _ _ [0, 1, 0, 1] _ _ _ (lit4_reads _ 0 1 0 1) (Nat.le_refl 4) ev7).mono ?_
  rintro e w5 ⟨v5, rfl, hN5, hb5⟩
  obtain ⟨A5, c5, rfl, hl5, hC5⟩ := Kd.N_reads hN5
  replace hb5 := (below_alloc (Below.refl _ _) _).trans (hb5.mono (by simp))
  have HB5 := Aside0.mk (HB4.out.trans (hb5.mono HB4.out.size))
  replace HC2 := Aside0.mk (Kd.C_below HC2.out hb5)
  have HC5 := Aside0.mk hC5
  have HL5 := Aside0.mk hl5
  clear hN5 hb5 HB4 hC5 hl5
  go_wp2_with fail
  refine (fluxionlaw19_sample.calls SAMPLE _ ev1).mono ?_
  rintro e w6 ⟨v6, rfl, hN6, hb6⟩
  obtain ⟨A6, c6, rfl, hl6, hC6⟩ := Kd.N_reads hN6
  have HB6 := Aside0.mk (HB5.out.trans (hb6.mono HB5.out.size))
  replace HC2 := Aside0.mk (Kd.C_below HC2.out hb6)
  replace HC5 := Aside0.mk (Kd.C_below HC5.out hb6)
  have HC6 := Aside0.mk hC6
  have HL6 := Aside0.mk hl6
  clear hN6 hb6 HB5 hC6 hl6
  go_wp2_with fail
  refine (sparse_Fits.calls _ _ SAMPLE 4 _ _ [0, 0, 1, 2] _ _ _ (Kd.C_alloc HC6.out _) HL6.out (lit4_reads _ 0 0 1 2) (Nat.le_refl 4) ev4).mono ?_
  rintro e w7 ⟨rfl, hb7⟩
  replace hb7 := (below_alloc (Below.refl _ _) _).trans (hb7.mono (by simp))
  have HB7 := Aside0.mk (HB6.out.trans (hb7.mono HB6.out.size))
  replace HC2 := Aside0.mk (Kd.C_below HC2.out hb7)
  replace HC5 := Aside0.mk (Kd.C_below HC5.out hb7)
  clear hb7 HB6 HC6 HL6
  go_wp2_with fail
  refine (fluxionref02_Of.calls 40 1 1 _ _ _ _ _ ev5).mono ?_
  rintro e w8 ⟨vn, vd, rfl, hn, hd, hb8⟩
  obtain ⟨An, cn, rfl, hln, hCn⟩ := Kd.R_reads hn
  obtain ⟨Ad, cd, rfl, hld, hCd⟩ := Kd.R_reads hd
  have HB8 := Aside0.mk (HB7.out.trans (hb8.mono HB7.out.size))
  replace HC2 := Aside0.mk (Kd.C_below HC2.out hb8)
  replace HC5 := Aside0.mk (Kd.C_below HC5.out hb8)
  have HCn := Aside0.mk hCn
  have HCd := Aside0.mk hCd
  have HLn := Aside0.mk hln
  have HLd := Aside0.mk hld
  clear hn hd hb8 HB7 hCn hCd hln hld
  go_wp2_with fail
  refine (fluxionref02_Of.calls 40 0 1 _ _ _ _ _ ev6).mono ?_
  rintro e w9 ⟨vn, vd, rfl, hn, hd, hb9⟩
  obtain ⟨Am, cm, rfl, hlm, hCm⟩ := Kd.R_reads hn
  obtain ⟨Ae, ce, rfl, hle, hCe⟩ := Kd.R_reads hd
  have HB9 := Aside0.mk (HB8.out.trans (hb9.mono HB8.out.size))
  replace HC2 := Aside0.mk (Kd.C_below HC2.out hb9)
  replace HC5 := Aside0.mk (Kd.C_below HC5.out hb9)
  replace HCn := Aside0.mk (Kd.C_below HCn.out hb9)
  replace HCd := Aside0.mk (Kd.C_below HCd.out hb9)
  have HCm := Aside0.mk hCm
  have HCe := Aside0.mk hCe
  have HLm := Aside0.mk hlm
  have HLe := Aside0.mk hle
  clear hn hd hb9 HB8 hCm hCe hlm hle
  go_wp2_with fail
  refine (fluxionref08_Ints.calls 20 _ _ [0, 1, 0, 1] _ _ [0, 1, 0, 1] true _ (Kd.C_alloc (Kd.C_alloc (Kd.C_alloc HC2.out _) _) _) HL2.out (by simpa using lit4_reads ((w9.alloc (.cells #[.int .i64 0, .bool false, .slice An 1 cn, .slice Ad 1 cd] 59 (0, 0))).alloc (.cells #[.int .i64 0, .bool false, .slice Am 0 cm, .slice Ae 1 ce] 59 (0, 0))) 0 1 0 1) (Nat.le_refl 4) ev8).mono ?_
  rintro e w10 ⟨rfl, ⟨nd, rfl⟩⟩
  go_wp2_with fail
  obtain ⟨W0, hW0⟩ : ∃ W0 : World, W0 = ((((w9.alloc (.cells #[.int .i64 0, .bool false, .slice An 1 cn, .slice Ad 1 cd] 59 (0, 0))).alloc (.cells #[.int .i64 0, .bool false, .slice Am 0 cm, .slice Ae 1 ce] 59 (0, 0))).alloc (.cells #[.int .i64 0, .int .i64 1, .int .i64 0, .int .i64 1] 3 (0, 0))).drewN nd) := ⟨_, rfl⟩
  have hsz : W0.heap.size = w9.heap.size + 1 + 1 + 1 := by rw [hW0]; simp
  have hB0 : Below w9.heap.size w9 W0 := by rw [hW0]; exact pw_below_drewN (below_alloc (below_alloc (below_alloc (Below.refl _ _) _) _) _) _
  have hone : k59.K W0 ⟨0, false, [1], [1]⟩ [.int .i64 0, .bool false, .slice An 1 cn, .slice Ad 1 cd] := k59_mk W0 ⟨0, false, [1], [1]⟩ HLn.out (Kd.C_below HCn.out hB0) HLd.out (Kd.C_below HCd.out hB0)
  have hzero : k59.K W0 ⟨0, false, [], [1]⟩ [.int .i64 0, .bool false, .slice Am 0 cm, .slice Ae 1 ce] := k59_mk W0 ⟨0, false, [], [1]⟩ HLm.out (Kd.C_below HCm.out hB0) HLe.out (Kd.C_below HCe.out hB0)
  rw [← hW0, ← hsz]
  have HBw : Aside0 (Below w.heap.size w W0) := ⟨HB9.out.trans (hB0.mono HB9.out.size)⟩
  have hC5 := Kd.C_below HC5.out hB0
  clear hB0 hsz HC2 HL2 HCn HCd HCm HCe HLn HLd HLm HLe HB9 HC5
  obtain ⟨R1, hR1⟩ : ∃ R1 : Array Value, R1 = #[.int .i64 0, .bool false, .slice An 1 cn, .slice Ad 1 cd, .int .i64 0, .bool false, .slice Am 0 cm, .slice Ae 1 ce, .int .i64 0, .bool false, .slice An 1 cn, .slice Ad 1 cd, .int .i64 0, .bool false, .slice Am 0 cm, .slice Ae 1 ce] := ⟨_, rfl⟩
  have h1 := rats4_reads W0 _ _ _ _ _ _ _ _ _ _ _ _ _ _ _ _ _ _ _ _ hone hzero hone hzero
  have hb1 := below_alloc (Below.refl W0.heap.size W0) (.cells R1 59 (0, 0))
  have h2 := rats4_reads (W0.alloc (.cells R1 59 (0, 0))) _ _ _ _ _ _ _ _ _ _ _ _ _ _ _ _ _ _ _ _ (k59.K_below hb1 hzero) (k59.K_below hb1 hone) (k59.K_below hb1 hzero) (k59.K_below hb1 hone)
  rw [← hR1] at h1
  rw [← hR1]
  clear hW0 hone hzero hR1
  obtain ⟨R2, hR2⟩ : ∃ R2 : Array Value, R2 = #[.int .i64 0, .bool false, .slice Am 0 cm, .slice Ae 1 ce, .int .i64 0, .bool false, .slice An 1 cn, .slice Ad 1 cd, .int .i64 0, .bool false, .slice Am 0 cm, .slice Ae 1 ce, .int .i64 0, .bool false, .slice An 1 cn, .slice Ad 1 cd] := ⟨_, rfl⟩
  rw [← hR2] at h2
  rw [← hR2]
  clear hR2
  have h3 := rows2_reads _ _ _ _ _ (Kd.C_alloc h1 (.cells R2 59 (0, 0))) h2
  simp only [World.size_alloc] at h3
  have hC5' := Kd.C_alloc (Kd.C_alloc (Kd.C_alloc hC5 (.cells R1 59 (0, 0))) (.cells R2 59 (0, 0))) (.cells #[.slice (some ⟨W0.heap.size, 0, none⟩) 4 4, .slice (some ⟨W0.heap.size + 1, 0, none⟩) 4 4] 62 (0, 0))
  refine (fluxionref14_Same.calls 40 _ _ _ _ _ _ true _ hC5' HL5.out h3 (Nat.le_refl 2) ev9).mono ?_
  rintro e w11 ⟨rfl, hb11⟩
  have HB11 := Aside0.mk (HBw.out.trans (((below_alloc (below_alloc (below_alloc (Below.refl W0.heap.size W0) _) _) _).trans (hb11.mono (by simp; omega))).mono HBw.out.size))
  clear hb11 h1 h2 h3 hC5 hC5' hb1
  go_wp2_with fail
  go_ret
  exact ⟨rfl, HB11.out⟩

/-! ### slices_Clone_int_int: function 46 -/
def slices_Clone_int_int.f (l0 : List Int) : Option (List Int) := if l0.length < 17592186044416 then some l0 else none
set_option maxHeartbeats 2000000 in
theorem slices_Clone_int_int.calls (A0 : Option Addr) (c0 : Nat) (l0 : List Int) (r : List Int) (w : World) (hr0 : Kd.C (Kd.int .i64) w A0 l0.length l0) (hc0 : l0.length ≤ c0) (h : slices_Clone_int_int.f l0 = some r) :
    Calls Try.prog 46 #[.slice A0 l0.length c0] w fun e w' => ∃ v0_ : Value, e = .returned (v0_) ∧ Kd.R (Kd.int .i64) 3 w' w.heap.size (fun _ => True) v0_ r ∧ Below w.heap.size w w' := by
  have HR0 := Aside0.mk hr0
  clear hc0
  unfold slices_Clone_int_int.f at h
  by_cases c1 : l0.length < 17592186044416
  · rw [if_pos c1] at h
    cases h
    have LM := Aside0.mk c1
    clear c1
    have HB := Aside0.mk (Below.refl w.heap.size w)
    cases A0 with
    | none =>
      have h0 : l0 = [] := by
        rcases l0 with _ | ⟨x, l⟩
        · rfl
        · obtain ⟨ad, e, _⟩ := hr0.2.2 (by simp)
          cases e
      subst h0
      clear hr0
      have hn := Lib.run_eql_slice_nil (P := Try.prog) (w := w) (t := 23) (e := 3) (a := none) (n := 0) (c := c0) (n' := 0) (c' := 0) Try.underlying23
      go_enter Try.func46, Try.ntmps46
      go_wp2_with fail
      go_ret
      exact ⟨_, rfl, Kd.R_nil _ _ _ _ _, Below.refl _ _⟩
    | some ad =>
      clear hr0
      have hn := Lib.run_eql_slice_nil (P := Try.prog) (w := w) (t := 23) (e := 3) (a := some ad) (n := l0.length) (c := c0) (n' := 0) (c' := 0) Try.underlying23
      go_enter Try.func46, Try.ntmps46
      go_wp2_with (first
        | ((with_reducible refine gate_dst (N := 5) rfl ?_); refine Kd.R_lit (Kd.int .i64) _ 3 ?hg (N := 5) ?hd (xs := ([] : List Int)) (inner := []) (ok := fun _ => True) (okp := fun _ => True) ?hr ?hp (fun _ hk => hk) trivial (Below.refl _ _) (Nat.le_refl _) (by simp) ?_; (case hd => rfl); (case hg => rfl); (case hr => first | (go_simp; done) | (go_simp; rfl)); (case hp => exact (Reps.none _ _)); intro v1 w1 ho hb _ _; have HO := Aside0.mk ho; have HB := Aside0.mk hb; clear ho hb)
        | ((with_reducible refine gate_builtin (b := .append) (xs := #[.tmp 5, .tmp 6]) rfl ?_); at_builtin; refine Kd.R_append_rows (Kd.int .i64) (w0 := w) w.heap.size rfl (.tmp 5) (.tmp 6) 23 3 (.int .i64 0) 8 rfl Try.underlying23 info3 rfl (by decide) (by omega) v1 ([] : List Int) l0 _ _ _ (fun _ => True) (fun _ => False) rfl rfl ?aO ?aR (fun _ _ h => h) (fun _ h => h.elim) ?aF ?aB ?aS ?aL ?_; (case aR => exact Kd.C_below HR0.out HB.out); (case aB => exact HB.out); (case aF => exact (fun _ _ => trivial)); (case aO => exact HO.out); (case aS => exact HB.out.size); (case aL => have := LM.out; simp only [List.length_nil]; omega); intro v2 w2 ho hb _ _; have HO2 := Aside0.mk ho; have HB2 := Aside0.mk hb; clear ho hb))
      go_ret
      exact ⟨_, rfl, HO2.out, HB2.out⟩
  · rw [if_neg c1] at h
    cases h

end Go.Proofs.Ytjjbondlcjnaiaa.PSparseMany
