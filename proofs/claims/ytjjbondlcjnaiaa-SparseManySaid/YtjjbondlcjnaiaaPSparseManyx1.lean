-- written by a program of this session, after the kit's print
import Derived.Test.YtjjbondlcjnaiaaPSparseManyx0
namespace Go.Proofs.Ytjjbondlcjnaiaa.PSparseMany
open Go.RowKit Go.Proofs.YtjjbondlcjnaiaaW.PrintWords Go.Proofs.YtjjbondlcjnaiaaW.PrintLast Go.Proofs.YtjjbondlcjnaiaaW.PrintMore
attribute [local go_sem] max2_int min2_int max_two min_two max_three min_three max_four min_four   -- for this text's walks alone
set_option linter.unusedVariables false
set_option linter.unusedSimpArgs false

/-! ### slices_ContainsFunc_bool_bool: function 35 -/
set_option maxHeartbeats 2000000 in
theorem IndexFunc_LBool.calls (A0 : Option Addr) (c0 : Nat) (l0 : List (List Bool)) (w : World) (g : Nat) (lb : Array Value) (p : List Bool → Bool)
    (eg : ∀ args w, (callFunc g args).run Try.prog w = .ok (.enter g args) w)
    (hr0 : Kd.C (Kd.slice 4 Kd.bool) w A0 l0.length l0)
    (hp : ∀ (W : World) (x : List Bool) (v : Value), Below w.heap.size w W → Kd.K (Kd.slice 4 Kd.bool) W x [v] → x ∈ l0 → FnAny g lb v (p x) W) :
    Calls Try.prog 47 #[.slice A0 l0.length c0, .func (.func g) #[] lb] w fun e w' => (∃ i : Int, e = .returned (.int .i64 i) ∧ (decide (0 ≤ i) = l0.any p)) ∧ Below w.heap.size w w' := by
  have HR := Aside0.mk hr0
  have HP := Aside0.mk hp
  have hn : l0.length ≤ 9223372036854775807 := hr0.2.1
  clear hr0 hp
  go_enter Try.func47, Try.ntmps47
  go_wp2
  go_loopg [5, 8] l0.length (fun gg _ s8 wr => ∃ kk : Nat, kk ≤ l0.length ∧ l0.length - kk ≤ gg ∧ s8 = .int .i64 kk ∧ Aside0 (Below w.heap.size w wr) ∧ Aside0 (∀ x, x ∈ l0.take kk → p x = false))
  case atStart => exact ⟨0, Nat.zero_le _, by omega, rfl, ⟨Below.refl _ _⟩, ⟨by simp⟩⟩
  case round =>
    obtain ⟨kk, hkk, hg, rfl, HB, HA⟩ := hrel
    by_cases hlt : kk < l0.length
    · have hltz : (kk : Int) < (l0.length : Int) := by omega
      obtain ⟨ad, c, e0, hc1, hK, hc0'⟩ := Kd.C_get (Kd.C_below HR.out HB.out) ([] : List Bool) (kk : Int) (by omega) (by omega)
      subst e0
      obtain ⟨v, rfl⟩ : ∃ v, c = [v] := by
        match c, (show c.length = 1 from hc1) with
        | [v], _ => exact ⟨v, rfl⟩
      have hcell : wr.cell? (ad.add kk) = some v := by
        have := hc0' 0 v rfl
        rw [show (Kd.slice 4 Kd.bool).sz = 1 from rfl] at this
        simpa using this
      have hx : l0.getD (Int.toNat kk) ([] : List Bool) = l0[kk] := by simp [hlt]
      rw [hx] at hK
      have hcall := HP.out wr l0[kk] v HB.out hK (List.getElem_mem _)
      unfold FnAny at hcall
      have HC := Aside0.mk hcall
      clear hcall hc0' hK hx hc1
      obtain ⟨b, hqq⟩ : ∃ b, p l0[kk] = b := ⟨_, rfl⟩
      rw [hqq] at HC
      have Hqq := Aside0.mk hqq
      clear hqq
      cases b with
      | true =>
        go_wp2_with fail
        refine HC.out.mono ?_
        rintro e w' ⟨rfl, hb⟩
        go_wp2_with fail
        go_ret
        refine ⟨⟨_, rfl, ?_⟩, HB.out.trans (hb.mono HB.out.size)⟩
        rw [show decide (0 ≤ (kk : Int)) = true from by simp]
        exact (List.any_eq_true.2 ⟨l0[kk], List.getElem_mem _, Hqq.out⟩).symm
      | false =>
        go_wp2_with fail
        refine HC.out.mono ?_
        rintro e w' ⟨rfl, hb⟩
        go_wp2_with fail
        go_roundg (l0.length - (kk + 1))
        case measure => omega
        case rel =>
          refine ⟨kk + 1, by omega, by omega, by go_num, ⟨HB.out.trans (hb.mono HB.out.size)⟩, ⟨fun x hx => ?_⟩⟩
          rw [List.take_succ_eq_append_getElem hlt, List.mem_append] at hx
          rcases hx with hx | hx
          · exact HA.out x hx
          · rw [List.mem_singleton.1 hx]; exact Hqq.out
    · have hltz : ¬ (kk : Int) < (l0.length : Int) := by omega
      have : kk = l0.length := by omega
      subst this
      go_wp2
      go_ret
      refine ⟨⟨_, rfl, ?_⟩, HB.out⟩
      rw [List.take_length] at HA
      rw [show decide ((0 : Int) ≤ -1) = false from rfl]
      exact (List.any_eq_false.2 (fun x hx => by rw [HA.out x hx]; decide)).symm
set_option maxHeartbeats 2000000 in
theorem ContainsFunc_LBool.calls (A0 : Option Addr) (c0 : Nat) (l0 : List (List Bool)) (w : World) (g : Nat) (lb : Array Value) (p : List Bool → Bool)
    (eg : ∀ args w, (callFunc g args).run Try.prog w = .ok (.enter g args) w)
    (hr0 : Kd.C (Kd.slice 4 Kd.bool) w A0 l0.length l0)
    (hp : ∀ (W : World) (x : List Bool) (v : Value), Below w.heap.size w W → Kd.K (Kd.slice 4 Kd.bool) W x [v] → x ∈ l0 → FnAny g lb v (p x) W) :
    Calls Try.prog 35 #[.slice A0 l0.length c0, .func (.func g) #[] lb] w fun e w' => e = .returned (.bool (l0.any p)) ∧ Below w.heap.size w w' := by
  have HX := Aside0.mk (IndexFunc_LBool.calls A0 c0 l0 w g lb p eg hr0 hp)
  clear eg hr0 hp
  go_enter Try.func35, Try.ntmps35
  go_wp2_with fail
  refine HX.out.mono ?_
  rintro e w' ⟨⟨i, rfl, hi⟩, hb⟩
  have Hi := Aside0.mk hi
  clear hi HX
  go_wp2_with fail
  go_ret
  exact ⟨by rw [← Hi.out]; rfl, hb⟩

/-! ### sparse_form: function 24 -/
theorem sparse_form.enters : ∀ args w, (callFunc 36 args).run Try.prog w = .ok (.enter 36 args) w := enters_of Try.func36 (by kernel_rfl) rfl
set_option maxHeartbeats 2000000 in
theorem sparse_form.lit (n : Int) (B : Addr) (W : World) (hB : W.cell? B = some (.int .i64 n)) (A : Option Addr) (c : Nat) (x : List Bool) : FnAny 36 #[.pointer (some B)] (.slice A x.length c) (decide (¬ (x.length : Int) = n)) W := by
  unfold FnAny
  go_enter Try.func36, Try.ntmps36
  go_wp2_with fail
  go_ret
  exact ⟨by rw [decide_not]; rfl, Below.refl _ _⟩
def sparse_form.f (l0 : List (List Bool)) (a1 : Int) : Option Int :=
  if (l0.length : Int) > 4096 then some 3 else if a1 < 0 then some 2 else if a1 > 4096 then some 2 else if l0.any (fun x => decide (¬ (x.length : Int) = a1)) = true then some 2 else some 0
set_option maxHeartbeats 2000000 in
theorem sparse_form.calls (A0 : Option Addr) (c0 : Nat) (l0 : List (List Bool)) (a1 : Int) (r : Int) (w : World) (hr0 : Kd.C (Kd.slice 4 Kd.bool) w A0 l0.length l0) (hc0 : l0.length ≤ c0) (h : sparse_form.f l0 a1 = some r) :
    Calls Try.prog 24 #[.slice A0 l0.length c0, .int .i64 a1] w fun e w' => e = .returned (.int .i64 r) ∧ Below w.heap.size w w' := by
  have HR := Aside0.mk hr0
  clear hr0 hc0
  unfold sparse_form.f at h
  by_cases h1 : (l0.length : Int) > 4096
  · rw [if_pos h1] at h
    cases h
    go_enter Try.func24, Try.ntmps24
    go_wp2_with fail
    go_ret
    exact ⟨rfl, by repeat (first | exact Below.refl _ _ | apply below_alloc | apply pw_below_drewN | apply below_drew1)⟩
  · rw [if_neg h1] at h
    by_cases h2 : a1 < 0
    · rw [if_pos h2] at h
      cases h
      go_enter Try.func24, Try.ntmps24
      go_wp2_with fail
      go_ret
      exact ⟨rfl, by repeat (first | exact Below.refl _ _ | apply below_alloc | apply pw_below_drewN | apply below_drew1)⟩
    · rw [if_neg h2] at h
      by_cases h3 : a1 > 4096
      · rw [if_pos h3] at h
        cases h
        go_enter Try.func24, Try.ntmps24
        go_wp2_with fail
        go_ret
        exact ⟨rfl, by repeat (first | exact Below.refl _ _ | apply below_alloc | apply pw_below_drewN | apply below_drew1)⟩
      · rw [if_neg h3] at h
        obtain ⟨b, hb⟩ : ∃ b, l0.any (fun x => decide (¬ (x.length : Int) = a1)) = b := ⟨_, rfl⟩
        rw [hb] at h
        have HB := Aside0.mk hb
        clear hb
        have HP : ∀ W : World, Below (w.alloc (.cells #[.int .i64 a1] 3 (0, 0))).heap.size (w.alloc (.cells #[.int .i64 a1] 3 (0, 0))) W → W.cell? ⟨w.heap.size, 0, none⟩ = some (.int .i64 a1) :=
          fun W hW => (hW.cell (p := ⟨w.heap.size, 0, none⟩) (by simp)).trans (by go_simp)
        have HP := Aside0.mk HP
        cases b
        all_goals
          cases h
          go_enter Try.func24, Try.ntmps24
          go_wp2_with fail
          refine (ContainsFunc_LBool.calls A0 c0 l0 _ 36 _ _ sparse_form.enters (Kd.C_alloc HR.out _) (fun W x v hW hK _ => by obtain ⟨A, c, hv, _⟩ := hK; cases hv; exact sparse_form.lit a1 _ W (HP.out W hW) A c x)).mono ?_
          rintro e w' ⟨rfl, hb⟩
          rw [HB.out]
          go_wp2_with fail
          go_ret
          exact ⟨rfl, (below_alloc (Below.refl _ _) _).trans (hb.mono (by simp))⟩

/-! ### slices_ContainsFunc_int_int: function 37 -/
set_option maxHeartbeats 2000000 in
theorem IndexFunc_Int.calls (A0 : Option Addr) (c0 : Nat) (l0 : List (Int)) (w : World) (g : Nat) (lb : Array Value) (p : Int → Bool)
    (eg : ∀ args w, (callFunc g args).run Try.prog w = .ok (.enter g args) w)
    (hr0 : Kd.C (Kd.int .i64) w A0 l0.length l0)
    (hp : ∀ (W : World) (x : Int) (v : Value), Below w.heap.size w W → Kd.K (Kd.int .i64) W x [v] → x ∈ l0 → FnAny g lb v (p x) W) :
    Calls Try.prog 48 #[.slice A0 l0.length c0, .func (.func g) #[] lb] w fun e w' => (∃ i : Int, e = .returned (.int .i64 i) ∧ (decide (0 ≤ i) = l0.any p)) ∧ Below w.heap.size w w' := by
  have HR := Aside0.mk hr0
  have HP := Aside0.mk hp
  have hn : l0.length ≤ 9223372036854775807 := hr0.2.1
  clear hr0 hp
  go_enter Try.func48, Try.ntmps48
  go_wp2
  go_loopg [5, 8] l0.length (fun gg _ s8 wr => ∃ kk : Nat, kk ≤ l0.length ∧ l0.length - kk ≤ gg ∧ s8 = .int .i64 kk ∧ Aside0 (Below w.heap.size w wr) ∧ Aside0 (∀ x, x ∈ l0.take kk → p x = false))
  case atStart => exact ⟨0, Nat.zero_le _, by omega, rfl, ⟨Below.refl _ _⟩, ⟨by simp⟩⟩
  case round =>
    obtain ⟨kk, hkk, hg, rfl, HB, HA⟩ := hrel
    by_cases hlt : kk < l0.length
    · have hltz : (kk : Int) < (l0.length : Int) := by omega
      obtain ⟨ad, c, e0, hc1, hK, hc0'⟩ := Kd.C_get (Kd.C_below HR.out HB.out) (0 : Int) (kk : Int) (by omega) (by omega)
      subst e0
      obtain ⟨v, rfl⟩ : ∃ v, c = [v] := by
        match c, (show c.length = 1 from hc1) with
        | [v], _ => exact ⟨v, rfl⟩
      have hcell : wr.cell? (ad.add kk) = some v := by
        have := hc0' 0 v rfl
        rw [show (Kd.int .i64).sz = 1 from rfl] at this
        simpa using this
      have hx : l0.getD (Int.toNat kk) (0 : Int) = l0[kk] := by simp [hlt]
      rw [hx] at hK
      have hcall := HP.out wr l0[kk] v HB.out hK (List.getElem_mem _)
      unfold FnAny at hcall
      have HC := Aside0.mk hcall
      clear hcall hc0' hK hx hc1
      obtain ⟨b, hqq⟩ : ∃ b, p l0[kk] = b := ⟨_, rfl⟩
      rw [hqq] at HC
      have Hqq := Aside0.mk hqq
      clear hqq
      cases b with
      | true =>
        go_wp2_with fail
        refine HC.out.mono ?_
        rintro e w' ⟨rfl, hb⟩
        go_wp2_with fail
        go_ret
        refine ⟨⟨_, rfl, ?_⟩, HB.out.trans (hb.mono HB.out.size)⟩
        rw [show decide (0 ≤ (kk : Int)) = true from by simp]
        exact (List.any_eq_true.2 ⟨l0[kk], List.getElem_mem _, Hqq.out⟩).symm
      | false =>
        go_wp2_with fail
        refine HC.out.mono ?_
        rintro e w' ⟨rfl, hb⟩
        go_wp2_with fail
        go_roundg (l0.length - (kk + 1))
        case measure => omega
        case rel =>
          refine ⟨kk + 1, by omega, by omega, by go_num, ⟨HB.out.trans (hb.mono HB.out.size)⟩, ⟨fun x hx => ?_⟩⟩
          rw [List.take_succ_eq_append_getElem hlt, List.mem_append] at hx
          rcases hx with hx | hx
          · exact HA.out x hx
          · rw [List.mem_singleton.1 hx]; exact Hqq.out
    · have hltz : ¬ (kk : Int) < (l0.length : Int) := by omega
      have : kk = l0.length := by omega
      subst this
      go_wp2
      go_ret
      refine ⟨⟨_, rfl, ?_⟩, HB.out⟩
      rw [List.take_length] at HA
      rw [show decide ((0 : Int) ≤ -1) = false from rfl]
      exact (List.any_eq_false.2 (fun x hx => by rw [HA.out x hx]; decide)).symm
set_option maxHeartbeats 2000000 in
theorem ContainsFunc_Int.calls (A0 : Option Addr) (c0 : Nat) (l0 : List (Int)) (w : World) (g : Nat) (lb : Array Value) (p : Int → Bool)
    (eg : ∀ args w, (callFunc g args).run Try.prog w = .ok (.enter g args) w)
    (hr0 : Kd.C (Kd.int .i64) w A0 l0.length l0)
    (hp : ∀ (W : World) (x : Int) (v : Value), Below w.heap.size w W → Kd.K (Kd.int .i64) W x [v] → x ∈ l0 → FnAny g lb v (p x) W) :
    Calls Try.prog 37 #[.slice A0 l0.length c0, .func (.func g) #[] lb] w fun e w' => e = .returned (.bool (l0.any p)) ∧ Below w.heap.size w w' := by
  have HX := Aside0.mk (IndexFunc_Int.calls A0 c0 l0 w g lb p eg hr0 hp)
  clear eg hr0 hp
  go_enter Try.func37, Try.ntmps37
  go_wp2_with fail
  refine HX.out.mono ?_
  rintro e w' ⟨⟨i, rfl, hi⟩, hb⟩
  have Hi := Aside0.mk hi
  clear hi HX
  go_wp2_with fail
  go_ret
  exact ⟨by rw [← Hi.out]; rfl, hb⟩

/-! ### sparse_painted: function 25 -/
theorem sparse_painted.enters : ∀ args w, (callFunc 38 args).run Try.prog w = .ok (.enter 38 args) w := enters_of Try.func38 (by kernel_rfl) rfl
set_option maxHeartbeats 2000000 in
theorem sparse_painted.lit (W : World) (x : Int) : FnAny 38 #[] (.int .i64 x) (decide (x < 0)) W := by
  unfold FnAny
  go_enter Try.func38, Try.ntmps38
  go_wp2_with fail
  go_ret
  exact ⟨rfl, Below.refl _ _⟩
def sparse_painted.f (a0 : Int) (l1 : List Int) : Option Int := if ¬ (l1.length : Int) = a0 then some 2 else if l1.any (fun x => decide (x < 0)) = true then some 2 else some 0
set_option maxHeartbeats 2000000 in
theorem sparse_painted.calls (a0 : Int) (A1 : Option Addr) (c1 : Nat) (l1 : List Int) (r : Int) (w : World) (hr1 : Kd.C (Kd.int .i64) w A1 l1.length l1) (hc1 : l1.length ≤ c1) (h : sparse_painted.f a0 l1 = some r) :
    Calls Try.prog 25 #[.int .i64 a0, .slice A1 l1.length c1] w fun e w' => e = .returned (.int .i64 r) ∧ Below w.heap.size w w' := by
  have HR := Aside0.mk hr1
  clear hr1 hc1
  unfold sparse_painted.f at h
  by_cases h1 : ¬ (l1.length : Int) = a0
  · rw [if_pos h1] at h
    cases h
    have hd : ((l1.length : Int) != a0) = true := bne_iff_ne.2 h1
    clear h1
    go_enter Try.func25, Try.ntmps25
    go_wp2_with fail
    go_ret
    exact ⟨rfl, by repeat (first | exact Below.refl _ _ | apply below_alloc | apply pw_below_drewN | apply below_drew1)⟩
  · rw [if_neg h1] at h
    have hd : ((l1.length : Int) != a0) = false := bne_eq_false_iff_eq.2 (Decidable.of_not_not h1)
    clear h1
    obtain ⟨b, hb⟩ : ∃ b, l1.any (fun x => decide (x < 0)) = b := ⟨_, rfl⟩
    rw [hb] at h
    have HB := Aside0.mk hb
    clear hb
    cases b
    all_goals
      cases h
      go_enter Try.func25, Try.ntmps25
      go_wp2_with fail
      refine (ContainsFunc_Int.calls A1 c1 l1 _ 38 _ _ sparse_painted.enters HR.out (fun W x v hW hK _ => by cases hK; exact sparse_painted.lit W x)).mono ?_
      rintro e w' ⟨rfl, hb⟩
      rw [HB.out]
      go_wp2_with fail
      go_ret
      exact ⟨rfl, hb⟩

/-! ### sparse_fits: function 26 -/
section
open Go.Maps
theorem intset_inv {P : Program} {e : TypeId} (he : P.underlying e = some .bool) {v : Value} {c : Bool} {ps : List MemPlace} (h : plainElem (H := Unit) P e v = some (.lit (.bool c), ps)) : v = .bool c := by
  unfold plainElem at h
  rw [he] at h
  cases v <;> simp at h
  rw [h.1]
def IntSet (w : World) (b n : Nat) (f : Int → Bool) : Prop := ∃ D : DataW Unit, w.ownsMap Try.prog 3 (plainElem Try.prog 4) b n D ∧ Maps.IsMap D ∧ ∀ x, D.atKey (.int .i64 x) (.lit (.bool false)) = .lit (.bool (f x))
section
variable {w w1 : World} {b n : Nat} {f g : Int → Bool}
theorem IntSet.congr (h : IntSet w b n f) (hf : ∀ x, f x = g x) : IntSet w b n g := by
  obtain ⟨D, h1, h2, h3⟩ := h
  exact ⟨D, h1, h2, fun x => by rw [← hf]; exact h3 x⟩
theorem IntSet.made (w : World) : IntSet (w.alloc (.map #[] 0)) w.heap.size 0 (fun _ => false) := ⟨.map [], World.ownsMap_made _ _ _ _, ⟨[], rfl⟩, fun x => by simp [DataW.atKey]⟩
theorem IntSet.mono (h : IntSet w b n f) {m : Nat} (hm : n ≤ m) : IntSet w b m f := by
  obtain ⟨D, h1, h2⟩ := h
  exact ⟨D, h1.mono hm, h2⟩
theorem IntSet.alloc (h : IntSet w b n f) (o : Obj) : IntSet (w.alloc o) b n f := by
  obtain ⟨D, h1, h2⟩ := h
  exact ⟨D, h1.alloc o, h2⟩
theorem IntSet.lt (h : IntSet w b n f) : b < w.heap.size := by
  obtain ⟨D, h1, h2⟩ := h
  exact h1.lt
theorem IntSet.kept (h : IntSet w b n f) (hh : w1.heap[b]? = w.heap[b]?) : IntSet w1 b n f := by
  obtain ⟨D, ⟨es, cl, hb, r⟩, h2⟩ := h
  exact ⟨D, ⟨es, cl, hh.trans hb, r⟩, h2⟩
theorem IntSet.look (h : IntSet w b n f) (x : Int) (hx : (Lit.int .i64 x).wf = true) : (Instr.lookup 71 (.map (some b)) (.int .i64 x) false).run Try.prog w = .ok (.bool (f x)) w := by
  obtain ⟨D, h1, h2, h3⟩ := h
  obtain ⟨v, ps, hr, hv⟩ := h1.lookup (t := 71) (e := 4) (Maps.int_keyed Try.underlying3) Try.underlying71 (z := .bool false) (by kernel_rfl) (plainElem_bool Try.underlying4 false) (key := .int .i64 x) (keyOf_int_mk Try.underlying3 hx)
  rw [h3] at hv
  rw [hr, intset_inv Try.underlying4 hv]
theorem IntSet.put (h : IntSet w b n f) (hn : n < maxLen) (x : Int) (hx : (Lit.int .i64 x).wf = true) (c : Bool) : ∃ w', (Instr.mapUpdate 71 (.map (some b)) (.int .i64 x) (.bool c)).run Try.prog w = .ok () w' ∧ IntSet w' b (n + 1) (fun y => if y = x then c else f y) ∧ w.grownBy w' (some b) := by
  obtain ⟨D, h1, h2, h3⟩ := h
  obtain ⟨w', hr, ho, hg⟩ := h1.update (t := 71) (e := 4) (Maps.int_keyed Try.underlying3) Try.underlying71 hn (key := .int .i64 x) (val := .bool c) (keyOf_int_mk Try.underlying3 hx) (plainElem_bool Try.underlying4 c)
  refine ⟨w', hr, ⟨_, ho, h2.put _ _, fun y => ?_⟩, hg⟩
  by_cases e : y = x
  · subst e
    show _ = DataW.lit (Lit.bool (if y = y then c else f y))
    rw [if_pos rfl]
    exact Maps.atKey_put_same h2 ((Maps.int_keyed (P := Try.prog) Try.underlying3).key (keyOf_int_mk Try.underlying3 hx)) _ _
  · show _ = DataW.lit (Lit.bool (if y = x then c else f y))
    rw [if_neg e, Maps.atKey_put_other (by simpa using e)]
    exact h3 y
end
theorem wpList_intset_put (w : World) {ops : Array Oper} {rest : List Oper} {o : Oper} {a : Act} {Q : Exit → Act → World → Prop}
    (hg : o.guard = none) (m x v : Operand) (hop : o.op = Op.mapUpdate 71 m x v) (b n : Nat) (f : Int → Bool)
    (hm : a.eval m = .map (some b)) (hs : IntSet w b n f) (hn : n < maxLen) (k : Int) (c : Bool) (hx : a.eval x = .int .i64 k) (hv : a.eval v = .bool c) (hk : (Lit.int .i64 k).wf = true)
    (hK : ∀ w', IntSet w' b (n + 1) (fun y => if y = k then c else f y) → w.grownBy w' (some b) → wpList Try.prog ops Q rest (a.put o.dst undef) w') :
    wpList Try.prog ops Q (o :: rest) a w := by
  refine wpList_plain hg fun K' hK' => ?_
  obtain ⟨w', hrun, r1, r2⟩ := hs.put hn k hk c
  unfold Oper.wp
  simp [execOp, hop, hm, hx, hv, hrun, Result.andThen]
  exact hK' _ _ (hK w' r1 r2)
def seenAt (row : List Bool) (cs : List Int) (k : Nat) (x : Int) : Bool := (List.range k).any fun j => row.getD j false && (cs.getD j 0 == x)
def fitAt (row : List Bool) (cs : List Int) (k : Nat) : Bool := !(row.getD k false && seenAt row cs k (cs.getD k 0))
def fitRow (row : List Bool) (cs : List Int) : Bool := (List.range row.length).all (fitAt row cs)
def wfInts (cs : List Int) : Bool := cs.all fun c => decide (-9223372036854775808 ≤ c) && decide (c ≤ 9223372036854775807)
def sparse_fits.f (l0 : List (List Bool)) (l1 : List Int) : Option Bool := if (wfInts l1 && l0.all (fun row => decide (row.length ≤ l1.length))) = true then some (l0.all fun row => fitRow row l1) else none
theorem seenAt_succ (row : List Bool) (cs : List Int) (k : Nat) (x : Int) : seenAt row cs (k + 1) x = (seenAt row cs k x || (row.getD k false && (cs.getD k 0 == x))) := by
  unfold seenAt
  rw [List.range_succ, List.any_append, List.any_cons, List.any_nil, Bool.or_false]
theorem wfInts_at {cs : List Int} (h : wfInts cs = true) {k : Nat} (hk : k < cs.length) : (Lit.int .i64 (cs.getD k 0)).wf = true := by
  have h1 := List.all_eq_true.1 h cs[k] (List.getElem_mem _)
  simp only [Bool.and_eq_true, decide_eq_true_eq] at h1
  have e : cs.getD k 0 = cs[k] := by simp [hk]
  rw [e]
  exact WalkArith.wf_i64 h1
set_option maxHeartbeats 4000000 in
set_option maxRecDepth 100000 in
theorem sparse_fits.calls (A0 : Option Addr) (c0 : Nat) (l0 : List (List Bool)) (A1 : Option Addr) (c1 : Nat) (l1 : List Int) (r : Bool) (w : World) (hr0 : Kd.C (Kd.slice 4 Kd.bool) w A0 l0.length l0) (hc0 : l0.length ≤ c0) (hr1 : Kd.C (Kd.int .i64) w A1 l1.length l1) (hc1 : l1.length ≤ c1) (h : sparse_fits.f l0 l1 = some r) :
    Calls Try.prog 26 #[.slice A0 l0.length c0, .slice A1 l1.length c1] w fun e w' => e = .returned (.bool r) ∧ Below w.heap.size w w' := by
  have HR0 := Aside0.mk hr0
  have HR1 := Aside0.mk hr1
  have hn0 : l0.length ≤ 9223372036854775807 := hr0.2.1
  have hn1 : l1.length ≤ 9223372036854775807 := hr1.2.1
  clear hr0 hr1 hc0 hc1
  unfold sparse_fits.f at h
  split at h
  case isFalse => cases h
  case isTrue hok =>
  rw [Bool.and_eq_true] at hok
  have HW := Aside0.mk hok.1
  have HL := Aside0.mk (List.all_eq_true.1 hok.2)
  have HR := Aside0.mk (Option.some.inj h)
  clear hok h
  have hmm := @run_makeMap Try.prog
  go_enter Try.func26, Try.ntmps26
  go_wp2
  go_loopg [12] l0.length (fun gg s12 wr => ∃ i : Nat, i ≤ l0.length ∧ l0.length - i ≤ gg ∧ s12 = .int .i64 i ∧ Aside0 (Below w.heap.size w wr) ∧ Aside0 (∀ x, x ∈ l0.take i → fitRow x l1 = true))
  case atStart => exact ⟨0, Nat.zero_le _, by omega, rfl, ⟨Below.refl _ _⟩, ⟨by simp⟩⟩
  case round =>
    obtain ⟨i, hi, hg, rfl, HB, HA⟩ := hrel
    by_cases hlt : i < l0.length
    · have hltz : (i : Int) < (l0.length : Int) := by omega
      obtain ⟨ad, c, e0, hcl, hK, hc0'⟩ := Kd.C_get (Kd.C_below HR0.out HB.out) ([] : List Bool) (i : Int) (by omega) (by omega)
      subst e0
      obtain ⟨A2, c2, rfl, hl2, hr2⟩ := hK
      have hx : l0.getD (Int.toNat i) [] = l0[i] := by simp [hlt]
      rw [hx] at hc0' hl2 hr2
      have hcell : wr.cell? (ad.add i) = some (.slice A2 l0[i].length c2) := by
        have := hc0' 0 _ rfl
        simpa [Kd.slice] using this
      have HR2 := Aside0.mk hr2
      have hn2 : l0[i].length ≤ 9223372036854775807 := hr2.2.1
      have hlen : l0[i].length ≤ l1.length := of_decide_eq_true (HL.out l0[i] (List.getElem_mem _))
      obtain ⟨row, hrow⟩ : ∃ row, row = l0[i] := ⟨_, rfl⟩
      rw [← hrow] at hcell HR2 hn2 hlen
      have Hrow := Aside0.mk hrow
      clear hc0' hl2 hr2 hx hcl hrow
      have HC := Aside0.mk hcell
      obtain ⟨wo, hwo⟩ : ∃ wo : World, wo = wr := ⟨_, rfl⟩
      subst hwo
      go_wp2_with fail
      go_loopg [19] row.length (fun gg s19 w' => ∃ k : Nat, k ≤ row.length ∧ row.length - k ≤ gg ∧ s19 = .int .i64 k ∧ Aside0 (Below wo.heap.size wo w') ∧ Aside0 (IntSet w' wo.heap.size k (seenAt row l1 k)) ∧ Aside0 (∀ j, j < k → fitAt row l1 j = true))
      case atStart => exact ⟨0, Nat.zero_le _, by omega, rfl, ⟨(Below.refl _ _).alloc (Nat.le_refl _) _⟩, ⟨(IntSet.made wo).congr (fun x => rfl)⟩, ⟨fun j hj => absurd hj (by omega)⟩⟩
      case round =>
        obtain ⟨k, hk, hg2, rfl, HB2, HS, HF⟩ := hrel
        by_cases hkt : k < row.length
        · have hktz : (k : Int) < (row.length : Int) := by omega
          have hkl : k < l1.length := by omega
          have hklz : (k : Int) < (l1.length : Int) := by omega
          have hBw : Below w.heap.size w wr := HB.out.trans (HB2.out.mono HB.out.size)
          obtain ⟨ad2, e2, hx2⟩ := Kd.at_bool (Kd.C_below HR2.out HB2.out) (k : Int) (by omega) (by omega)
          obtain ⟨ad3, e3, hx3⟩ := Kd.at_int (Kd.C_below HR1.out hBw) (k : Int) (by omega) (by omega)
          subst e2 e3
          simp only [rd, rdOf, Int.toNat_natCast] at hx2 hx3
          have hwf := wfInts_at HW.out hkl
          have hss := seenAt_succ row l1 k
          have hfa : fitAt row l1 k = !(row.getD k false && seenAt row l1 k (l1.getD k 0)) := rfl
          obtain ⟨ck, hck⟩ : ∃ ck, ck = l1.getD k 0 := ⟨_, rfl⟩
          rw [← hck] at hx3 hwf hfa hss
          obtain ⟨bk, hbk⟩ : ∃ bk, bk = row.getD k false := ⟨_, rfl⟩
          rw [← hbk] at hx2 hfa hss
          have hlook := IntSet.look HS.out ck hwf
          have Hfa := Aside0.mk hfa
          have Hss := Aside0.mk hss
          have Hwf := Aside0.mk hwf
          clear hss hfa hck hbk hwf
          cases bk with
          | false =>
            clear hlook
            go_wp2_with fail
            go_roundg (row.length - (k + 1))
            case measure => omega
            case rel =>
              refine ⟨k + 1, by omega, by omega, by go_num, HB2, ⟨(HS.out.congr (fun x => ?_)).mono (by omega)⟩, ⟨fun j hj => ?_⟩⟩
              · rw [Hss.out x]; simp
              · by_cases e : j = k
                · subst e; rw [Hfa.out]; rfl
                · exact HF.out j (by omega)
          | true =>
            obtain ⟨sk, hsk⟩ : ∃ sk, sk = seenAt row l1 k ck := ⟨_, rfl⟩
            rw [← hsk] at hlook
            have Hsk := Aside0.mk hsk
            clear hsk
            cases sk with
            | true =>
              go_wp2_with fail
              go_ret
              have hrr : r = false := by
                rw [← HR.out]
                refine List.all_eq_false.2 ⟨l0[i], List.getElem_mem _, ?_⟩
                rw [← Hrow.out]
                refine Bool.eq_false_iff.1 (List.all_eq_false.2 ⟨k, List.mem_range.2 hkt, ?_⟩)
                rw [Hfa.out, ← Hsk.out]; decide
              exact ⟨by rw [hrr]; rfl, hBw⟩
            | false =>
              go_wp2_with (at_mapUpdate; (refine wpList_intset_put _ rfl _ _ _ rfl wo.heap.size k _ rfl HS.out (by unfold maxLen; omega) ck true rfl rfl Hwf.out ?_); intro w1 hs1 hg1; have HS1 := Aside0.mk hs1; have HG1 := Aside0.mk hg1; clear hs1 hg1)
              go_roundg (row.length - (k + 1))
              case measure => omega
              case rel =>
                refine ⟨k + 1, by omega, by omega, by go_num, ⟨HB2.out.grown HG1.out HB2.out.size (fun b hb => by cases hb; exact Nat.le_refl _)⟩, ⟨HS1.out.congr (fun x => ?_)⟩, ⟨fun j hj => ?_⟩⟩
                · rw [Hss.out x]
                  by_cases e : x = ck
                  · subst e; simp
                  · rw [if_neg e]
                    have : (ck == x) = false := beq_eq_false_iff_ne.2 (Ne.symm e)
                    rw [this]; simp
                · by_cases e : j = k
                  · subst e; rw [Hfa.out, ← Hsk.out]; rfl
                  · exact HF.out j (by omega)
        · have hktz : ¬ (k : Int) < (row.length : Int) := by omega
          have : k = row.length := by omega
          subst this
          go_wp2_with fail
          go_roundg (l0.length - (i + 1))
          case measure => omega
          case rel =>
            refine ⟨i + 1, by omega, by omega, by go_num, ⟨HB.out.trans (HB2.out.mono HB.out.size)⟩, ⟨fun x hx => ?_⟩⟩
            rw [List.take_succ_eq_append_getElem hlt, List.mem_append] at hx
            rcases hx with hx | hx
            · exact HA.out x hx
            · rw [List.mem_singleton.1 hx, ← Hrow.out]
              exact List.all_eq_true.2 (fun j hj => HF.out j (List.mem_range.1 hj))
    · have hltz : ¬ (i : Int) < (l0.length : Int) := by omega
      have : i = l0.length := by omega
      subst this
      go_wp2_with fail
      go_ret
      rw [List.take_length] at HA
      have hrr : r = true := by rw [← HR.out]; exact List.all_eq_true.2 HA.out
      exact ⟨by rw [hrr]; rfl, HB.out⟩
end

/-! ### sparse_Fits: function 8 -/
def sparse_Fits.f (l0 : List (List Bool)) (a1 : Int) (l2 : List Int) : Option (Bool × Int) := (sparse_form.f l0 a1).bind fun t101 => (if t101 = 0 then ((sparse_painted.f a1 l2).bind fun t102 => (if t102 = 0 then ((sparse_fits.f l0 l2).bind fun t103 => (some (t103, t102))) else (some (false, t102)))) else (some (false, t101)))
set_option maxHeartbeats 8000000 in
set_option maxRecDepth 100000 in
theorem sparse_Fits.calls (A0 : Option Addr) (c0 : Nat) (l0 : List (List Bool)) (a1 : Int) (A2 : Option Addr) (c2 : Nat) (l2 : List Int) (r1 : Bool) (r2 : Int) (w : World) (hr0 : Kd.C (Kd.slice 4 Kd.bool) w A0 l0.length l0) (hc0 : l0.length ≤ c0) (hr2 : Kd.C (Kd.int .i64) w A2 l2.length l2) (hc2 : l2.length ≤ c2) (h : sparse_Fits.f l0 a1 l2 = some (r1, r2)) :
    Calls Try.prog 8 #[.slice A0 l0.length c0, .int .i64 a1, .slice A2 l2.length c2] w fun e w' => e = .returned (.tuple #[.bool r1, .int .i64 r2]) ∧ Below w.heap.size w w' := by
  have HR0 := Aside0.mk hr0
  have HC0 := Aside0.mk hc0
  clear hr0 hc0
  have HR2 := Aside0.mk hr2
  have HC2 := Aside0.mk hc2
  clear hr2 hc2
  have HB := Aside0.mk (Below.refl w.heap.size w)
  have H : ((sparse_form.f l0 a1).bind fun t101 => (if t101 = 0 then ((sparse_painted.f a1 l2).bind fun t102 => (if t102 = 0 then ((sparse_fits.f l0 l2).bind fun t103 => (some (t103, t102))) else (some (false, t102)))) else (some (false, t101)))) = some (r1, r2) := h
  clear h
  replace H := Option.bind_eq_some_iff.mp H
  obtain ⟨t101, A40, H⟩ := H
  replace H : (if t101 = 0 then ((sparse_painted.f a1 l2).bind fun t102 => (if t102 = 0 then ((sparse_fits.f l0 l2).bind fun t103 => (some (t103, t102))) else (some (false, t102)))) else (some (false, t101))) = some (r1, r2) := H
  have A4 := Aside0.mk A40
  clear A40
  by_cases c5 : t101 = 0
  · rw [if_pos c5] at H
    have c5b0 : (t101 == 0) = true := beq_iff_eq.mpr c5
    have c5b1 : (t101 != 0) = false := bne_eq_false_iff_eq.mpr c5
    clear c5
    replace H := Option.bind_eq_some_iff.mp H
    obtain ⟨t102, A60, H⟩ := H
    replace H : (if t102 = 0 then ((sparse_fits.f l0 l2).bind fun t103 => (some (t103, t102))) else (some (false, t102))) = some (r1, r2) := H
    have A6 := Aside0.mk A60
    clear A60
    by_cases c7 : t102 = 0
    · rw [if_pos c7] at H
      have c7b0 : (t102 == 0) = true := beq_iff_eq.mpr c7
      have c7b1 : (t102 != 0) = false := bne_eq_false_iff_eq.mpr c7
      clear c7
      replace H := Option.bind_eq_some_iff.mp H
      obtain ⟨t103, A80, H⟩ := H
      replace H : (some (t103, t102)) = some (r1, r2) := H
      have A8 := Aside0.mk A80
      clear A80
      simp only [Option.some.injEq, Prod.mk.injEq] at H
      obtain ⟨rfl, rfl⟩ := H
      go_enter Try.func8, Try.ntmps8
      go_wp2_with (first | ((with_reducible refine gate_callee (f := 24) rfl ?_); refine goesL_ (some 11) rfl rfl Try.func24 (by kernel_rfl) rfl #[.slice A0 l0.length c0, .int .i64 a1] rfl (by (try simp only [List.map_toArray, List.map_cons, List.map_nil]); first | done | rfl | (simp only [List.length_drop, List.length_take]; rfl)) ?_; (with_reducible refine (sparse_form.calls _ _ l0 a1 t101 _ ?side1 ?side2 A4.out).mono ?_); (case side1 => repeat (first | exact HR0.out | (with_reducible refine Kd.C_alloc ?_ _) | (with_reducible refine Kd.C_drewN ?_ _) | (with_reducible refine Kd.C_drew ?_))); (case side2 => exact HC0.out); rintro e w9 ⟨rfl, hb⟩; refine ⟨_, rfl, ?_⟩; have n0_ := Aside0.mk (below_step (by repeat (first | (with_reducible first | exact HB.out | apply below_alloc | apply pw_below_drewN | apply below_drew1) | exact HB.out)) hb); clear HB; have HB := n0_; clear n0_; (try clear hb); (try clear hb2); (try clear hk); (try clear hi)) | ((with_reducible refine gate_callee (f := 25) rfl ?_); refine goesL_ (some 16) rfl rfl Try.func25 (by kernel_rfl) rfl #[.int .i64 a1, .slice A2 l2.length c2] rfl (by (try simp only [List.map_toArray, List.map_cons, List.map_nil]); first | done | rfl | (simp only [List.length_drop, List.length_take]; rfl)) ?_; (with_reducible refine (sparse_painted.calls a1 _ _ l2 t102 _ ?side1 ?side2 A6.out).mono ?_); (case side1 => repeat (first | exact (Kd.C_below HR2.out HB.out) | (with_reducible refine Kd.C_alloc ?_ _) | (with_reducible refine Kd.C_drewN ?_ _) | (with_reducible refine Kd.C_drew ?_))); (case side2 => exact HC2.out); rintro e w10 ⟨rfl, hb⟩; refine ⟨_, rfl, ?_⟩; have n0_ := Aside0.mk (below_step (by repeat (first | (with_reducible first | exact HB.out | apply below_alloc | apply pw_below_drewN | apply below_drew1) | exact HB.out)) hb); clear HB; have HB := n0_; clear n0_; (try clear hb); (try clear hb2); (try clear hk); (try clear hi)) | (go_at_call 26; (with_reducible refine (sparse_fits.calls _ _ l0 _ _ l2 t103 _ ?side1 ?side2 ?side3 ?side4 A8.out).mono ?_); (case side1 => repeat (first | exact (Kd.C_below HR0.out HB.out) | (with_reducible refine Kd.C_alloc ?_ _) | (with_reducible refine Kd.C_drewN ?_ _) | (with_reducible refine Kd.C_drew ?_))); (case side2 => exact HC0.out); (case side3 => repeat (first | exact (Kd.C_below HR2.out HB.out) | (with_reducible refine Kd.C_alloc ?_ _) | (with_reducible refine Kd.C_drewN ?_ _) | (with_reducible refine Kd.C_drew ?_))); (case side4 => exact HC2.out); rintro e w11 ⟨rfl, hb⟩; have n0_ := Aside0.mk (below_step (by repeat (first | (with_reducible first | exact HB.out | apply below_alloc | apply pw_below_drewN | apply below_drew1) | exact HB.out)) hb); clear HB; have HB := n0_; clear n0_; (try clear hb); (try clear hb2); (try clear hk); (try clear hi)))
      go_ret2
      exact ⟨by first | rfl | (simp [errW_none, errW_some] <;> rfl) | (simp [*, errW_none, errW_some] <;> rfl), by repeat (first | (with_reducible first | exact HB.out | apply below_alloc | apply pw_below_drewN | apply below_drew1) | exact HB.out)⟩
    · rw [if_neg c7] at H
      have c7b0 : (t102 == 0) = false := beq_eq_false_iff_ne.mpr c7
      have c7b1 : (t102 != 0) = true := bne_iff_ne.mpr c7
      simp only [Option.some.injEq, Prod.mk.injEq] at H
      obtain ⟨rfl, rfl⟩ := H
      go_enter Try.func8, Try.ntmps8
      go_wp2_with (first | ((with_reducible refine gate_callee (f := 24) rfl ?_); refine goesL_ (some 11) rfl rfl Try.func24 (by kernel_rfl) rfl #[.slice A0 l0.length c0, .int .i64 a1] rfl (by (try simp only [List.map_toArray, List.map_cons, List.map_nil]); first | done | rfl | (simp only [List.length_drop, List.length_take]; rfl)) ?_; (with_reducible refine (sparse_form.calls _ _ l0 a1 t101 _ ?side1 ?side2 A4.out).mono ?_); (case side1 => repeat (first | exact HR0.out | (with_reducible refine Kd.C_alloc ?_ _) | (with_reducible refine Kd.C_drewN ?_ _) | (with_reducible refine Kd.C_drew ?_))); (case side2 => exact HC0.out); rintro e w12 ⟨rfl, hb⟩; refine ⟨_, rfl, ?_⟩; have n0_ := Aside0.mk (below_step (by repeat (first | (with_reducible first | exact HB.out | apply below_alloc | apply pw_below_drewN | apply below_drew1) | exact HB.out)) hb); clear HB; have HB := n0_; clear n0_; (try clear hb); (try clear hb2); (try clear hk); (try clear hi)) | ((with_reducible refine gate_callee (f := 25) rfl ?_); refine goesL_ (some 16) rfl rfl Try.func25 (by kernel_rfl) rfl #[.int .i64 a1, .slice A2 l2.length c2] rfl (by (try simp only [List.map_toArray, List.map_cons, List.map_nil]); first | done | rfl | (simp only [List.length_drop, List.length_take]; rfl)) ?_; (with_reducible refine (sparse_painted.calls a1 _ _ l2 t102 _ ?side1 ?side2 A6.out).mono ?_); (case side1 => repeat (first | exact (Kd.C_below HR2.out HB.out) | (with_reducible refine Kd.C_alloc ?_ _) | (with_reducible refine Kd.C_drewN ?_ _) | (with_reducible refine Kd.C_drew ?_))); (case side2 => exact HC2.out); rintro e w13 ⟨rfl, hb⟩; refine ⟨_, rfl, ?_⟩; have n0_ := Aside0.mk (below_step (by repeat (first | (with_reducible first | exact HB.out | apply below_alloc | apply pw_below_drewN | apply below_drew1) | exact HB.out)) hb); clear HB; have HB := n0_; clear n0_; (try clear hb); (try clear hb2); (try clear hk); (try clear hi)))
      go_ret2
      exact ⟨by first | rfl | (simp [errW_none, errW_some] <;> rfl) | (simp [*, errW_none, errW_some] <;> rfl), by repeat (first | (with_reducible first | exact HB.out | apply below_alloc | apply pw_below_drewN | apply below_drew1) | exact HB.out)⟩
  · rw [if_neg c5] at H
    have c5b0 : (t101 == 0) = false := beq_eq_false_iff_ne.mpr c5
    have c5b1 : (t101 != 0) = true := bne_iff_ne.mpr c5
    simp only [Option.some.injEq, Prod.mk.injEq] at H
    obtain ⟨rfl, rfl⟩ := H
    go_enter Try.func8, Try.ntmps8
    go_wp2_with (first | ((with_reducible refine gate_callee (f := 24) rfl ?_); refine goesL_ (some 11) rfl rfl Try.func24 (by kernel_rfl) rfl #[.slice A0 l0.length c0, .int .i64 a1] rfl (by (try simp only [List.map_toArray, List.map_cons, List.map_nil]); first | done | rfl | (simp only [List.length_drop, List.length_take]; rfl)) ?_; (with_reducible refine (sparse_form.calls _ _ l0 a1 t101 _ ?side1 ?side2 A4.out).mono ?_); (case side1 => repeat (first | exact HR0.out | (with_reducible refine Kd.C_alloc ?_ _) | (with_reducible refine Kd.C_drewN ?_ _) | (with_reducible refine Kd.C_drew ?_))); (case side2 => exact HC0.out); rintro e w14 ⟨rfl, hb⟩; refine ⟨_, rfl, ?_⟩; have n0_ := Aside0.mk (below_step (by repeat (first | (with_reducible first | exact HB.out | apply below_alloc | apply pw_below_drewN | apply below_drew1) | exact HB.out)) hb); clear HB; have HB := n0_; clear n0_; (try clear hb); (try clear hb2); (try clear hk); (try clear hi)))
    go_ret2
    exact ⟨by first | rfl | (simp [errW_none, errW_some] <;> rfl) | (simp [*, errW_none, errW_some] <;> rfl), by repeat (first | (with_reducible first | exact HB.out | apply below_alloc | apply pw_below_drewN | apply below_drew1) | exact HB.out)⟩

end Go.Proofs.Ytjjbondlcjnaiaa.PSparseMany
