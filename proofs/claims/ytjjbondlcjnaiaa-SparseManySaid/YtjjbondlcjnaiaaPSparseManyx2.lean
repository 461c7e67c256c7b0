-- written by a program of this session, after the kit's print
import Derived.Test.YtjjbondlcjnaiaaPSparseManyx0
import Derived.Test.YtjjbondlcjnaiaaPSparseManyx1
namespace Go.Proofs.Ytjjbondlcjnaiaa.PSparseMany
open Go.RowKit Go.Proofs.YtjjbondlcjnaiaaW.PrintWords Go.Proofs.YtjjbondlcjnaiaaW.PrintLast Go.Proofs.YtjjbondlcjnaiaaW.PrintMore
attribute [local go_sem] max2_int min2_int max_two min_two max_three min_three max_four min_four   -- for this text's walks alone
set_option linter.unusedVariables false
set_option linter.unusedSimpArgs false

/-! ### sparse_colours: function 31 -/
section
open Go.Maps
def mapK : Kd (Option Nat) := Kd.scalar Value.map (fun _ => rfl)
/-- what is neither a row of ints nor new is as it was -/
def SameBut (w w1 : World) : Prop := ∀ (k : Nat) (o : Obj), w.heap[k]? = some o → (∀ c, o ≠ .cells c 3 (0, 0)) → w1.heap[k]? = some o
theorem SameBut.of_grown {w w1 : World} {row : Option Nat} (hg : w.grownBy w1 row) (hr : ∀ k, row = some k → ∃ c, w.heap[k]? = some (.cells c 3 (0, 0))) : SameBut w w1 := by
  intro k o ho hne
  have hlt : k < w.heap.size := (Array.getElem?_eq_some_iff.1 ho).1
  rw [hg.block k hlt (fun e => ?_)]
  · exact ho
  · obtain ⟨c, hc⟩ := hr k e.symm
    rw [hc] at ho
    exact hne c (Option.some.inj ho).symm
structure Used (w : World) (base g cap : Nat) (bs : List (Option Nat)) (cnt : Nat) (F : Nat → Int → Bool) : Prop where
  row : w.ownsRow base 71 1 (.slice (some ⟨g, 0, none⟩) bs.length cap) bs.length (encs Value.map bs)
  at_ : ∀ (r b : Nat), bs[r]? = some (some b) → base ≤ b ∧ IntSet w b cnt (F r)
  one : ∀ (r r' b : Nat), bs[r]? = some (some b) → bs[r']? = some (some b) → r = r'
section
variable {w w1 : World} {base g cap cnt : Nat} {bs : List (Option Nat)} {F G : Nat → Int → Bool}
theorem Used.congr (h : Used w base g cap bs cnt F) (hF : ∀ r x, r < bs.length → F r x = G r x) : Used w base g cap bs cnt G :=
  ⟨h.row, fun r b hr => ⟨(h.at_ r b hr).1, (h.at_ r b hr).2.congr (fun x => hF r x (List.getElem?_eq_some_iff.1 hr).1)⟩, h.one⟩
theorem Used.mono (h : Used w base g cap bs cnt F) {m : Nat} (hm : cnt ≤ m) : Used w base g cap bs m F :=
  ⟨h.row, fun r b hr => ⟨(h.at_ r b hr).1, (h.at_ r b hr).2.mono hm⟩, h.one⟩
theorem Used.blk (h : Used w base g cap bs cnt F) : ∃ c, w.heap[g]? = some (.cells c 71 (0, 0)) := own_typed h.row g (by simp [Value.ownBlock])
theorem Used.set_blk {b n : Nat} {f : Int → Bool} (h : IntSet w b n f) : ∃ es cl, w.heap[b]? = some (.map es cl) := by
  obtain ⟨D, ⟨es, cl, hb, _⟩, _⟩ := h
  exact ⟨es, cl, hb⟩
theorem Used.same (h : Used w base g cap bs cnt F) (hs : SameBut w w1) : Used w1 base g cap bs cnt F := by
  refine ⟨own_move h.row (fun k hk => ?_), fun r b hr => ⟨(h.at_ r b hr).1, (h.at_ r b hr).2.kept ?_⟩, h.one⟩
  · have : g = k := by simpa [Value.ownBlock] using hk
    subst this
    obtain ⟨c, hc⟩ := h.blk
    rw [hc]
    exact hs _ _ hc (fun c' e => by cases e)
  · obtain ⟨es, cl, hb⟩ := Used.set_blk (h.at_ r b hr).2
    rw [hb]
    exact hs _ _ hb (fun c' e => by cases e)
theorem Used.cell (h : Used w base g cap bs cnt F) {r : Nat} {b : Nat} (hr : bs[r]? = some (some b)) : w.cell? ⟨g, r, none⟩ = some (.map (some b)) := by
  have hlt := (List.getElem?_eq_some_iff.1 hr).1
  have := (own_at_of (d := none) h.row (r : Int) (by omega) (by omega)).1
  rw [Int.toNat_natCast] at this
  rw [this]
  have e : rdOf none bs (r : Int) = some b := by simp [rdOf, List.getD_eq_getElem?_getD, hr]
  rw [e]
theorem Used.put (h : Used w base g cap bs cnt F) {r b : Nat} (hr : bs[r]? = some (some b)) (x : Int) {w1 : World} (hs : IntSet w1 b (cnt + 1) (fun y => if y = x then true else F r y)) (hg : w.grownBy w1 (some b)) :
    Used w1 base g cap bs (cnt + 1) (fun r' y => if r' = r ∧ y = x then true else F r' y) := by
  have hb := Used.set_blk (h.at_ r b hr).2
  refine ⟨own_move h.row (fun k hk => ?_), fun r' b' hr' => ⟨(h.at_ r' b' hr').1, ?_⟩, h.one⟩
  · have e : g = k := by simpa [Value.ownBlock] using hk
    subst e
    obtain ⟨c, hc⟩ := h.blk
    refine hg.block g (Array.getElem?_eq_some_iff.1 hc).1 (fun e => ?_)
    obtain ⟨es, cl, hb⟩ := hb
    cases e
    rw [hb] at hc
    cases hc
  · by_cases e : r' = r
    · subst e
      rw [hr] at hr'
      cases hr'
      exact hs.congr (fun y => by by_cases ey : y = x <;> simp [ey])
    · have hne : b' ≠ b := fun eb => e (h.one r' r b (eb ▸ hr') hr)
      have h1 := (h.at_ r' b' hr').2
      refine ((h1.kept (hg.block b' h1.lt (fun eb => hne (Option.some.inj eb)))).mono (Nat.le_succ _)).congr (fun y => ?_)
      simp [e]
end
theorem SameBut.alloc (w : World) (o : Obj) : SameBut w (w.alloc o) := fun k o' ho _ => by
  rw [← ho]
  exact Below.heap_alloc w o k (Array.getElem?_eq_some_iff.1 ho).1
theorem SameBut.trans {a b c : World} (h : SameBut a b) (h' : SameBut b c) : SameBut a c := fun k o ho hne => h' k o (h k o ho hne) hne
/-- used[r] = map[int]bool{} -/
theorem Used.make {w : World} {base g cap : Nat} {bs : List (Option Nat)} (h : Used w base g cap bs 0 (fun _ _ => false)) (hb : base ≤ w.heap.size) (r : Nat) :
    Used ((w.alloc (.map #[] 0)).setCell ⟨g, r, none⟩ (.map (some w.heap.size))) base g cap (bs.set r (some w.heap.size)) 0 (fun _ _ => false) := by
  have h1 := h.same (SameBut.alloc w (.map #[] 0))
  obtain ⟨hrow, hg⟩ := own_store_of h1.row (r : Int) (some w.heap.size)
  rw [Int.toNat_natCast] at hrow hg
  have hgb := h.blk
  have key : ∀ b n f, IntSet (w.alloc (.map #[] 0)) b n f → IntSet ((w.alloc (.map #[] 0)).setCell ⟨g, r, none⟩ (.map (some w.heap.size))) b n f := by
    intro b n f hs
    refine hs.kept (hg.block b hs.lt (fun e => ?_))
    obtain ⟨es, cl, hbm⟩ := Used.set_blk hs
    obtain ⟨c, hc⟩ := h1.blk
    cases e
    rw [hbm] at hc
    cases hc
  refine ⟨by rw [List.length_set]; exact hrow, fun r' b hr' => ?_, fun r1 r2 b e1 e2 => ?_⟩
  · by_cases e : r' = r
    · subst e
      rw [List.getElem?_set_self' ] at hr'
      cases hx : bs[r']? with
      | none => rw [hx] at hr'; cases hr'
      | some y =>
        rw [hx] at hr'
        cases hr'
        exact ⟨hb, key _ _ _ (IntSet.made w)⟩
    · rw [List.getElem?_set_ne (Ne.symm e)] at hr'
      exact ⟨(h1.at_ r' b hr').1, key _ _ _ (h1.at_ r' b hr').2⟩
  · have old : ∀ q b, bs[q]? = some (some b) → b < w.heap.size := fun q b hq => (h.at_ q b hq).2.lt
    have get : ∀ q b, (bs.set r (some w.heap.size))[q]? = some (some b) → (q = r ∧ b = w.heap.size) ∨ (q ≠ r ∧ bs[q]? = some (some b)) := by
      intro q b hq
      by_cases e : q = r
      · subst e
        rw [List.getElem?_set_self'] at hq
        cases hx : bs[q]? with
        | none => rw [hx] at hq; cases hq
        | some y => rw [hx] at hq; cases hq; exact .inl ⟨rfl, rfl⟩
      · rw [List.getElem?_set_ne (Ne.symm e)] at hq
        exact .inr ⟨e, hq⟩
    rcases get r1 b e1 with ⟨q1, p1⟩ | ⟨n1, g1⟩ <;> rcases get r2 b e2 with ⟨q2, p2⟩ | ⟨n2, g2⟩
    · rw [q1, q2]
    · exact absurd (old r2 _ g2) (by omega)
    · exact absurd (old r1 _ g1) (by omega)
    · exact h.one r1 r2 b g1 g2
/-- a row of ints of the call's own, when a map is written -/
theorem ints_kept {w w1 : World} {base : Nat} {v : Value} {xs : List Int} (h : Kd.R (Kd.int .i64) 3 w base (fun _ => True) v xs) {b : Nat} (hb : ∃ es cl, w.heap[b]? = some (.map es cl)) (hg : w.grownBy w1 (some b)) : Kd.R (Kd.int .i64) 3 w1 base (fun _ => True) v xs := by
  have ho := Kd.own_of_R h
  refine Kd.R_of_own (own_move ho (fun k hk => ?_)) h.1
  obtain ⟨c, hc⟩ := own_typed ho k hk
  refine hg.block k (Array.getElem?_eq_some_iff.1 hc).1 (fun e => ?_)
  obtain ⟨es, cl, hb⟩ := hb
  cases e
  rw [hb] at hc
  cases hc
def takenF (p : List (List Bool)) (F : Nat → Int → Bool) (k : Nat) (c : Int) : Bool := (List.range p.length).any fun r => (p.getD r []).getD k false && F r c
set_option maxHeartbeats 4000000 in
set_option maxRecDepth 100000 in
theorem sparse_taken.calls (A0 : Option Addr) (c0 : Nat) (l0 : List (List Bool)) (base g cap cnt : Nat) (bs : List (Option Nat)) (F : Nat → Int → Bool) (k : Nat) (c : Int) (w : World) (hr0 : Kd.C (Kd.slice 4 Kd.bool) w A0 l0.length l0)
    (hU : Used w base g cap bs cnt F) (hbl : bs.length = l0.length) (hall : ∀ r, r < bs.length → ∃ b, bs[r]? = some (some b)) (hk : ∀ row, row ∈ l0 → k < row.length) (hwf : (Lit.int .i64 c).wf = true) :
    Calls Try.prog 45 #[.slice A0 l0.length c0, .slice (some ⟨g, 0, none⟩) bs.length cap, .int .i64 k, .int .i64 c] w fun e w' => e = .returned (.bool (takenF l0 F k c)) ∧ w' = w := by
  have HR0 := Aside0.mk hr0
  have hn0 : l0.length ≤ 9223372036854775807 := hr0.2.1
  have HU := Aside0.mk hU
  have Hbl := Aside0.mk hbl
  have Hall := Aside0.mk hall
  have Hk := Aside0.mk hk
  have Hwf := Aside0.mk hwf
  have hbl1 : bs.length ≤ l0.length := by omega
  have hbl2 : l0.length ≤ bs.length := by omega
  clear hr0 hU hbl hall hk hwf
  go_enter Try.func45, Try.ntmps45
  go_wp2
  go_loopg [13] l0.length (fun gg s13 wr => ∃ i : Nat, i ≤ l0.length ∧ l0.length - i ≤ gg ∧ s13 = .int .i64 i ∧ wr = w ∧ Aside0 (∀ j, j < i → ((l0.getD j []).getD k false && F j c) = false))
  case atStart => exact ⟨0, Nat.zero_le _, by omega, rfl, rfl, ⟨fun j hj => absurd hj (by omega)⟩⟩
  case round =>
    obtain ⟨i, hi, hg, rfl, rfl, HA⟩ := hrel
    by_cases hlt : i < l0.length
    · have hltz : (i : Int) < (l0.length : Int) := by omega
      have hltb : (i : Int) < (bs.length : Int) := by omega
      obtain ⟨ad, c2, e0, hcl, hK, hc0'⟩ := Kd.C_get HR0.out ([] : List Bool) (i : Int) (by omega) (by omega)
      subst e0
      obtain ⟨A2, c2, rfl, hl2, hr2⟩ := hK
      have hx : l0.getD (Int.toNat i) [] = l0[i] := by simp [hlt]
      have hx' : l0.getD i [] = l0[i] := by simp [hlt]
      rw [hx] at hc0' hl2 hr2
      have hcell : wr.cell? (ad.add i) = some (.slice A2 l0[i].length c2) := by
        have := hc0' 0 _ rfl
        simpa [Kd.slice] using this
      have hkr : k < l0[i].length := Hk.out _ (List.getElem_mem _)
      have hkrz : (k : Int) < (l0[i].length : Int) := by omega
      obtain ⟨row, hrow⟩ : ∃ row, row = l0[i] := ⟨_, rfl⟩
      rw [← hrow] at hcell hkr hkrz hr2 hx'
      obtain ⟨ad2, e2, hx2⟩ := Kd.at_bool hr2 (k : Int) (by omega) (by omega)
      subst e2
      simp only [rdOf, Int.toNat_natCast] at hx2
      obtain ⟨b, hb⟩ := Hall.out i (by omega)
      have hcb := HU.out.cell hb
      have hlook := (HU.out.at_ i b hb).2.look c Hwf.out
      obtain ⟨bk, hbk⟩ : ∃ bk, bk = row.getD k false := ⟨_, rfl⟩
      rw [← hbk] at hx2
      obtain ⟨f, hf⟩ : ∃ f, f = F i c := ⟨_, rfl⟩
      rw [← hf] at hlook
      have hfi : ((l0.getD i []).getD k false && F i c) = (bk && f) := by rw [hx', hbk, hf]
      have Hfi := Aside0.mk hfi
      clear hc0' hl2 hr2 hx hcl hrow hx' hb hfi hbk hf
      cases bk with
      | false =>
        clear hlook hcb
        go_wp2_with fail
        go_roundg (l0.length - (i + 1))
        case measure => omega
        case rel =>
          refine ⟨i + 1, by omega, by omega, by go_num, rfl, ⟨fun j hj => ?_⟩⟩
          by_cases e : j = i
          · subst e; rw [Hfi.out]; rfl
          · exact HA.out j (by omega)
      | true =>
        cases f with
        | true =>
          go_wp2_with fail
          go_ret
          have hrr : takenF l0 F k c = true := List.any_eq_true.2 ⟨i, List.mem_range.2 hlt, by rw [Hfi.out]; rfl⟩
          exact ⟨by rw [hrr]; rfl, rfl⟩
        | false =>
          go_wp2_with fail
          go_roundg (l0.length - (i + 1))
          case measure => omega
          case rel =>
            refine ⟨i + 1, by omega, by omega, by go_num, rfl, ⟨fun j hj => ?_⟩⟩
            by_cases e : j = i
            · subst e; rw [Hfi.out]; rfl
            · exact HA.out j (by omega)
    · have hltz : ¬ (i : Int) < (l0.length : Int) := by omega
      have : i = l0.length := by omega
      subst this
      go_wp2_with fail
      go_ret
      have hrr : takenF l0 F k c = false := List.any_eq_false.2 (fun j hj => by rw [HA.out j (List.mem_range.1 hj)]; decide)
      exact ⟨by rw [hrr]; rfl, rfl⟩
def colPick (p : List (List Bool)) (out : List Int) : Nat → Int → Option Int
  | 0, _ => none
  | n + 1, c => if takenF p (fun r => seenAt (p.getD r []) out out.length) out.length c = true then colPick p out n (c + 1) else some c
def colGo (p : List (List Bool)) : Nat → List Int → Option (List Int)
  | 0, out => some out
  | n + 1, out => (colPick p out (out.length + 1) 0).bind fun c => colGo p n (out ++ [c])
def sparse_colours.f (l0 : List (List Bool)) (a1 : Int) : Option (List Int) := if (decide (l0.length ≤ 1000000) && decide (a1 ≤ 1000000) && l0.all (fun row => decide (a1 ≤ row.length))) = true then colGo l0 a1.toNat [] else none
theorem seenAt_app (row : List Bool) (out : List Int) (c x : Int) : seenAt row (out ++ [c]) (out.length + 1) x = (seenAt row out out.length x || (row.getD out.length false && (c == x))) := by
  rw [seenAt_succ]
  have e : (out ++ [c]).getD out.length 0 = c := by simp
  rw [e]
  congr 1
  unfold seenAt
  have hk : ∀ k, k ≤ out.length → ((List.range k).any fun j => row.getD j false && ((out ++ [c]).getD j 0 == x)) = ((List.range k).any fun j => row.getD j false && (out.getD j 0 == x)) := by
    intro k
    induction k with
    | zero => intro _; rfl
    | succ k ih =>
      intro hk
      rw [List.range_succ, List.any_append, List.any_append, ih (by omega)]
      simp [List.getElem?_append_left (show k < out.length by omega)]
  exact hk _ (Nat.le_refl _)
theorem sparse_colours.info : (Try.prog.info? 71).map (fun i => (i.zero, i.size, i.bytes)) = some (some (.map none), 1, 8) := by kernel_rfl
theorem slice_form {w : World} {base : Nat} {e : TypeId} {n : Nat} {v : Value} {xs : List Value} (h : w.ownsRow base e 1 v n xs) (hb : ∃ b, v.ownBlock = some b) : ∃ g cap, v = .slice (some ⟨g, 0, none⟩) n cap := by
  rcases h.2 with ⟨rfl, _⟩ | ⟨g, cap, cur, rfl, _⟩
  · obtain ⟨b, hb⟩ := hb
    cases hb
  · exact ⟨g, cap, rfl⟩
set_option maxHeartbeats 8000000 in
set_option maxRecDepth 100000 in
theorem sparse_colours.calls (A0 : Option Addr) (c0 : Nat) (l0 : List (List Bool)) (a1 : Int) (r : List Int) (w : World) (hr0 : Kd.C (Kd.slice 4 Kd.bool) w A0 l0.length l0) (hc0 : l0.length ≤ c0) (h : sparse_colours.f l0 a1 = some r) :
    Calls Try.prog 31 #[.slice A0 l0.length c0, .int .i64 a1] w fun e w' => ∃ v0_ : Value, e = .returned (v0_) ∧ Kd.R (Kd.int .i64) 3 w' w.heap.size (fun _ => True) v0_ r ∧ Below w.heap.size w w' := by
  have HR0 := Aside0.mk hr0
  clear hr0 hc0
  unfold sparse_colours.f at h
  split at h
  case isFalse => cases h
  case isTrue hok =>
  simp only [Bool.and_eq_true, decide_eq_true_eq] at hok
  obtain ⟨⟨hp1, ha1⟩, hrows⟩ := hok
  have HL := Aside0.mk (List.all_eq_true.1 hrows)
  have H0 := Aside0.mk h
  clear hrows h
  have hmm := @run_makeMap Try.prog
  go_enter Try.func31, Try.ntmps31
  go_wp2_with ((with_reducible refine gate_dst (N := 14) rfl ?_); refine Kd.R_make mapK _ 71 rfl (N := 14) rfl 79 _ _ rfl (l0.length : Int) rfl rfl Try.underlying79 (.map none) 8 sparse_colours.info rfl (by decide) (by omega) none (ok := fun _ => True) (okp := fun _ => True) rfl (fun _ hk => hk) trivial (by omega) (by omega) (Below.refl _ _) (Nat.le_refl _) ?_; intro v1 w1 ho hb _ hnew; have ho2 := Kd.own_of_R ho; rw [List.length_replicate, Int.toNat_natCast] at ho2; obtain ⟨g, cap, rfl⟩ := slice_form ho2 (hnew.imp fun b h => h.1); have HO := Aside0.mk ho2; have HB := Aside0.mk hb; clear ho ho2 hb hnew)
  go_loopg [17] l0.length (fun gg s17 wr => ∃ (i : Nat) (bs : List (Option Nat)), i ≤ l0.length ∧ l0.length - i ≤ gg ∧ s17 = .int .i64 i ∧ Aside0 (Below w.heap.size w wr) ∧ Aside0 (Used wr w.heap.size g cap bs 0 (fun _ _ => false)) ∧ Aside0 (bs.length = l0.length) ∧ Aside0 (∀ q, q < i → ∃ b, bs[q]? = some (some b)) ∧ Aside0 (∀ q, i ≤ q → q < l0.length → bs[q]? = some none))
  case atStart =>
    refine ⟨0, List.replicate l0.length none, Nat.zero_le _, by omega, rfl, HB, ⟨⟨by simpa using HO.out, fun q b hq => ?_, fun q q' b hq => ?_⟩⟩, ⟨by simp⟩, ⟨fun q hq => absurd hq (by omega)⟩, ⟨fun q _ hq => by simp [hq]⟩⟩
    all_goals
      rw [List.getElem?_replicate] at hq
      split at hq <;> cases hq
  case round =>
    obtain ⟨i, bs, hi, hg, rfl, HB1, HU, Hbl, Hmade, Hnone⟩ := hrel
    by_cases hlt : i < l0.length
    · have hltz : (i : Int) < (l0.length : Int) := by omega
      have hbl : bs.length = l0.length := Hbl.out
      have hU1 := HU.out.same (SameBut.alloc wr (.map #[] 0))
      have hcf := own_at_of (d := none) hU1.row (i : Int) (by omega) (by omega)
      have e1 : rdOf none bs (i : Int) = none := by simp [rdOf, List.getD_eq_getElem?_getD, Hnone.out i (Nat.le_refl _) hlt]
      rw [e1, Int.toNat_natCast] at hcf
      obtain ⟨hc1, hf1⟩ := hcf
      clear hU1 e1 hbl
      go_wp2_with fail
      go_roundg (l0.length - (i + 1))
      case measure => omega
      case rel =>
        refine ⟨i + 1, bs.set i (some wr.heap.size), by omega, by omega, by go_num, ⟨?_⟩, ⟨HU.out.make HB1.out.size i⟩, ⟨by rw [List.length_set]; exact Hbl.out⟩, ⟨fun q hq => ?_⟩, ⟨fun q hq hq2 => ?_⟩⟩
        · obtain ⟨c, hcb⟩ := HU.out.blk
          exact (HB1.out.alloc HB1.out.size _).setCell (HU.out.row.lt g (by simp [Value.ownBlock])).1 _
        · by_cases e : q = i
          · subst e
            exact ⟨wr.heap.size, by rw [List.getElem?_set_self (by rw [Hbl.out]; exact hlt)]⟩
          · rw [List.getElem?_set_ne (Ne.symm e)]
            exact Hmade.out q (by omega)
        · rw [List.getElem?_set_ne (by omega)]
          exact Hnone.out q (by omega) hq2
    · have hltz : ¬ (i : Int) < (l0.length : Int) := by omega
      have : i = l0.length := by omega
      subst this
      have HU1 : Aside0 (Used wr w.heap.size g cap bs 0 (fun q => seenAt (l0.getD q []) [] 0)) := ⟨HU.out.congr (fun q x _ => rfl)⟩
      clear hmm HU Hnone HO HB
      go_wp2_with fail
      go_loopg [5, 26] a1.toNat (fun gg s5 s26 wr => ∃ (k cnt : Nat) (out : List Int), k ≤ a1.toNat ∧ a1.toNat - k ≤ gg ∧ cnt ≤ k * 1000000 ∧ s26 = .int .i64 k ∧ Aside0 (Kd.R (Kd.int .i64) 3 wr w.heap.size (fun _ => True) s5 out) ∧ Aside0 (Below w.heap.size w wr) ∧ Aside0 (Used wr w.heap.size g cap bs cnt (fun q => seenAt (l0.getD q []) out k)) ∧ Aside0 (out.length = k) ∧ Aside0 (colGo l0 (a1.toNat - k) out = some r))
      case atStart => exact ⟨0, 0, [], Nat.zero_le _, by omega, by omega, rfl, ⟨Kd.R_nil _ _ _ _ _⟩, HB1, HU1, ⟨rfl⟩, H0⟩
      case round =>
        clear H0 HU1 HB1
        obtain ⟨k, cnt, out, hk, hgk, hcnt, rfl, HO, HB, HU, Hol, HG⟩ := hrel
        by_cases hkt : k < a1.toNat
        · have hktz : (k : Int) < a1 := by omega
          have hrk : ∀ row, row ∈ l0 → k < row.length := fun row hrow => by
            have := of_decide_eq_true (HL.out row hrow)
            omega
          have Hrk := Aside0.mk hrk
          clear hrk
          obtain ⟨n, hn⟩ : ∃ n, a1.toNat - k = n + 1 := ⟨a1.toNat - k - 1, by omega⟩
          have hG := HG.out
          rw [hn, colGo, Hol.out] at hG
          have HP := Aside0.mk hG
          have Hn := Aside0.mk hn
          clear hG HG hn
          obtain ⟨wo, hwo⟩ : ∃ wo : World, wo = wr := ⟨_, rfl⟩
          subst hwo
          go_wp2_with fail
          go_loopg [9] (k + 1) (fun gg s9 wr => ∃ (c : Int) (m : Nat), wr = wo ∧ m ≤ gg ∧ 0 ≤ c ∧ c + m = k + 1 ∧ s9 = .int .i64 c ∧ Aside0 ((colPick l0 out m c).bind (fun c => colGo l0 n (out ++ [c])) = some r))
          case atStart => exact ⟨0, k + 1, rfl, Nat.le_refl _, by omega, by omega, rfl, HP⟩
          case round =>
            clear HP
            obtain ⟨c, m, rfl, hm, hc0, hcm, rfl, HP⟩ := hrel
            have hwf : (Lit.int .i64 c).wf = true := WalkArith.wf_i64 (by omega)
            have hT := sparse_taken.calls A0 c0 l0 w.heap.size g cap cnt bs _ k c wr (Kd.C_below HR0.out HB.out) HU.out Hbl.out (fun q hq => Hmade.out q (by rw [← Hbl.out]; exact hq)) Hrk.out hwf
            rw [Hbl.out] at hT
            have HT := Aside0.mk hT
            have Hwf := Aside0.mk hwf
            clear hT hwf
            cases m with
            | zero => exact absurd HP.out (by simp [colPick])
            | succ m =>
              have hP := HP.out
              rw [colPick, Hol.out] at hP
              obtain ⟨tk, htk⟩ : ∃ tk, tk = takenF l0 (fun q => seenAt (l0.getD q []) out k) k c := ⟨_, rfl⟩
              rw [← htk] at hP HT
              have HP := Aside0.mk hP
              clear hP htk
              cases tk with
              | true =>
                have hP := HP.out
                rw [if_pos rfl] at hP
                have HP := Aside0.mk hP
                clear hP
                go_wp2_with fail
                refine HT.out.mono ?_
                rintro e w' ⟨rfl, rfl⟩
                go_wp2_with fail
                go_roundg m
                case measure => omega
                case rel => exact ⟨c + 1, m, rfl, Nat.le_refl _, by omega, by omega, by go_num, HP⟩
              | false =>
                have hP := HP.out
                rw [if_neg (by decide), Option.bind_some] at hP
                have HP := Aside0.mk hP
                clear hP
                go_wp2_with fail
                refine HT.out.mono ?_
                rintro e w' ⟨rfl, rfl⟩
                go_wp2_with fail
                clear HT
                go_loopg [38] l0.length (fun gg s38 wr => ∃ (i cn : Nat), i ≤ l0.length ∧ l0.length - i ≤ gg ∧ cn ≤ cnt + i ∧ s38 = .int .i64 i ∧ Aside0 (Kd.R (Kd.int .i64) 3 wr w.heap.size (fun _ => True) u5 out) ∧ Aside0 (Below w.heap.size w wr) ∧ Aside0 (Used wr w.heap.size g cap bs cn (fun q x => if q < i ∧ (l0.getD q []).getD k false = true ∧ x = c then true else seenAt (l0.getD q []) out k x)))
                case atStart => exact ⟨0, cnt, Nat.zero_le _, by omega, by omega, rfl, HO, HB, ⟨HU.out.congr (fun q x _ => by rw [if_neg (by omega)])⟩⟩
                case round =>
                  clear HO HB HU
                  obtain ⟨i, cn, hi, hgi, hcn, rfl, HO, HB, HU⟩ := hrel
                  by_cases hlt : i < l0.length
                  · have hltz : (i : Int) < (l0.length : Int) := by omega
                    obtain ⟨ad, c2, e0, hcl, hK, hc0'⟩ := Kd.C_get (Kd.C_below HR0.out HB.out) ([] : List Bool) (i : Int) (by omega) (by omega)
                    subst e0
                    obtain ⟨A2, c2, rfl, hl2, hr2⟩ := hK
                    have hx : l0.getD (Int.toNat i) [] = l0[i] := by simp [hlt]
                    have hx' : l0.getD i [] = l0[i] := by simp [hlt]
                    rw [hx] at hc0' hl2 hr2
                    have hcell : wr.cell? (ad.add i) = some (.slice A2 l0[i].length c2) := by
                      have := hc0' 0 _ rfl
                      simpa [Kd.slice] using this
                    have hkr : k < l0[i].length := Hrk.out _ (List.getElem_mem _)
                    have hkrz : (k : Int) < (l0[i].length : Int) := by omega
                    obtain ⟨row, hrow⟩ : ∃ row, row = l0[i] := ⟨_, rfl⟩
                    rw [← hrow] at hcell hkr hkrz hr2 hx'
                    obtain ⟨ad2, e2, hx2⟩ := Kd.at_bool hr2 (k : Int) (by omega) (by omega)
                    subst e2
                    simp only [rdOf, Int.toNat_natCast] at hx2
                    have hbl : bs.length = l0.length := Hbl.out
                    obtain ⟨b, hb⟩ := Hmade.out i (by omega)
                    have hcb := HU.out.cell hb
                    have Hb := Aside0.mk hb
                    obtain ⟨bk, hbk⟩ : ∃ bk, bk = row.getD k false := ⟨_, rfl⟩
                    rw [← hbk] at hx2
                    have Hbk : Aside0 ((l0.getD i []).getD k false = bk) := ⟨by rw [hx', hbk]⟩
                    clear hc0' hl2 hr2 hx hcl hrow hx' hb hbk hbl
                    cases bk with
                    | false =>
                      clear hcb
                      go_wp2_with fail
                      go_roundg (l0.length - (i + 1))
                      case measure => omega
                      case rel =>
                        refine ⟨i + 1, cn, by omega, by omega, by omega, by go_num, HO, HB, ⟨HU.out.congr (fun q x _ => ?_)⟩⟩
                        by_cases e : q = i
                        · subst e
                          rw [if_neg (by omega), if_neg (by rw [Hbk.out]; simp)]
                        · by_cases h2 : q < i
                          · simp [h2, show q < i + 1 by omega]
                          · simp [h2, show ¬ q < i + 1 by omega]
                    | true =>
                      go_wp2_with (at_mapUpdate; (refine wpList_intset_put _ rfl _ _ _ rfl b cn _ rfl (HU.out.at_ i b Hb.out).2 (by unfold maxLen; omega) c true rfl rfl Hwf.out ?_); intro w1 hs1 hg1; have HS1 := Aside0.mk hs1; have HG1 := Aside0.mk hg1; clear hs1 hg1)
                      go_roundg (l0.length - (i + 1))
                      case measure => omega
                      case rel =>
                        refine ⟨i + 1, cn + 1, by omega, by omega, by omega, by go_num, ⟨ints_kept HO.out (Used.set_blk (HU.out.at_ i b Hb.out).2) HG1.out⟩, ⟨HB.out.grown HG1.out HB.out.size (fun b' hb' => by cases hb'; exact (HU.out.at_ i b Hb.out).1)⟩, ⟨(HU.out.put Hb.out c HS1.out HG1.out).congr (fun q x _ => ?_)⟩⟩
                        by_cases e : q = i
                        · subst e
                          by_cases ex : x = c
                          · rw [if_pos ⟨rfl, ex⟩, if_pos ⟨by omega, Hbk.out, ex⟩]
                          · rw [if_neg (fun h => ex h.2), if_neg (fun h => ex h.2.2), if_neg (fun h => ex h.2.2)]
                        · rw [if_neg (fun h => e h.1)]
                          by_cases h2 : q < i
                          · simp [h2, show q < i + 1 by omega]
                          · simp [h2, show ¬ q < i + 1 by omega]
                  · have hltz : ¬ (i : Int) < (l0.length : Int) := by omega
                    have : i = l0.length := by omega
                    subst this
                    have hol : out.length ≤ 1000000 := by have := Hol.out; omega
                    go_wp2_with ((with_reducible refine gate_builtin (b := .append) (xs := #[.tmp 53, .tmp 55]) rfl ?_); at_builtin; refine Kd.R_append (Kd.int .i64) (w0 := w) w.heap.size rfl (.tmp 53) (.tmp 55) 23 3 (.int .i64 0) 8 rfl Try.underlying23 info3 rfl (by decide) (by omega) u5 out c [.int .i64 c] (fun _ => True) (fun _ => False) rfl rfl ?aP (fun _ hk => hk.elim) ?aF ?aO ?aB ?aS ?aL ?_; (case aP => exact rfl); (case aB => exact HB.out); (case aF => exact (fun _ _ => trivial)); (case aO => exact HO.out); (case aS => exact HB.out.size); (case aL => omega); intro v2 w2 ho2 hb2 hg2 _; have HO2 := Aside0.mk ho2; have HB2 := Aside0.mk hb2; have HG2 := Aside0.mk hg2; clear ho2 hb2 hg2)
                    go_roundg (a1.toNat - (k + 1))
                    case measure => have := Hn.out; omega
                    case rel =>
                      refine ⟨k + 1, cn, out ++ [c], by omega, by omega, by omega, by go_num, HO2, HB2, ⟨(HU.out.same (SameBut.of_grown HG2.out (fun q hq => own_typed (Kd.own_of_R HO.out) q hq))).congr (fun q x hq => ?_)⟩, ⟨by rw [List.length_append, Hol.out]; rfl⟩, ⟨by rw [show a1.toNat - (k + 1) = n by have := Hn.out; omega]; exact HP.out⟩⟩
                      have hbl : bs.length = l0.length := Hbl.out
                      have ho := Hol.out
                      subst ho
                      rw [seenAt_app]
                      by_cases ex : x = c
                      · subst ex
                        cases hrow : (l0.getD q []).getD out.length false <;> simp [hrow, show q < l0.length by omega]
                      · have : (c == x) = false := beq_eq_false_iff_ne.2 (Ne.symm ex)
                        rw [this, if_neg (fun h => ex h.2.2)]
                        simp
        · have hktz : ¬ (k : Int) < a1 := by omega
          have : k = a1.toNat := by omega
          subst this
          rw [Nat.sub_self] at HG
          have hout : out = r := Option.some.inj HG.out
          subst hout
          go_wp2_with fail
          go_ret
          exact ⟨_, rfl, HO.out, HB.out⟩
end

/-! ### sparse_Colours: function 11 -/
def sparse_Colours.f (l0 : List (List Bool)) (a1 : Int) : Option (List Int × Int) := (sparse_form.f l0 a1).bind fun t104 => (if t104 = 0 then ((sparse_colours.f l0 a1).bind fun t105 => (some (t105, 0))) else (some (([] : List Int), t104)))
set_option maxHeartbeats 8000000 in
set_option maxRecDepth 100000 in
theorem sparse_Colours.calls (A0 : Option Addr) (c0 : Nat) (l0 : List (List Bool)) (a1 : Int) (r1 : List Int) (r2 : Int) (w : World) (hr0 : Kd.C (Kd.slice 4 Kd.bool) w A0 l0.length l0) (hc0 : l0.length ≤ c0) (h : sparse_Colours.f l0 a1 = some (r1, r2)) :
    Calls Try.prog 11 #[.slice A0 l0.length c0, .int .i64 a1] w fun e w' => ∃ v0_ : Value, e = .returned (.tuple #[v0_, .int .i64 r2]) ∧ Kd.R (Kd.int .i64) 3 w' w.heap.size (fun _ => True) v0_ r1 ∧ Below w.heap.size w w' := by
  have HR0 := Aside0.mk hr0
  have HC0 := Aside0.mk hc0
  clear hr0 hc0
  have HB := Aside0.mk (Below.refl w.heap.size w)
  have H : ((sparse_form.f l0 a1).bind fun t104 => (if t104 = 0 then ((sparse_colours.f l0 a1).bind fun t105 => (some (t105, 0))) else (some (([] : List Int), t104)))) = some (r1, r2) := h
  clear h
  replace H := Option.bind_eq_some_iff.mp H
  obtain ⟨t104, A30, H⟩ := H
  replace H : (if t104 = 0 then ((sparse_colours.f l0 a1).bind fun t105 => (some (t105, 0))) else (some (([] : List Int), t104))) = some (r1, r2) := H
  have A3 := Aside0.mk A30
  clear A30
  by_cases c4 : t104 = 0
  · rw [if_pos c4] at H
    have c4b0 : (t104 == 0) = true := beq_iff_eq.mpr c4
    have c4b1 : (t104 != 0) = false := bne_eq_false_iff_eq.mpr c4
    clear c4
    replace H := Option.bind_eq_some_iff.mp H
    obtain ⟨t105, A50, H⟩ := H
    replace H : (some (t105, 0)) = some (r1, r2) := H
    have A5 := Aside0.mk A50
    clear A50
    simp only [Option.some.injEq, Prod.mk.injEq] at H
    obtain ⟨rfl, rfl⟩ := H
    go_enter Try.func11, Try.ntmps11
    go_wp2_with (first | ((with_reducible refine gate_callee (f := 24) rfl ?_); refine goesL_ (some 9) rfl rfl Try.func24 (by kernel_rfl) rfl #[.slice A0 l0.length c0, .int .i64 a1] rfl (by (try simp only [List.map_toArray, List.map_cons, List.map_nil]); first | done | rfl | (simp only [List.length_drop, List.length_take]; rfl)) ?_; (with_reducible refine (sparse_form.calls _ _ l0 a1 t104 _ ?side1 ?side2 A3.out).mono ?_); (case side1 => repeat (first | exact HR0.out | (with_reducible refine Kd.C_alloc ?_ _) | (with_reducible refine Kd.C_drewN ?_ _) | (with_reducible refine Kd.C_drew ?_))); (case side2 => exact HC0.out); rintro e w6 ⟨rfl, hb⟩; refine ⟨_, rfl, ?_⟩; have n0_ := Aside0.mk (below_step (by repeat (first | (with_reducible first | exact HB.out | apply below_alloc | apply pw_below_drewN | apply below_drew1) | exact HB.out)) hb); clear HB; have HB := n0_; clear n0_; (try clear hb); (try clear hb2); (try clear hk); (try clear hi)) | ((with_reducible refine gate_callee (f := 31) rfl ?_); refine goesL_ (some 15) rfl rfl Try.func31 (by kernel_rfl) rfl #[.slice A0 l0.length c0, .int .i64 a1] rfl (by (try simp only [List.map_toArray, List.map_cons, List.map_nil]); first | done | rfl | (simp only [List.length_drop, List.length_take]; rfl)) ?_; (with_reducible refine (sparse_colours.calls _ _ l0 a1 t105 _ ?side1 ?side2 A5.out).mono ?_); (case side1 => repeat (first | exact (Kd.C_below HR0.out HB.out) | (with_reducible refine Kd.C_alloc ?_ _) | (with_reducible refine Kd.C_drewN ?_ _) | (with_reducible refine Kd.C_drew ?_))); (case side2 => exact HC0.out); rintro e w7 ⟨v106, rfl, ho0, hb⟩; refine ⟨_, rfl, ?_⟩; have n0_ := Aside0.mk (Kd.R_lower ho0 (below_size (by repeat (first | (with_reducible first | exact HB.out | apply below_alloc | apply pw_below_drewN | apply below_drew1) | exact HB.out)))); have n1_ := Aside0.mk (below_step (by repeat (first | (with_reducible first | exact HB.out | apply below_alloc | apply pw_below_drewN | apply below_drew1) | exact HB.out)) hb); clear HB; have HO107 := n0_; have HB := n1_; clear n0_ n1_; (try clear hb); (try clear hb2); (try clear hk); (try clear hi); (try clear ho0)))
    go_ret2
    exact ⟨_, by first | rfl | (simp [errW_none, errW_some] <;> rfl) | (simp [*, errW_none, errW_some] <;> rfl), by (with_reducible repeat (first | apply Kd.R_alloc | apply Kd.R_drewN | apply Kd.R_drew)); exact HO107.out, by repeat (first | (with_reducible first | exact HB.out | apply below_alloc | apply pw_below_drewN | apply below_drew1) | exact HB.out)⟩
  · rw [if_neg c4] at H
    have c4b0 : (t104 == 0) = false := beq_eq_false_iff_ne.mpr c4
    have c4b1 : (t104 != 0) = true := bne_iff_ne.mpr c4
    simp only [Option.some.injEq, Prod.mk.injEq] at H
    obtain ⟨rfl, rfl⟩ := H
    go_enter Try.func11, Try.ntmps11
    go_wp2_with (first | ((with_reducible refine gate_callee (f := 24) rfl ?_); refine goesL_ (some 9) rfl rfl Try.func24 (by kernel_rfl) rfl #[.slice A0 l0.length c0, .int .i64 a1] rfl (by (try simp only [List.map_toArray, List.map_cons, List.map_nil]); first | done | rfl | (simp only [List.length_drop, List.length_take]; rfl)) ?_; (with_reducible refine (sparse_form.calls _ _ l0 a1 t104 _ ?side1 ?side2 A3.out).mono ?_); (case side1 => repeat (first | exact HR0.out | (with_reducible refine Kd.C_alloc ?_ _) | (with_reducible refine Kd.C_drewN ?_ _) | (with_reducible refine Kd.C_drew ?_))); (case side2 => exact HC0.out); rintro e w8 ⟨rfl, hb⟩; refine ⟨_, rfl, ?_⟩; have n0_ := Aside0.mk (below_step (by repeat (first | (with_reducible first | exact HB.out | apply below_alloc | apply pw_below_drewN | apply below_drew1) | exact HB.out)) hb); clear HB; have HB := n0_; clear n0_; (try clear hb); (try clear hb2); (try clear hk); (try clear hi)))
    go_ret2
    exact ⟨(.slice none 0 0), by first | rfl | (simp [errW_none, errW_some] <;> rfl) | (simp [*, errW_none, errW_some] <;> rfl), by first | exact Kd.R_nil _ _ _ _ _ | exact Kd.N_nil _ _ _ _ _ | exact Kd.V_nil _ _ _ _ _ | exact Kd.Q_nil _ _ _ _ _ | exact Kd.S_nil _ _ _ _ _, by repeat (first | (with_reducible first | exact HB.out | apply below_alloc | apply pw_below_drewN | apply below_drew1) | exact HB.out)⟩

/-! ### sparse_Widest: function 12 -/
mutual
def sparse_Widest.l0 : Nat → Int → List (List Bool) → Int → Int → Option (Int × Int)
  | 0, _, _, _, _ => none
  | k + 1, x7, x19, x20, x21 => if x21 < x20 then (if 0 ≤ x21 then (if x21 < (x19.length : Int) then (sparse_Widest.l1 k x7 0 x19 x20 x21 (rd_L1 x19 x21) ((rd_L1 x19 x21).length : Int) 0) else (none)) else (none)) else (some (x7, 0))
def sparse_Widest.l1 : Nat → Int → Int → List (List Bool) → Int → Int → List Bool → Int → Int → Option (Int × Int)
  | 0, _, _, _, _, _, _, _, _ => none
  | k + 1, x7, x10, x19, x20, x21, x25, x26, x27 => if x27 < x26 then (if 0 ≤ x27 then (if x27 < (x25.length : Int) then (if rdOf false x25 x27 = true then (sparse_Widest.l1 k x7 (wrap64 (x10 + 1)) x19 x20 x21 x25 x26 (wrap64 (x27 + 1))) else (sparse_Widest.l1 k x7 x10 x19 x20 x21 x25 x26 (wrap64 (x27 + 1)))) else (none)) else (none)) else (sparse_Widest.l0 k (mx x7 x10) x19 x20 (wrap64 (x21 + 1)))
end
def sparse_Widest.f (k : Nat) (l0 : List (List Bool)) (a1 : Int) : Option (Int × Int) := (sparse_form.f l0 a1).bind fun t108 => (if t108 = 0 then (sparse_Widest.l0 k 0 l0 (l0.length : Int) 0) else (some (0, t108)))
theorem sparse_Widest.mono_l : ∀ k, (∀ y0 y1 y2 y3, LeO (sparse_Widest.l0 k y0 y1 y2 y3) (sparse_Widest.l0 (k + 1) y0 y1 y2 y3)) ∧ (∀ y0 y1 y2 y3 y4 y5 y6 y7, LeO (sparse_Widest.l1 k y0 y1 y2 y3 y4 y5 y6 y7) (sparse_Widest.l1 (k + 1) y0 y1 y2 y3 y4 y5 y6 y7))
  | 0 => ⟨fun _ _ _ _ r h => by simp [sparse_Widest.l0] at h, fun _ _ _ _ _ _ _ _ r h => by simp [sparse_Widest.l1] at h⟩
  | k + 1 => by
    obtain ⟨ih0, ih1⟩ := sparse_Widest.mono_l k
    refine ⟨?_, ?_⟩
    · intro y0 y1 y2 y3
      unfold sparse_Widest.l0
      repeat' first
      | (with_reducible exact ih0 _ _ _ _)
      | (with_reducible exact ih1 _ _ _ _ _ _ _ _)
      | (with_reducible exact LeO.refl _)
      | (with_reducible exact LeO.none _)
      | (with_reducible refine LeO.ite ?_ ?_)
      | (with_reducible refine LeO.bind ?_ (fun _ => ?_))
      | exact ih0 _ _ _ _
      | exact ih1 _ _ _ _ _ _ _ _
      | exact LeO.none _
      | refine LeO.ite ?_ ?_
      | refine LeO.bind ?_ (fun _ => ?_)
    · intro y0 y1 y2 y3 y4 y5 y6 y7
      unfold sparse_Widest.l1
      repeat' first
      | (with_reducible exact ih0 _ _ _ _)
      | (with_reducible exact ih1 _ _ _ _ _ _ _ _)
      | (with_reducible exact LeO.refl _)
      | (with_reducible exact LeO.none _)
      | (with_reducible refine LeO.ite ?_ ?_)
      | (with_reducible refine LeO.bind ?_ (fun _ => ?_))
      | exact ih0 _ _ _ _
      | exact ih1 _ _ _ _ _ _ _ _
      | exact LeO.none _
      | refine LeO.ite ?_ ?_
      | refine LeO.bind ?_ (fun _ => ?_)
theorem sparse_Widest.mono : ∀ a0 a1 k, LeO (sparse_Widest.f k a0 a1) (sparse_Widest.f (k + 1) a0 a1) := by
  intro a0 a1 k
  obtain ⟨ih0, ih1⟩ := sparse_Widest.mono_l k
  unfold sparse_Widest.f
  repeat' first
      | (with_reducible exact ih0 _ _ _ _)
      | (with_reducible exact ih1 _ _ _ _ _ _ _ _)
      | (with_reducible exact LeO.refl _)
      | (with_reducible exact LeO.none _)
      | (with_reducible refine LeO.ite ?_ ?_)
      | (with_reducible refine LeO.bind ?_ (fun _ => ?_))
      | exact ih0 _ _ _ _
      | exact ih1 _ _ _ _ _ _ _ _
      | exact LeO.none _
      | refine LeO.ite ?_ ?_
      | refine LeO.bind ?_ (fun _ => ?_)
set_option maxHeartbeats 8000000 in
set_option maxRecDepth 100000 in
theorem sparse_Widest.calls (k : Nat) (A0 : Option Addr) (c0 : Nat) (l0 : List (List Bool)) (a1 : Int) (r1 : Int) (r2 : Int) (w : World) (hr0 : Kd.C (Kd.slice 4 Kd.bool) w A0 l0.length l0) (hc0 : l0.length ≤ c0) (h : sparse_Widest.f k l0 a1 = some (r1, r2)) :
    Calls Try.prog 12 #[.slice A0 l0.length c0, .int .i64 a1] w fun e w' => e = .returned (.tuple #[.int .i64 r1, .int .i64 r2]) ∧ Below w.heap.size w w' := by
  have HR0 := Aside0.mk hr0
  have HC0 := Aside0.mk hc0
  clear hr0 hc0
  have HB := Aside0.mk (Below.refl w.heap.size w)
  have H : ((sparse_form.f l0 a1).bind fun t108 => (if t108 = 0 then (sparse_Widest.l0 k 0 l0 (l0.length : Int) 0) else (some (0, t108)))) = some (r1, r2) := h
  clear h
  replace H := Option.bind_eq_some_iff.mp H
  obtain ⟨t108, A30, H⟩ := H
  replace H : (if t108 = 0 then (sparse_Widest.l0 k 0 l0 (l0.length : Int) 0) else (some (0, t108))) = some (r1, r2) := H
  have A3 := Aside0.mk A30
  clear A30
  by_cases c4 : t108 = 0
  · rw [if_pos c4] at H
    have c4b0 : (t108 == 0) = true := beq_iff_eq.mpr c4
    have c4b1 : (t108 != 0) = false := bne_eq_false_iff_eq.mpr c4
    clear c4
    have H' := Aside0.mk H
    clear H
    go_enter Try.func12, Try.ntmps12
    go_wp2_with (first | ((with_reducible refine gate_callee (f := 24) rfl ?_); refine goesL_ (some 15) rfl rfl Try.func24 (by kernel_rfl) rfl #[.slice A0 l0.length c0, .int .i64 a1] rfl (by (try simp only [List.map_toArray, List.map_cons, List.map_nil]); first | done | rfl | (simp only [List.length_drop, List.length_take]; rfl)) ?_; (with_reducible refine (sparse_form.calls _ _ l0 a1 t108 _ ?side1 ?side2 A3.out).mono ?_); (case side1 => repeat (first | exact HR0.out | (with_reducible refine Kd.C_alloc ?_ _) | (with_reducible refine Kd.C_drewN ?_ _) | (with_reducible refine Kd.C_drew ?_))); (case side2 => exact HC0.out); rintro e w5 ⟨rfl, hb⟩; refine ⟨_, rfl, ?_⟩; have n0_ := Aside0.mk (below_step (by repeat (first | (with_reducible first | exact HB.out | apply below_alloc | apply pw_below_drewN | apply below_drew1) | exact HB.out)) hb); clear HB; have HB := n0_; clear n0_; (try clear hb); (try clear hb2); (try clear hk); (try clear hi)))
    go_loopg [7, 21] k (fun kq v7 v21 w' => ∃ (x7_1 : Int) (x21_1 : Int), v7 = .int .i64 x7_1 ∧ v21 = .int .i64 x21_1 ∧ Aside0 (sparse_Widest.l0 kq x7_1 l0 (l0.length : Int) x21_1 = some (r1, r2)) ∧ Aside0 (kq ≤ k) ∧ Aside0 (Below w.heap.size w w'))
    case atStart => exact ⟨(0), (0), (by first | rfl | (simp; done) | (simp [*]; done)), (by first | rfl | (simp; done) | (simp [*]; done)), H', ⟨Nat.le_refl _⟩, ⟨by repeat (first | (with_reducible first | exact HB.out | apply below_alloc | apply pw_below_drewN | apply below_drew1) | exact HB.out)⟩⟩
    case round =>
      clear H'
      try clear c1
      try clear c2
      try clear p2
      try clear c4
      try clear c4b0
      try clear c4b1
      obtain ⟨x7_1, x21_1, rfl, rfl, HA, HK1, HB⟩ := hrel
      cases gk with
      | zero => exact absurd HA.out (by simp [sparse_Widest.l0])
      | succ k1 =>
        have H := HA.out
        clear HA
        simp only [sparse_Widest.l0] at H
        by_cases c6 : x21_1 < (l0.length : Int)
        · rw [if_pos c6] at H
          have c6b0 : decide (x21_1 < (l0.length : Int)) = true := decide_eq_true c6
          clear c6
          by_cases c7 : 0 ≤ x21_1
          · rw [if_pos c7] at H
            have c7b0 : decide (0 ≤ x21_1) = true := decide_eq_true c7
            clear c7
            by_cases c8 : x21_1 < (l0.length : Int)
            · rw [if_pos c8] at H
              have c8b0 : decide (x21_1 < (l0.length : Int)) = true := decide_eq_true c8
              clear c8
              have H' := Aside0.mk H
              clear H
              have p109 : 0 ≤ (x21_1 : Int) := of_decide_eq_true (by first | (with_reducible assumption) | assumption)
              have q109 : x21_1 < (l0.length : Int) := of_decide_eq_true (by first | (with_reducible assumption) | assumption)
              obtain ⟨ad109, A109_0, c109_0, e109, hx109_0, hl109_0, hi109_0⟩ := at_L1 HR0.out x21_1 p109 q109
              cases e109
              replace hx109_0 := (HB.out.cell (World.block_lt_of_cell? w _ hx109_0)).trans hx109_0
              have HR109_0 := Aside0.mk hi109_0
              have HC109_0 := Aside0.mk hl109_0
              clear hi109_0 hl109_0
              replace p109 := eq_true p109
              replace q109 := eq_true q109
              go_wp2
              go_loopg [10, 27] k1 (fun kq v10 v27 w' => ∃ (x10_2 : Int) (x27_2 : Int), v10 = .int .i64 x10_2 ∧ v27 = .int .i64 x27_2 ∧ Aside0 (sparse_Widest.l1 kq x7_1 x10_2 l0 (l0.length : Int) x21_1 (rd_L1 l0 x21_1) ((rd_L1 l0 x21_1).length : Int) x27_2 = some (r1, r2)) ∧ Aside0 (kq ≤ k1) ∧ Aside0 (Below w.heap.size w w'))
              case atStart => exact ⟨(0), (0), (by first | rfl | (simp; done) | (simp [*]; done)), (by first | rfl | (simp; done) | (simp [*]; done)), H', ⟨Nat.le_refl _⟩, ⟨by repeat (first | (with_reducible first | exact HB.out | apply below_alloc | apply pw_below_drewN | apply below_drew1) | exact HB.out)⟩⟩
              case round =>
                clear H'
                try clear c1
                try clear p1
                try clear q1
                try clear hx1
                try clear c2
                try clear p2
                try clear c4
                try clear c4b0
                try clear c4b1
                try clear c6
                try clear c6b0
                try clear c7
                try clear c7b0
                try clear c8
                try clear c8b0
                try clear hx109_0
                try clear p109
                try clear p2
                try clear q109
                obtain ⟨x10_2, x27_2, rfl, rfl, HA, HK2, HB⟩ := hrel
                cases gk with
                | zero => exact absurd HA.out (by simp [sparse_Widest.l1])
                | succ k2 =>
                  have H := HA.out
                  clear HA
                  simp only [sparse_Widest.l1] at H
                  by_cases c9 : x27_2 < ((rd_L1 l0 x21_1).length : Int)
                  · rw [if_pos c9] at H
                    have c9b0 : decide (x27_2 < ((rd_L1 l0 x21_1).length : Int)) = true := decide_eq_true c9
                    clear c9
                    by_cases c10 : 0 ≤ x27_2
                    · rw [if_pos c10] at H
                      have c10b0 : decide (0 ≤ x27_2) = true := decide_eq_true c10
                      clear c10
                      by_cases c11 : x27_2 < ((rd_L1 l0 x21_1).length : Int)
                      · rw [if_pos c11] at H
                        have c11b0 : decide (x27_2 < ((rd_L1 l0 x21_1).length : Int)) = true := decide_eq_true c11
                        clear c11
                        obtain ⟨bq12, hbq12⟩ : ∃ b_ : Bool, b_ = (rdOf false (rd_L1 l0 x21_1) x27_2) := ⟨_, rfl⟩
                        replace H : (if bq12 = true then (sparse_Widest.l1 k2 x7_1 (wrap64 (x10_2 + 1)) l0 (l0.length : Int) x21_1 (rd_L1 l0 x21_1) ((rd_L1 l0 x21_1).length : Int) (wrap64 (x27_2 + 1))) else (sparse_Widest.l1 k2 x7_1 x10_2 l0 (l0.length : Int) x21_1 (rd_L1 l0 x21_1) ((rd_L1 l0 x21_1).length : Int) (wrap64 (x27_2 + 1)))) = some (r1, r2) := by rw [← hbq12] at H; exact H
                        have Nbq12 := Aside0.mk hbq12
                        clear hbq12
                        by_cases c13 : bq12 = true
                        · subst c13
                          have H1 : (sparse_Widest.l1 k2 x7_1 (wrap64 (x10_2 + 1)) l0 (l0.length : Int) x21_1 (rd_L1 l0 x21_1) ((rd_L1 l0 x21_1).length : Int) (wrap64 (x27_2 + 1))) = some (r1, r2) := by rw [if_pos rfl] at H; exact H
                          clear H
                          have H := H1
                          clear H1
                          have H' := Aside0.mk H
                          clear H
                          have p110 : 0 ≤ (x27_2 : Int) := of_decide_eq_true (by first | (with_reducible assumption) | assumption)
                          have q110 : x27_2 < ((rd_L1 l0 x21_1).length : Int) := of_decide_eq_true (by first | (with_reducible assumption) | assumption)
                          obtain ⟨ad110, e110, hx110_0⟩ := Kd.at_bool HR109_0.out x27_2 p110 q110
                          (try rw [← Nbq12.out] at hx110_0)
                          cases e110
                          replace hx110_0 := (HB.out.cell (World.block_lt_of_cell? w _ hx110_0)).trans hx110_0
                          replace p110 := eq_true p110
                          replace q110 := eq_true q110
                          go_wp2
                          go_roundg k2
                          case measure => have := HK1.out; have := HK2.out; omega
                          case rel => exact ⟨(wrap64 (x10_2 + 1)), (wrap64 (x27_2 + 1)), (by first | rfl | (simp; done) | (simp [*]; done)), (by first | rfl | (simp; done) | (simp [*]; done)), H', ⟨by have := HK1.out; have := HK2.out; omega⟩, ⟨by repeat (first | (with_reducible first | exact HB.out | apply below_alloc | apply pw_below_drewN | apply below_drew1) | exact HB.out)⟩⟩
                        · replace c13 := Bool.eq_false_iff.mpr c13
                          subst c13
                          have H1 : (sparse_Widest.l1 k2 x7_1 x10_2 l0 (l0.length : Int) x21_1 (rd_L1 l0 x21_1) ((rd_L1 l0 x21_1).length : Int) (wrap64 (x27_2 + 1))) = some (r1, r2) := by rw [if_neg (show ¬ (false = true) by decide)] at H; exact H
                          clear H
                          have H := H1
                          clear H1
                          have H' := Aside0.mk H
                          clear H
                          have p110 : 0 ≤ (x27_2 : Int) := of_decide_eq_true (by first | (with_reducible assumption) | assumption)
                          have q110 : x27_2 < ((rd_L1 l0 x21_1).length : Int) := of_decide_eq_true (by first | (with_reducible assumption) | assumption)
                          obtain ⟨ad110, e110, hx110_0⟩ := Kd.at_bool HR109_0.out x27_2 p110 q110
                          (try rw [← Nbq12.out] at hx110_0)
                          cases e110
                          replace hx110_0 := (HB.out.cell (World.block_lt_of_cell? w _ hx110_0)).trans hx110_0
                          replace p110 := eq_true p110
                          replace q110 := eq_true q110
                          go_wp2
                          go_roundg k2
                          case measure => have := HK1.out; have := HK2.out; omega
                          case rel => exact ⟨(x10_2), (wrap64 (x27_2 + 1)), (by first | rfl | (simp; done) | (simp [*]; done)), (by first | rfl | (simp; done) | (simp [*]; done)), H', ⟨by have := HK1.out; have := HK2.out; omega⟩, ⟨by repeat (first | (with_reducible first | exact HB.out | apply below_alloc | apply pw_below_drewN | apply below_drew1) | exact HB.out)⟩⟩
                      · rw [if_neg c11] at H
                        exact absurd H (by simp)
                    · rw [if_neg c10] at H
                      exact absurd H (by simp)
                  · rw [if_neg c9] at H
                    have c9b0 : decide (x27_2 < ((rd_L1 l0 x21_1).length : Int)) = false := decide_eq_false c9
                    clear c9
                    obtain ⟨ji14, hji14⟩ : ∃ j_ : Int, (mx x7_1 x10_2) = j_ := ⟨_, rfl⟩
                    replace H : (sparse_Widest.l0 k2 ji14 l0 (l0.length : Int) (wrap64 (x21_1 + 1))) = some (r1, r2) := by first | (rw [hji14] at H; exact H) | (simp only [hji14] at H ⊢; exact H)
                    have hji14_ : (if x7_1 < x10_2 then x10_2 else x7_1) = ji14 := hji14
                    have H' := Aside0.mk H
                    clear H
                    go_wp2
                    go_roundg k2
                    case measure => have := HK1.out; have := HK2.out; omega
                    case rel => exact ⟨(ji14), (wrap64 (x21_1 + 1)), (by first | rfl | (simp; done) | (simp only [← hji14] <;> (first | rfl | simp)) | (simp [*]; done)), (by first | rfl | (simp; done) | (simp [*]; done)), H', ⟨by have := HK1.out; have := HK2.out; omega⟩, ⟨by repeat (first | (with_reducible first | exact HB.out | apply below_alloc | apply pw_below_drewN | apply below_drew1) | exact HB.out)⟩⟩
            · rw [if_neg c8] at H
              exact absurd H (by simp)
          · rw [if_neg c7] at H
            exact absurd H (by simp)
        · rw [if_neg c6] at H
          have c6b0 : decide (x21_1 < (l0.length : Int)) = false := decide_eq_false c6
          clear c6
          simp only [Option.some.injEq, Prod.mk.injEq] at H
          obtain ⟨rfl, rfl⟩ := H
          go_wp2
          go_ret2
          exact ⟨by first | rfl | (simp [errW_none, errW_some] <;> rfl) | (simp [*, errW_none, errW_some] <;> rfl), by repeat (first | (with_reducible first | exact HB.out | apply below_alloc | apply pw_below_drewN | apply below_drew1) | exact HB.out)⟩
  · rw [if_neg c4] at H
    have c4b0 : (t108 == 0) = false := beq_eq_false_iff_ne.mpr c4
    have c4b1 : (t108 != 0) = true := bne_iff_ne.mpr c4
    simp only [Option.some.injEq, Prod.mk.injEq] at H
    obtain ⟨rfl, rfl⟩ := H
    go_enter Try.func12, Try.ntmps12
    go_wp2_with (first | ((with_reducible refine gate_callee (f := 24) rfl ?_); refine goesL_ (some 15) rfl rfl Try.func24 (by kernel_rfl) rfl #[.slice A0 l0.length c0, .int .i64 a1] rfl (by (try simp only [List.map_toArray, List.map_cons, List.map_nil]); first | done | rfl | (simp only [List.length_drop, List.length_take]; rfl)) ?_; (with_reducible refine (sparse_form.calls _ _ l0 a1 t108 _ ?side1 ?side2 A3.out).mono ?_); (case side1 => repeat (first | exact HR0.out | (with_reducible refine Kd.C_alloc ?_ _) | (with_reducible refine Kd.C_drewN ?_ _) | (with_reducible refine Kd.C_drew ?_))); (case side2 => exact HC0.out); rintro e w15 ⟨rfl, hb⟩; refine ⟨_, rfl, ?_⟩; have n0_ := Aside0.mk (below_step (by repeat (first | (with_reducible first | exact HB.out | apply below_alloc | apply pw_below_drewN | apply below_drew1) | exact HB.out)) hb); clear HB; have HB := n0_; clear n0_; (try clear hb); (try clear hb2); (try clear hk); (try clear hi)))
    go_ret2
    exact ⟨by first | rfl | (simp [errW_none, errW_some] <;> rfl) | (simp [*, errW_none, errW_some] <;> rfl), by repeat (first | (with_reducible first | exact HB.out | apply below_alloc | apply pw_below_drewN | apply below_drew1) | exact HB.out)⟩

/-! ### fluxionref08_Ints: function 13 -/
def fluxionref08_Ints.l0 : Nat → List Int → List Int → Int → Option (Bool)
  | 0, _, _, _ => none
  | k + 1, x0, x1, x5 => if x5 < (x0.length : Int) then (if 0 ≤ x5 then (if x5 < (x1.length : Int) then (if (rd x0 x5) = (rd x1 x5) then (fluxionref08_Ints.l0 k x0 x1 (wrap64 (x5 + 1))) else (some false)) else (none)) else (none)) else (some true)
def fluxionref08_Ints.f (k : Nat) (l0 : List Int) (l1 : List Int) : Option (Bool) := if (l0.length : Int) = (l1.length : Int) then (fluxionref08_Ints.l0 k l0 l1 0) else (some false)
theorem fluxionref08_Ints.mono_l : ∀ k, (∀ y0 y1 y2, LeO (fluxionref08_Ints.l0 k y0 y1 y2) (fluxionref08_Ints.l0 (k + 1) y0 y1 y2))
  | 0 => fun _ _ _ r h => by simp [fluxionref08_Ints.l0] at h
  | k + 1 => by
    have ih0 := fluxionref08_Ints.mono_l k
    · intro y0 y1 y2
      unfold fluxionref08_Ints.l0
      repeat' first
      | (with_reducible exact ih0 _ _ _)
      | (with_reducible exact LeO.refl _)
      | (with_reducible exact LeO.none _)
      | (with_reducible refine LeO.ite ?_ ?_)
      | (with_reducible refine LeO.bind ?_ (fun _ => ?_))
      | exact ih0 _ _ _
      | exact LeO.none _
      | refine LeO.ite ?_ ?_
      | refine LeO.bind ?_ (fun _ => ?_)
theorem fluxionref08_Ints.mono : ∀ a0 a1 k, LeO (fluxionref08_Ints.f k a0 a1) (fluxionref08_Ints.f (k + 1) a0 a1) := by
  intro a0 a1 k
  have ih0 := fluxionref08_Ints.mono_l k
  unfold fluxionref08_Ints.f
  repeat' first
      | (with_reducible exact ih0 _ _ _)
      | (with_reducible exact LeO.refl _)
      | (with_reducible exact LeO.none _)
      | (with_reducible refine LeO.ite ?_ ?_)
      | (with_reducible refine LeO.bind ?_ (fun _ => ?_))
      | exact ih0 _ _ _
      | exact LeO.none _
      | refine LeO.ite ?_ ?_
      | refine LeO.bind ?_ (fun _ => ?_)
set_option maxHeartbeats 8000000 in
set_option maxRecDepth 100000 in
theorem fluxionref08_Ints.calls (k : Nat) (A0 : Option Addr) (c0 : Nat) (l0 : List Int) (A1 : Option Addr) (c1 : Nat) (l1 : List Int) (r : Bool) (w : World) (hr0 : Kd.C (Kd.int .i64) w A0 l0.length l0) (hc0 : l0.length ≤ c0) (hr1 : Kd.C (Kd.int .i64) w A1 l1.length l1) (hc1 : l1.length ≤ c1) (h : fluxionref08_Ints.f k l0 l1 = some r) :
    Calls Try.prog 13 #[.slice A0 l0.length c0, .slice A1 l1.length c1] w fun e w' => e = .returned (.bool r) ∧ Drawn0 w w' := by
  have HR0 := Aside0.mk hr0
  have HC0 := Aside0.mk hc0
  clear hr0 hc0
  have HR1 := Aside0.mk hr1
  have HC1 := Aside0.mk hc1
  clear hr1 hc1
  have H : (if (l0.length : Int) = (l1.length : Int) then (fluxionref08_Ints.l0 k l0 l1 0) else (some false)) = some r := h
  clear h
  by_cases c3 : (l0.length : Int) = (l1.length : Int)
  · rw [if_pos c3] at H
    have c3b0 : ((l0.length : Int) == (l1.length : Int)) = true := beq_iff_eq.mpr c3
    have c3b1 : ((l0.length : Int) != (l1.length : Int)) = false := bne_eq_false_iff_eq.mpr c3
    have c3b2 : (l0.length == l1.length) = true := by first | simpa using c3 | (simp at c3 ⊢; omega)
    clear c3
    have H' := Aside0.mk H
    clear H
    go_enter Try.func13, Try.ntmps13
    go_wp2
    repeat (go_quiet (fail); try go_wp2)
    go_loopg [5] k (fun kq v5 w' => ∃ (x5_1 : Int), v5 = .int .i64 x5_1 ∧ Aside0 (fluxionref08_Ints.l0 kq l0 l1 x5_1 = some r) ∧ Aside0 (kq ≤ k) ∧ Drawn0 w w')
    case atStart => exact ⟨(0), (by first | rfl | (simp; done) | (simp [*]; done)), H', ⟨Nat.le_refl _⟩, by repeat (first | exact Drawn0.refl _ | apply Drawn0.step)⟩
    case round =>
      clear H'
      try clear c1
      try clear p2
      try clear c3
      try clear c3b0
      try clear c3b1
      try clear c3b2
      obtain ⟨x5_1, rfl, HA, HK1, ⟨m1, rfl⟩⟩ := hrel
      cases gk with
      | zero => exact absurd HA.out (by simp [fluxionref08_Ints.l0])
      | succ k1 =>
        have H := HA.out
        clear HA
        simp only [fluxionref08_Ints.l0] at H
        by_cases c4 : x5_1 < (l0.length : Int)
        · rw [if_pos c4] at H
          have c4b0 : decide (x5_1 < (l0.length : Int)) = true := decide_eq_true c4
          clear c4
          by_cases c5 : 0 ≤ x5_1
          · rw [if_pos c5] at H
            have c5b0 : decide (0 ≤ x5_1) = true := decide_eq_true c5
            clear c5
            by_cases c6 : x5_1 < (l1.length : Int)
            · rw [if_pos c6] at H
              have c6b0 : decide (x5_1 < (l1.length : Int)) = true := decide_eq_true c6
              clear c6
              by_cases c7 : (rd l0 x5_1) = (rd l1 x5_1)
              · rw [if_pos c7] at H
                have c7b0 : ((rd l0 x5_1) == (rd l1 x5_1)) = true := beq_iff_eq.mpr c7
                have c7b1 : ((rd l0 x5_1) != (rd l1 x5_1)) = false := bne_eq_false_iff_eq.mpr c7
                clear c7
                have H' := Aside0.mk H
                clear H
                have p111 : 0 ≤ (x5_1 : Int) := of_decide_eq_true (by first | (with_reducible assumption) | assumption)
                have q111 : x5_1 < (l0.length : Int) := of_decide_eq_true (by first | (with_reducible assumption) | assumption)
                obtain ⟨ad111, e111, hx111_0⟩ := Kd.at_int HR0.out x5_1 p111 q111
                cases e111
                replace p111 := eq_true p111
                replace q111 := eq_true q111
                have p112 : 0 ≤ (x5_1 : Int) := of_decide_eq_true (by first | (with_reducible assumption) | assumption)
                have q112 : x5_1 < (l1.length : Int) := of_decide_eq_true (by first | (with_reducible assumption) | assumption)
                obtain ⟨ad112, e112, hx112_0⟩ := Kd.at_int HR1.out x5_1 p112 q112
                cases e112
                replace p112 := eq_true p112
                replace q112 := eq_true q112
                go_wp2
                repeat (go_quiet (fail); try go_wp2)
                go_roundg k1
                case measure => have := HK1.out; omega
                case rel => exact ⟨(wrap64 (x5_1 + 1)), (by first | rfl | (simp; done) | (simp [*]; done)), H', ⟨by have := HK1.out; omega⟩, by repeat (first | exact Drawn0.refl _ | apply Drawn0.step)⟩
              · rw [if_neg c7] at H
                have c7b0 : ((rd l0 x5_1) == (rd l1 x5_1)) = false := beq_eq_false_iff_ne.mpr c7
                have c7b1 : ((rd l0 x5_1) != (rd l1 x5_1)) = true := bne_iff_ne.mpr c7
                obtain rfl := Option.some.inj H
                have p111 : 0 ≤ (x5_1 : Int) := of_decide_eq_true (by first | (with_reducible assumption) | assumption)
                have q111 : x5_1 < (l0.length : Int) := of_decide_eq_true (by first | (with_reducible assumption) | assumption)
                obtain ⟨ad111, e111, hx111_0⟩ := Kd.at_int HR0.out x5_1 p111 q111
                cases e111
                replace p111 := eq_true p111
                replace q111 := eq_true q111
                have p112 : 0 ≤ (x5_1 : Int) := of_decide_eq_true (by first | (with_reducible assumption) | assumption)
                have q112 : x5_1 < (l1.length : Int) := of_decide_eq_true (by first | (with_reducible assumption) | assumption)
                obtain ⟨ad112, e112, hx112_0⟩ := Kd.at_int HR1.out x5_1 p112 q112
                cases e112
                replace p112 := eq_true p112
                replace q112 := eq_true q112
                go_wp2
                repeat (go_quiet (fail); try go_wp2)
                go_ret
                exact ⟨by first | rfl | (simp; done) | (simp [*]; done), by repeat (first | exact Drawn0.refl _ | apply Drawn0.step)⟩
            · rw [if_neg c6] at H
              exact absurd H (by simp)
          · rw [if_neg c5] at H
            exact absurd H (by simp)
        · rw [if_neg c4] at H
          have c4b0 : decide (x5_1 < (l0.length : Int)) = false := decide_eq_false c4
          clear c4
          obtain rfl := Option.some.inj H
          go_wp2
          repeat (go_quiet (fail); try go_wp2)
          go_ret
          exact ⟨by first | rfl | (simp; done) | (simp [*]; done), by repeat (first | exact Drawn0.refl _ | apply Drawn0.step)⟩
  · rw [if_neg c3] at H
    have c3b0 : ((l0.length : Int) == (l1.length : Int)) = false := beq_eq_false_iff_ne.mpr c3
    have c3b1 : ((l0.length : Int) != (l1.length : Int)) = true := bne_iff_ne.mpr c3
    have c3b2 : (l0.length == l1.length) = false := by first | simpa using c3 | (simp at c3 ⊢; omega)
    obtain rfl := Option.some.inj H
    go_enter Try.func13, Try.ntmps13
    go_wp2
    repeat (go_quiet (fail); try go_wp2)
    go_ret
    exact ⟨by first | rfl | (simp; done) | (simp [*]; done), by repeat (first | exact Drawn0.refl _ | apply Drawn0.step)⟩

end Go.Proofs.Ytjjbondlcjnaiaa.PSparseMany
