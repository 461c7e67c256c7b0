/- 'fluxion/fluxionlaw19.SparseJoined': for every input the law returns true; the arguments read behind the call as they read before. What it lists of the package variable trace.has is tied to the program's text (the card). (The row, out of the law's plain statement and the walk of its code.) -/
import Derived.Test.YtjjbondlcjnaiaaDoorRows
import Derived.Test.YtjjbondlcjnaiaaDoorCards
import Derived.Test.YtjjbondlcjnaiaaDoorTie
import Derived.SevenTiedAt
import Derived.Test.YtjjbondlcjnaiaaDoorPSparseJoinedx17
import Derived.Test.YtjjbondlcjnaiaaDoorPureSparseJoined
import Derived.Test.YtjjbondlcjnaiaaDoorOpen
import Derived.WalkKit
import Derived.ProofKit
import Derived.OpenShut
import Derived.ShutString
import Derived.ChangeOld
import Derived.ChangeSame
import Derived.ChangeVars
import Derived.JoinedOf
import Derived.Below
import Derived.SizedLaws
import Derived.LaidLaws
namespace Go.Proofs.YtjjbondlcjnaiaaDoor.sparseJoined
open Go.ChangeShapes Go.WideShapes Go.ChangeAt Go.RowKit Go.Proofs.YtjjbondlcjnaiaaDoorW.PrintWords Go.Proofs.YtjjbondlcjnaiaaDoor.Open
open Go.ChangeMaps (open_string shut_string)
open PSparseJoined (HasT kindA kindB kindN)
set_option linter.unusedVariables false
set_option maxRecDepth 100000
theorem own : ownKnob Tryd.prog.godebug = none := by kernel_rfl
theorem laidOut : laidOutB Tryd.prog = true := by kernel_rfl
theorem gHas : Tryd.prog.globalNamed "fluxion/trace.has" = some 0 := by kernel_rfl
theorem gHasType : (Tryd.prog.globals[0]?).map (·.type) = some 91 := by kernel_rfl
theorem u91 : Tryd.prog.underlying 91 = some (.array 8 90) := by kernel_rfl
theorem u90 : Tryd.prog.underlying 90 = some (.array 3 4) := by kernel_rfl
theorem cells91 : Tryd.prog.cellsOf 91 = 24 := by kernel_rfl
theorem cells90 : Tryd.prog.cellsOf 90 = 3 := by kernel_rfl
theorem cells4 : Tryd.prog.cellsOf 4 = 1 := by kernel_rfl
def row3 {H : Type} (k : Nat) : DataW H := .agg [.lit (.bool (kindA k)), .lit (.bool (kindB k)), .lit (.bool (kindN k))]
theorem datum (H : Type) : (Rows.laid_fluxion_trace_has : DataW H) = .agg ((List.range 8).map row3) := rfl
theorem three {H : Type} {enc : TypeId × Value → H} {w : World} {base : Nat} {sp : Nat → Bool} {held : Bool} {fuel : Nat} {cs : List Value} {a b c : Bool} {p : List MemPlace}
    (h : DataW.trod enc Tryd.prog w base sp held fuel 90 cs = some (.agg [.lit (.bool a), .lit (.bool b), .lit (.bool c)], p)) : cs = [.bool a, .bool b, .bool c] := by
  obtain ⟨xs, m, rfl, hx, hl, hxl, hi⟩ := DataW.trod_array u90 h
  rw [cells90] at hl
  match xs, hxl with
  | [x0, x1, x2], _ =>
    have e0 := hi 0 (by decide)
    have e1 := hi 1 (by decide)
    have e2 := hi 2 (by decide)
    rw [cells4] at e0 e1 e2
    match cs, hl with
    | [c0, c1, c2], _ =>
      obtain ⟨b0, h0, rfl⟩ := DataW.trod_bool Tryd.underlying4 (e0.trans rfl)
      obtain ⟨b1, h1, rfl⟩ := DataW.trod_bool Tryd.underlying4 (e1.trans rfl)
      obtain ⟨b2, h2, rfl⟩ := DataW.trod_bool Tryd.underlying4 (e2.trans rfl)
      simp at h0 h1 h2 hx
      obtain ⟨⟨rfl, rfl, rfl⟩, _⟩ := hx
      rw [h0, h1, h2]
theorem hasT_of_laid {W : World} (h : laidMet Tryd.prog [("fluxion/trace.has", Rows.laid_fluxion_trace_has)] W) : HasT W := by
  obtain ⟨ps, ⟨g, t, cs, fuel, p, q, hg, ht, hvar, hd, _, _⟩, _⟩ := h
  obtain rfl := Option.some.inj (gHas.symm.trans hg)
  obtain rfl := Option.some.inj (gHasType.symm.trans ht)
  rw [datum] at hd
  obtain ⟨xs, m, rfl, hx, hl, hxl, hi⟩ := DataW.trod_array u91 hd
  intro k hk
  have h1 := hi k hk
  have hx1 : xs.map (·.1) = (List.range 8).map row3 := by injection hx with hx _; injection hx with hx; exact hx.symm
  have hk8 : k < xs.length := by omega
  have hv : xs[k].1 = row3 k := by
    have := congrArg (·[k]?) hx1
    simp only [List.getElem?_map, List.getElem?_eq_getElem hk8, List.getElem?_range hk, Option.map_some, Option.some.injEq] at this
    exact this
  rw [List.getElem?_eq_getElem hk8, cells90, show xs[k] = (row3 k, xs[k].2) from by rw [← hv]] at h1
  have h2 := three h1
  have at_ : ∀ j, j < 3 → W.cell? ⟨0, k * 3 + j, none⟩ = ([.bool (kindA k), .bool (kindB k), .bool (kindN k)] : List Value)[j]? := fun j hj => by
    rw [World.var?_cell gHas hvar (k * 3 + j), ← h2]
    simp [List.getElem?_drop, hj]
  exact ⟨at_ 0 (by decide), at_ 1 (by decide), at_ 2 (by decide)⟩
theorem opens_rat : Opens Tryd.prog PSparseJoined.k42 (fun x => (Lit.int .i64 x.f0).wf = true ∧ True ∧ (∀ a, a ∈ x.f2 → (Lit.int .u32 a).wf = true) ∧ (∀ a, a ∈ x.f3 → (Lit.int .u32 a).wf = true)) 42 :=
  opens_struct4 Tryd.underlying42 (by kernel_rfl) (by kernel_rfl) (by kernel_rfl) (by kernel_rfl) (by kernel_rfl) rfl rfl rfl rfl (fun a b c d => ⟨⟨a, b, c, d⟩, rfl⟩) (opens_int (by kernel_rfl)) (opens_bool (by kernel_rfl)) (opens_slice (by kernel_rfl) (by kernel_rfl) (opens_int (by kernel_rfl))) (opens_slice (by kernel_rfl) (by kernel_rfl) (opens_int (by kernel_rfl)))
abbrev wfStep (s : PSparseJoined.S44) : Prop := (Lit.int .i64 s.f0).wf = true ∧ (Lit.int .i64 s.f1).wf = true ∧ (Lit.int .i64 s.f2).wf = true ∧ ((Lit.int .i64 s.f3.f0).wf = true ∧ True ∧ (∀ a, a ∈ s.f3.f2 → (Lit.int .u32 a).wf = true) ∧ (∀ a, a ∈ s.f3.f3 → (Lit.int .u32 a).wf = true))
theorem opens_step : Opens Tryd.prog PSparseJoined.k44 (fun s => (Lit.int .i64 s.f0).wf = true ∧ (Lit.int .i64 s.f1).wf = true ∧ (Lit.int .i64 s.f2).wf = true ∧ ((Lit.int .i64 s.f3.f0).wf = true ∧ True ∧ (∀ a, a ∈ s.f3.f2 → (Lit.int .u32 a).wf = true) ∧ (∀ a, a ∈ s.f3.f3 → (Lit.int .u32 a).wf = true))) 44 :=
  opens_struct4 Tryd.underlying44 (by kernel_rfl) (by kernel_rfl) (by kernel_rfl) (by kernel_rfl) (by kernel_rfl) rfl rfl rfl rfl (fun a b c d => ⟨⟨a, b, c, d⟩, rfl⟩) (opens_int (by kernel_rfl)) (opens_int (by kernel_rfl)) (opens_int (by kernel_rfl)) opens_rat
theorem open_tape {H : Type} {enc : TypeId × Value → H} {W : World} {base : Nat} {sp : Nat → Bool} {held : Bool} {cs : Array Value} {d : DataW H} {p : List MemPlace} (hk : DataW.Trod enc Tryd.prog W base sp held 25 (.agg cs) d p) :
    ∃ (n : Int) (A1 : Option Addr) (c1 : Nat) (ss : List PSparseJoined.S44) (A2 : Option Addr) (c2 : Nat) (os : List Int), cs = #[.int .i64 n, .slice A1 ss.length c1, .slice A2 os.length c2] ∧ Kd.C PSparseJoined.k44 W A1 ss.length ss ∧ ss.length ≤ c1 ∧ Kd.C (Kd.int .i64) W A2 os.length os ∧ os.length ≤ c2 ∧ ∀ s, s ∈ ss → wfStep s := by
  obtain ⟨fuel, hf⟩ := hk
  obtain ⟨xs, m, rfl, hx, hl, hxl, hi⟩ := DataW.trod_struct Tryd.underlying25 hf
  have hl3 : cs.toList.length = 3 := by
    have : (Value.agg cs).cells.toList.length = Tryd.prog.cellsOf 25 := hl
    rw [show Tryd.prog.cellsOf 25 = 3 by kernel_rfl] at this
    exact this
  obtain ⟨l⟩ := cs
  match l, hl3 with
  | [v0, v1, v2], _ =>
    match xs, hxl with
    | [x0, x1, x2], _ =>
      have e0 := (hi 0 _ rfl).trans rfl
      have e1 := (hi 1 _ rfl).trans rfl
      have e2 := (hi 2 _ rfl).trans rfl
      obtain ⟨n, hn, _⟩ := opens_int Tryd.underlying3 _ _ _ _ _ _ _ _ _ e0
      obtain ⟨ss, ⟨A1, c1, hs, g1, C1⟩, w1⟩ := opens_slice Tryd.underlying22 (by kernel_rfl) opens_step _ _ _ _ _ _ _ _ _ e1
      obtain ⟨os, ⟨A2, c2, ho, g2, C2⟩, _⟩ := opens_slice Tryd.underlying23 (by kernel_rfl) (opens_int Tryd.underlying3) _ _ _ _ _ _ _ _ _ e2
      have q0 : v0 = .int .i64 n := by
        have : [v0] = [Value.int .i64 n] := hn
        injection this
      have q1 : v1 = .slice A1 ss.length c1 := by
        have : [v1] = [Value.slice A1 ss.length c1] := hs
        injection this
      have q2 : v2 = .slice A2 os.length c2 := by
        have : [v2] = [Value.slice A2 os.length c2] := ho
        injection this
      subst q0 q1 q2
      exact ⟨n, A1, c1, ss, A2, c2, os, rfl, C1, g1, C2, g2, w1⟩
def cells24 : Array Value := #[.bool false, .bool false, .bool false, .bool false, .bool false, .bool false, .bool false, .bool false, .bool true, .bool true, .bool true, .bool false, .bool true, .bool true, .bool false, .bool true, .bool true, .bool false, .bool true, .bool true, .bool false, .bool true, .bool false, .bool false]
noncomputable def laidWorld (os : Os) : World :=
  { World.holding Tryd.prog os ⟨#[], #[], []⟩ with heap := (World.holding Tryd.prog os ⟨#[], #[], []⟩).heap.modify 0 fun
      | .cells _ t frozen => .cells cells24 t frozen
      | o => o }
theorem lifted (os : Os) (started : os.Started) (H : Type) (enc : TypeId × Value → H) :
    ReturnsInHanded {} Tryd.checked os 4 .any (fun w args => (Rows.sparseJoinedSpec.pre enc Tryd.prog Tryd.f4 [] false w args ∧ laidMet Tryd.prog [("fluxion/trace.has", Rows.laid_fluxion_trace_has)] w) ∧ sizedMet enc Tryd.prog Tryd.f4 (OpenSpec.ofChange Rows.sparseJoinedSpec) false w args)
      (Rows.sparseJoinedSpec.post enc Tryd.prog Tryd.f4 false true false false) := by
  refine returnsInHanded_of_change_and (C := Tryd.checked) (X := fun w _ => laidMet Tryd.prog [("fluxion/trace.has", Rows.laid_fluxion_trace_has)] w) (fun _ _ _ hh h => h.of_heap hh) own started (by kernel_rfl) Tryd.func4
    (ChangeSpec.witness_at (enc := enc) (C := Tryd.checked) (os := os) (X := fun w _ => laidMet Tryd.prog [("fluxion/trace.has", Rows.laid_fluxion_trace_has)] w) false (laidWorld os) #[.agg #[.int .i64 0, .slice none 0 0, .slice none 0 0], .agg #[.int .i64 0, .slice none 0 0, .slice none 0 0]] 8 rfl (by kernel_rfl) (by kernel_rfl) (by kernel_rfl) (by kernel_rfl) (by kernel_rfl)
      (laidMet_of_run' 8 (by kernel_rfl) (by kernel_rfl))) ?_
  intro W base args ds gs before hval0 hW _ _ hL _
  have hval : ∀ (j : Nat) t v, Tryd.f4.params[j]? = some t → args[j]? = some v → Value.okWide Tryd.prog W .any base t v := hval0
  have hW' := hW
  obtain ⟨p, q, hA0, hV, rfl, hfz, hnd⟩ := hW
  have hA : DataW.TrodAll enc Tryd.prog W 0 (fun _ => true) true Tryd.f4.params.toList args.toList ds p := hA0
  rw [Tryd.params4] at hA hval
  obtain ⟨v0, vs0, d0, ds0, p0, q0, hargs, rfl, rfl, h0, r0⟩ := trodAll_cons hA
  obtain ⟨v1, vs1, d1, ds1, p1, q1, rfl, rfl, rfl, h1, r1⟩ := trodAll_cons r0
  obtain ⟨rfl, rfl, rfl⟩ := trodAll_nil r1
  obtain rfl : args = #[v0, v1] := by cases args; simp_all
  obtain ⟨rfl, rfl⟩ := trodVars_none hV
  obtain ⟨cs, rfl, hcs⟩ := okWide_struct Tryd.underlying25 (hval 0 25 v0 rfl rfl)
  have k0 := h0
  have lt0 : ∀ x ∈ p0, x.block < W.heap.size := by obtain ⟨m, hm⟩ := k0; exact DataW.trod_lt m _ _ _ hm
  obtain ⟨n, A1, c1, ss, A2, c2, ol, rfl, C1, g1, C2, g2, ws⟩ := open_tape k0
  obtain ⟨cs1, rfl, hcs1⟩ := okWide_struct Tryd.underlying25 (hval 1 25 v1 rfl rfl)
  have k1 := h1
  have lt1 : ∀ x ∈ p1, x.block < W.heap.size := by obtain ⟨m, hm⟩ := k1; exact DataW.trod_lt m _ _ _ hm
  obtain ⟨n', B1, e1, ss', B2, e2, ol', rfl, D1, f1, D2, f2, ws'⟩ := open_tape k1
  clear hA0 hval0
  have hu : ∀ {l : List Int}, (∀ a, a ∈ l → (Lit.int .u32 a).wf = true) → PSparseJoined.u32s l := fun h d hd => by
    have := h d hd
    simp [Lit.wf] at this
    have e1 : IntKind.u32.min = 0 := by rfl
    have e2 : IntKind.u32.max = 4294967295 := by rfl
    omega
  obtain ⟨rk, hk⟩ := (Pure.joinedLaw_f (n1 := n) (s1 := ss) (o1 := ol) (n2 := n') (s2 := ss') (o2 := ol') (fun s hs => ⟨hu (ws s hs).2.2.2.2.2.1, hu (ws s hs).2.2.2.2.2.2⟩) (fun s hs => ⟨hu (ws' s hs).2.2.2.2.2.1, hu (ws' s hs).2.2.2.2.2.2⟩)).rounds
  refine (PSparseJoined.fluxionlaw19_SparseJoined.calls rk n A1 c1 ss A2 c2 ol n' B1 e1 ss' B2 e2 ol' true W (hasT_of_laid hL) C1 g1 C2 g2 D1 f1 D2 f2 hk).mono fun e W' ⟨he, bel⟩ => ?_
  subst he
  exact ⟨_, rfl, _, _, _, [], _, [], hW', trodAll_mk1 (shut_bool Tryd.underlying4 _), (trodAll_cons_mk (Below.trod laidOut (by kernel_rfl) (of_decide_eq_true (by kernel_rfl)) k0 bel lt0) (trodAll_cons_mk (Below.trod laidOut (by kernel_rfl) (of_decide_eq_true (by kernel_rfl)) k1 bel lt1) trodAll_mk0)), rfl, bel.frame _, fun h => by cases h⟩
theorem over : Rows.sparseJoinedRow.holds Tryd.pinned (OpenSpec.ofChange Rows.sparseJoinedSpec) :=
  OpenClaim.holds_of_wide 4 Tryd.f4 rfl rfl rfl rfl rfl rfl rfl ⟨rfl, rfl, rfl, rfl, rfl⟩ rfl rfl rfl rfl rfl (by kernel_rfl) Tryd.func4 (by kernel_rfl)
    (of_decide_eq_true (by kernel_rfl)) (by unfold Func.isWrapper; first | (rw [if_pos (by decide +kernel)]; kernel_rfl) | (rw [if_neg (by decide +kernel)]; exact ⟨rfl, rfl⟩))
    (fun os started H enc _ => lifted os started H enc)
end Go.Proofs.YtjjbondlcjnaiaaDoor.sparseJoined
namespace Go.Proofs.YtjjbondlcjnaiaaDoor
open Go
theorem sparseJoined_holds : Rows.SparseJoinedSaid := sparseJoined.over
theorem sparseJoinedCard_holds : Rows.SparseJoinedCardSaid :=
  Claim7.holds_tied_plain_at .later [] [.data] true (true, "712704a876d4f8872df8019b6c39f19690a6109c9bafcf863d7ce0e8ccc3215d") false
    sparseJoined_holds (fun _ h => by cases h) (by kernel_rfl) (fun _ h => by cases h) sparseJoined_row_tie rfl ⟨rfl, rfl⟩ (by kernel_rfl) rfl
    (fun f fn hf hfn => by
      obtain rfl : f = 4 := Option.some.inj ((show Tryd.prog.funcNamed "fluxion/fluxionlaw19.SparseJoined" = some 4 by kernel_rfl).symm.trans hf) |>.symm
      obtain rfl : fn = Tryd.f4 := (Option.some.inj (Tryd.func4.symm.trans hfn)).symm
      exact ⟨by kernel_rfl, fun j t ht => by
        rw [Tryd.params4] at ht
        have h3 : t = 25 := by
          rcases j with _ | _ | j
          · simpa using ht.symm
          · simpa using ht.symm
          · simp at ht
        subst h3
        exact (show Tryd.prog.wantsStandIn 25 = false by kernel_rfl)⟩)
    (by kernel_rfl)
#print axioms sparseJoinedCard_holds
end Go.Proofs.YtjjbondlcjnaiaaDoor
