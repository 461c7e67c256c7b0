/- 'fluxion/fluxionlaw19.SparseSeeds': for every input the law returns true; each argument reads behind the call as it read before. No condition. (The row, out of the law's plain statement and the walk of its code.) -/
import Derived.Test.YtjjbondlcjnaiaaGreatRows
import Derived.Test.YtjjbondlcjnaiaaGreatPSparseSeedsx27
import Derived.Test.YtjjbondlcjnaiaaGreatPureSparseSeeds
import Derived.Test.YtjjbondlcjnaiaaGreatOpen
import Derived.WalkKit
import Derived.ProofKit
import Derived.OpenShut
import Derived.ShutString
import Derived.ChangeOld
import Derived.Below
import Derived.SizedLaws
namespace Go.Proofs.YtjjbondlcjnaiaaGreat.sparseSeeds
open Go.ChangeShapes Go.WideShapes Go.ChangeAt Go.RowKit Go.Proofs.YtjjbondlcjnaiaaGreatW.PrintWords Go.Proofs.YtjjbondlcjnaiaaGreat.Open
open Go.ChangeMaps (open_string shut_string)
set_option linter.unusedVariables false
theorem own : ownKnob Tryz.prog.godebug = none := by kernel_rfl
theorem laidOut : laidOutB Tryz.prog = true := by kernel_rfl
set_option maxRecDepth 100000 in
theorem lifted (os : Os) (started : os.Started) (H : Type) (enc : TypeId × Value → H) :
    ReturnsInHanded {} Tryz.checked os 4 .any (Rows.sparseSeedsSpec.pre6 enc Tryz.prog Tryz.f4 Rows.sparseSeedsRow.domain false) (Rows.sparseSeedsSpec.post enc Tryz.prog Tryz.f4 false true false false) := by
  refine returnsInHanded_of_change_sized (C := Tryz.checked) own started (by kernel_rfl) Tryz.func4
    (ChangeSpec.witness6 (enc := enc) (C := Tryz.checked) false ⟨#[], #[.slice none 0 0, .slice none 0 0], []⟩ 8 (by kernel_rfl) (by kernel_rfl) (by kernel_rfl) (by kernel_rfl)) ?_
  intro W base args ds gs before hval0 hW hcnd hsz0 _
  have hval : ∀ (j : Nat) t v, Tryz.f4.params[j]? = some t → args[j]? = some v → Value.okWide Tryz.prog W .any base t v := hval0
  have hW' := hW
  obtain ⟨p, q, hA0, hV, rfl, hfz, hnd⟩ := hW
  have hA : DataW.TrodAll enc Tryz.prog W 0 (fun _ => true) true Tryz.f4.params.toList args.toList ds p := hA0
  rw [Tryz.params4] at hA hval
  obtain ⟨v0, vs0, d0, ds0, p0, q0, hargs, rfl, rfl, h0, r0⟩ := trodAll_cons hA
  obtain ⟨v1, vs1, d1, ds1, p1, q1, rfl, rfl, rfl, h1, r1⟩ := trodAll_cons r0
  obtain ⟨rfl, rfl, rfl⟩ := trodAll_nil r1
  obtain rfl : args = #[v0, v1] := by cases args; simp_all
  obtain ⟨rfl, rfl⟩ := trodVars_none hV
  obtain ⟨a0, len0, cap0, rfl⟩ := okWide_slice Tryz.underlying24 (hval 0 24 v0 rfl rfl)
  have k0 := h0
  have lt0 : ∀ x ∈ p0, x.block < W.heap.size := by obtain ⟨m, hm⟩ := k0; exact DataW.trod_lt m _ _ _ hm
  obtain ⟨z0, rfl, g0, C0, w0⟩ := opens_arg (opens_slice Tryz.underlying24 (by kernel_rfl) (opens_slice Tryz.underlying35 (by kernel_rfl) (show Opens Tryz.prog PSparseSeeds.k59 _ 59 from opens_struct4 Tryz.underlying59 (by kernel_rfl) (by kernel_rfl) (by kernel_rfl) (by kernel_rfl) (by kernel_rfl) rfl rfl rfl rfl (fun a b c d => ⟨⟨a, b, c, d⟩, rfl⟩) (opens_int (by kernel_rfl)) (opens_bool (by kernel_rfl)) (opens_slice (by kernel_rfl) (by kernel_rfl) (opens_int (by kernel_rfl))) (opens_slice (by kernel_rfl) (by kernel_rfl) (opens_int (by kernel_rfl)))))) k0
  obtain ⟨a1, len1, cap1, rfl⟩ := okWide_slice Tryz.underlying23 (hval 1 23 v1 rfl rfl)
  have k1 := h1
  have lt1 : ∀ x ∈ p1, x.block < W.heap.size := by obtain ⟨m, hm⟩ := k1; exact DataW.trod_lt m _ _ _ hm
  obtain ⟨z1, rfl, g1, C1, w1⟩ := opens_arg (opens_slice Tryz.underlying23 (by kernel_rfl) (opens_int Tryz.underlying3)) k1
  clear hA0 hval0 hsz0
  obtain ⟨rk, hk⟩ := Pure.SparseSeeds z0 w0 z1 w1
  refine (PSparseSeeds.fluxionlaw19_SparseSeeds.calls rk _ _ z0 _ _ z1 true W C0 g0 C1 g1 hk).mono fun e W' ⟨he, bel⟩ => ?_
  subst he
  exact ⟨_, rfl, _, _, _, [], _, [], hW', trodAll_mk1 (shut_bool Tryz.underlying4 _), (trodAll_cons_mk (Below.trod laidOut (by kernel_rfl) (of_decide_eq_true (by kernel_rfl)) k0 bel lt0) (trodAll_cons_mk (Below.trod laidOut (by kernel_rfl) (of_decide_eq_true (by kernel_rfl)) k1 bel lt1) trodAll_mk0)), rfl, bel.frame _, fun h => by cases h⟩
theorem over : Rows.sparseSeedsRow.holds Tryz.pinned (OpenSpec.ofChange Rows.sparseSeedsSpec) :=
  OpenClaim.holds_of_wide 4 Tryz.f4 rfl rfl rfl rfl rfl rfl rfl ⟨rfl, rfl, rfl, rfl, rfl⟩ rfl rfl rfl rfl rfl (by kernel_rfl) Tryz.func4 (by kernel_rfl)
    (of_decide_eq_true (by kernel_rfl)) (by unfold Func.isWrapper; first | (rw [if_pos (by decide +kernel)]; kernel_rfl) | (rw [if_neg (by decide +kernel)]; exact ⟨rfl, rfl⟩))
    (fun os started H enc _ => lifted os started H enc)
end Go.Proofs.YtjjbondlcjnaiaaGreat.sparseSeeds
namespace Go.Proofs.YtjjbondlcjnaiaaGreat
theorem sparseSeeds_holds : Rows.SparseSeedsSaid := sparseSeeds.over
#print axioms sparseSeeds_holds
end Go.Proofs.YtjjbondlcjnaiaaGreat
