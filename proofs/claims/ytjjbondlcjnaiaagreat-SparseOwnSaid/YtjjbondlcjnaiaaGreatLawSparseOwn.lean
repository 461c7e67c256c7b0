/- 'fluxion/fluxionlaw19.SparseOwn': for every input the law returns true; each argument reads behind the call as it read before. No condition. (The row, out of the law's plain statement and the walk of its code.) -/
import Derived.Test.YtjjbondlcjnaiaaGreatRows
import Derived.Test.YtjjbondlcjnaiaaGreatPSparseOwnx23
import Derived.Test.YtjjbondlcjnaiaaGreatPureSparseOwn
import Derived.Test.YtjjbondlcjnaiaaGreatOpen
import Derived.WalkKit
import Derived.ProofKit
import Derived.OpenShut
import Derived.ShutString
import Derived.ChangeOld
import Derived.Below
import Derived.SizedLaws
namespace Go.Proofs.YtjjbondlcjnaiaaGreat.sparseOwn
open Go.ChangeShapes Go.WideShapes Go.ChangeAt Go.RowKit Go.Proofs.YtjjbondlcjnaiaaGreatW.PrintWords Go.Proofs.YtjjbondlcjnaiaaGreat.Open
open Go.ChangeMaps (open_string shut_string)
set_option linter.unusedVariables false
theorem own : ownKnob Tryz.prog.godebug = none := by kernel_rfl
theorem laidOut : laidOutB Tryz.prog = true := by kernel_rfl
set_option maxRecDepth 100000 in
theorem lifted (os : Os) (started : os.Started) (H : Type) (enc : TypeId × Value → H) :
    ReturnsInHanded {} Tryz.checked os 5 .any (Rows.sparseOwnSpec.pre6 enc Tryz.prog Tryz.f5 Rows.sparseOwnRow.domain false) (Rows.sparseOwnSpec.post enc Tryz.prog Tryz.f5 false true false false) := by
  refine returnsInHanded_of_change_sized (C := Tryz.checked) own started (by kernel_rfl) Tryz.func5
    (ChangeSpec.witness6 (enc := enc) (C := Tryz.checked) false ⟨#[], #[.slice none 0 0, .int .u8 0, .slice none 0 0], []⟩ 8 (by kernel_rfl) (by kernel_rfl) (by kernel_rfl) (by kernel_rfl)) ?_
  intro W base args ds gs before hval0 hW hcnd hsz0 _
  have hval : ∀ (j : Nat) t v, Tryz.f5.params[j]? = some t → args[j]? = some v → Value.okWide Tryz.prog W .any base t v := hval0
  have hW' := hW
  obtain ⟨p, q, hA0, hV, rfl, hfz, hnd⟩ := hW
  have hA : DataW.TrodAll enc Tryz.prog W 0 (fun _ => true) true Tryz.f5.params.toList args.toList ds p := hA0
  rw [Tryz.params5] at hA hval
  obtain ⟨v0, vs0, d0, ds0, p0, q0, hargs, rfl, rfl, h0, r0⟩ := trodAll_cons hA
  obtain ⟨v1, vs1, d1, ds1, p1, q1, rfl, rfl, rfl, h1, r1⟩ := trodAll_cons r0
  obtain ⟨v2, vs2, d2, ds2, p2, q2, rfl, rfl, rfl, h2, r2⟩ := trodAll_cons r1
  obtain ⟨rfl, rfl, rfl⟩ := trodAll_nil r2
  obtain rfl : args = #[v0, v1, v2] := by cases args; simp_all
  obtain ⟨rfl, rfl⟩ := trodVars_none hV
  obtain ⟨a0, len0, cap0, rfl⟩ := okWide_slice Tryz.underlying22 (hval 0 22 v0 rfl rfl)
  have k0 := h0
  have lt0 : ∀ x ∈ p0, x.block < W.heap.size := by obtain ⟨m, hm⟩ := k0; exact DataW.trod_lt m _ _ _ hm
  obtain ⟨z0, rfl, g0, C0, w0⟩ := opens_arg (opens_slice Tryz.underlying22 (by kernel_rfl) (opens_slice Tryz.underlying77 (by kernel_rfl) (opens_bool Tryz.underlying4))) k0 (fun b_ o_ h_ => hfz b_ o_ (by simp [h_]))
  obtain ⟨a1, rfl, rfl, rfl, w1⟩ := open_int Tryz.underlying5 (hval 1 5 v1 rfl rfl) h1
  obtain ⟨a2, len2, cap2, rfl⟩ := okWide_slice Tryz.underlying24 (hval 2 24 v2 rfl rfl)
  have k2 := h2
  have lt2 : ∀ x ∈ p2, x.block < W.heap.size := by obtain ⟨m, hm⟩ := k2; exact DataW.trod_lt m _ _ _ hm
  obtain ⟨z2, rfl, g2, C2, w2⟩ := opens_arg (opens_slice Tryz.underlying24 (by kernel_rfl) (opens_slice Tryz.underlying35 (by kernel_rfl) (show Opens Tryz.prog PSparseOwn.k59 _ 59 from opens_struct4 Tryz.underlying59 (by kernel_rfl) (by kernel_rfl) (by kernel_rfl) (by kernel_rfl) (by kernel_rfl) rfl rfl rfl rfl (fun a b c d => ⟨⟨a, b, c, d⟩, rfl⟩) (opens_int (by kernel_rfl)) (opens_bool (by kernel_rfl)) (opens_slice (by kernel_rfl) (by kernel_rfl) (opens_int (by kernel_rfl))) (opens_slice (by kernel_rfl) (by kernel_rfl) (opens_int (by kernel_rfl)))))) k2 (fun b_ o_ h_ => hfz b_ o_ (by simp [h_]))
  clear hA0 hval0 hsz0
  obtain ⟨rk, hk⟩ := Pure.SparseOwn z0 w0 a1 w1 z2 w2
  refine (PSparseOwn.fluxionlaw19_SparseOwn.calls rk _ _ z0 a1 _ _ z2 true W C0 g0 C2 g2 hk).mono fun e W' ⟨he, bel⟩ => ?_
  subst he
  exact ⟨_, rfl, _, _, _, [], _, [], hW', trodAll_mk1 (shut_bool Tryz.underlying4 _), (trodAll_cons_mk (Below.trod laidOut (by kernel_rfl) (of_decide_eq_true (by kernel_rfl)) k0 bel lt0) (trodAll_cons_mk (shut_int Tryz.underlying5 w1) (trodAll_cons_mk (Below.trod laidOut (by kernel_rfl) (of_decide_eq_true (by kernel_rfl)) k2 bel lt2) trodAll_mk0))), rfl, bel.frame _, fun h => by cases h⟩
theorem over : Rows.sparseOwnRow.holds Tryz.pinned (OpenSpec.ofChange Rows.sparseOwnSpec) :=
  OpenClaim.holds_of_wide 5 Tryz.f5 rfl rfl rfl rfl rfl rfl rfl ⟨rfl, rfl, rfl, rfl, rfl⟩ rfl rfl rfl rfl rfl (by kernel_rfl) Tryz.func5 (by kernel_rfl)
    (of_decide_eq_true (by kernel_rfl)) (by unfold Func.isWrapper; first | (rw [if_pos (by decide +kernel)]; kernel_rfl) | (rw [if_neg (by decide +kernel)]; exact ⟨rfl, rfl⟩))
    (fun os started H enc _ => lifted os started H enc)
end Go.Proofs.YtjjbondlcjnaiaaGreat.sparseOwn
namespace Go.Proofs.YtjjbondlcjnaiaaGreat
theorem sparseOwn_holds : Rows.SparseOwnSaid := sparseOwn.over
#print axioms sparseOwn_holds
end Go.Proofs.YtjjbondlcjnaiaaGreat
