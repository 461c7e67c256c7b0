/- 'fluxion/fluxionlaw19.SparseTold': for every input the law returns true; each argument reads behind the call as it read before. No condition. (The row, out of the law's plain statement and the walk of its code.) -/
import Derived.Test.YtjjbondlcjnaiaaGreatRows
import Derived.Test.YtjjbondlcjnaiaaGreatPSparseToldx24
import Derived.Test.YtjjbondlcjnaiaaGreatPureSparseTold
import Derived.Test.YtjjbondlcjnaiaaGreatOpen
import Derived.WalkKit
import Derived.ProofKit
import Derived.OpenShut
import Derived.ShutString
import Derived.ChangeOld
import Derived.Below
import Derived.SizedLaws
namespace Go.Proofs.YtjjbondlcjnaiaaGreat.sparseTold
open Go.ChangeShapes Go.WideShapes Go.ChangeAt Go.RowKit Go.Proofs.YtjjbondlcjnaiaaGreatW.PrintWords Go.Proofs.YtjjbondlcjnaiaaGreat.Open
open Go.ChangeMaps (open_string shut_string)
set_option linter.unusedVariables false
theorem own : ownKnob Tryz.prog.godebug = none := by kernel_rfl
theorem laidOut : laidOutB Tryz.prog = true := by kernel_rfl
set_option maxRecDepth 100000 in
theorem lifted (os : Os) (started : os.Started) (H : Type) (enc : TypeId × Value → H) :
    ReturnsInHanded {} Tryz.checked os 6 .any (Rows.sparseToldSpec.pre6 enc Tryz.prog Tryz.f6 Rows.sparseToldRow.domain false) (Rows.sparseToldSpec.post enc Tryz.prog Tryz.f6 false true false false) := by
  refine returnsInHanded_of_change_sized (C := Tryz.checked) own started (by kernel_rfl) Tryz.func6
    (ChangeSpec.witness6 (enc := enc) (C := Tryz.checked) false ⟨#[], #[.slice none 0 0, .int .u8 0, .slice none 0 0, .slice none 0 0], []⟩ 8 (by kernel_rfl) (by kernel_rfl) (by kernel_rfl) (by kernel_rfl)) ?_
  intro W base args ds gs before hval0 hW hcnd hsz0 _
  have hval : ∀ (j : Nat) t v, Tryz.f6.params[j]? = some t → args[j]? = some v → Value.okWide Tryz.prog W .any base t v := hval0
  have hW' := hW
  obtain ⟨p, q, hA0, hV, rfl, hfz, hnd⟩ := hW
  have hA : DataW.TrodAll enc Tryz.prog W 0 (fun _ => true) true Tryz.f6.params.toList args.toList ds p := hA0
  rw [Tryz.params6] at hA hval
  obtain ⟨v0, vs0, d0, ds0, p0, q0, hargs, rfl, rfl, h0, r0⟩ := trodAll_cons hA
  obtain ⟨v1, vs1, d1, ds1, p1, q1, rfl, rfl, rfl, h1, r1⟩ := trodAll_cons r0
  obtain ⟨v2, vs2, d2, ds2, p2, q2, rfl, rfl, rfl, h2, r2⟩ := trodAll_cons r1
  obtain ⟨v3, vs3, d3, ds3, p3, q3, rfl, rfl, rfl, h3, r3⟩ := trodAll_cons r2
  obtain ⟨rfl, rfl, rfl⟩ := trodAll_nil r3
  obtain rfl : args = #[v0, v1, v2, v3] := by cases args; simp_all
  obtain ⟨rfl, rfl⟩ := trodVars_none hV
  obtain ⟨a0, len0, cap0, rfl⟩ := okWide_slice Tryz.underlying22 (hval 0 22 v0 rfl rfl)
  have k0 := h0
  have lt0 : ∀ x ∈ p0, x.block < W.heap.size := by obtain ⟨m, hm⟩ := k0; exact DataW.trod_lt m _ _ _ hm
  obtain ⟨z0, rfl, g0, C0, w0⟩ := opens_arg (opens_slice Tryz.underlying22 (by kernel_rfl) (opens_slice Tryz.underlying77 (by kernel_rfl) (opens_bool Tryz.underlying4))) k0
  obtain ⟨a1, rfl, rfl, rfl, w1⟩ := open_int Tryz.underlying5 (hval 1 5 v1 rfl rfl) h1
  obtain ⟨a2, len2, cap2, rfl⟩ := okWide_slice Tryz.underlying24 (hval 2 24 v2 rfl rfl)
  have k2 := h2
  have lt2 : ∀ x ∈ p2, x.block < W.heap.size := by obtain ⟨m, hm⟩ := k2; exact DataW.trod_lt m _ _ _ hm
  obtain ⟨z2, rfl, g2, C2, w2⟩ := opens_arg (opens_slice Tryz.underlying24 (by kernel_rfl) (opens_slice Tryz.underlying35 (by kernel_rfl) (show Opens Tryz.prog PSparseTold.k59 _ 59 from opens_struct4 Tryz.underlying59 (by kernel_rfl) (by kernel_rfl) (by kernel_rfl) (by kernel_rfl) (by kernel_rfl) rfl rfl rfl rfl (fun a b c d => ⟨⟨a, b, c, d⟩, rfl⟩) (opens_int (by kernel_rfl)) (opens_bool (by kernel_rfl)) (opens_slice (by kernel_rfl) (by kernel_rfl) (opens_int (by kernel_rfl))) (opens_slice (by kernel_rfl) (by kernel_rfl) (opens_int (by kernel_rfl)))))) k2
  obtain ⟨a3, len3, cap3, rfl⟩ := okWide_slice Tryz.underlying23 (hval 3 23 v3 rfl rfl)
  have k3 := h3
  have lt3 : ∀ x ∈ p3, x.block < W.heap.size := by obtain ⟨m, hm⟩ := k3; exact DataW.trod_lt m _ _ _ hm
  obtain ⟨z3, rfl, g3, C3, w3⟩ := opens_arg (opens_slice Tryz.underlying23 (by kernel_rfl) (opens_int Tryz.underlying3)) k3
  clear hA0 hval0 hsz0
  obtain ⟨rk, hk⟩ := Pure.SparseTold z0 w0 a1 w1 z2 w2 z3 w3
  refine (PSparseTold.fluxionlaw19_SparseTold.calls rk _ _ z0 a1 _ _ z2 _ _ z3 true W C0 g0 C2 g2 C3 g3 hk).mono fun e W' ⟨he, bel⟩ => ?_
  subst he
  exact ⟨_, rfl, _, _, _, [], _, [], hW', trodAll_mk1 (shut_bool Tryz.underlying4 _), (trodAll_cons_mk (Below.trod laidOut (by kernel_rfl) (of_decide_eq_true (by kernel_rfl)) k0 bel lt0) (trodAll_cons_mk (shut_int Tryz.underlying5 w1) (trodAll_cons_mk (Below.trod laidOut (by kernel_rfl) (of_decide_eq_true (by kernel_rfl)) k2 bel lt2) (trodAll_cons_mk (Below.trod laidOut (by kernel_rfl) (of_decide_eq_true (by kernel_rfl)) k3 bel lt3) trodAll_mk0)))), rfl, bel.frame _, fun h => by cases h⟩
theorem over : Rows.sparseToldRow.holds Tryz.pinned (OpenSpec.ofChange Rows.sparseToldSpec) :=
  OpenClaim.holds_of_wide 6 Tryz.f6 rfl rfl rfl rfl rfl rfl rfl ⟨rfl, rfl, rfl, rfl, rfl⟩ rfl rfl rfl rfl rfl (by kernel_rfl) Tryz.func6 (by kernel_rfl)
    (of_decide_eq_true (by kernel_rfl)) (by unfold Func.isWrapper; first | (rw [if_pos (by decide +kernel)]; kernel_rfl) | (rw [if_neg (by decide +kernel)]; exact ⟨rfl, rfl⟩))
    (fun os started H enc _ => lifted os started H enc)
end Go.Proofs.YtjjbondlcjnaiaaGreat.sparseTold
namespace Go.Proofs.YtjjbondlcjnaiaaGreat
theorem sparseTold_holds : Rows.SparseToldSaid := sparseTold.over
#print axioms sparseTold_holds
end Go.Proofs.YtjjbondlcjnaiaaGreat
