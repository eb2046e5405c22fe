/- The row of the law FnExactBestMeta: whatever the arguments, the call returns true and they read as they did; no conditions. -/
import Derived.Test.YteokilffbcbllaaRows
import Derived.Test.YteokilffbcbllaaVFnExactBestMetax17
import Derived.Test.YteokilffbcbllaaPureFnExactBestMeta
import Derived.Test.YteokilffbcbllaaZFnExactBestMetaO
import Derived.Test.YteokilffbcbllaaZFnExactBestMetaWSized
import Derived.WalkKit
import Derived.ProofKit
import Derived.OpenShut
import Derived.ShutString
import Derived.ChangeOld
import Derived.Below
import Derived.SizedLaws
namespace Go.Proofs.Yteokilffbcbllaa.fnExactBestMeta
open Go Go.ChangeShapes Go.WideShapes Go.ChangeAt Go.RowKit Go.Proofs.YteokilffbcbllaaW.PrintWords Go.Proofs.Yteokilffbcbllaa.VFnExactBestMeta
open Go.ChangeMaps (open_string shut_string)
set_option linter.unusedVariables false
theorem own : ownKnob Try.prog.godebug = none := by kernel_rfl
theorem laidOut : laidOutB Try.prog = true := by kernel_rfl
set_option maxHeartbeats 4000000 in
set_option maxRecDepth 100000 in
theorem lifted (os : Os) (started : os.Started) (H : Type) (enc : TypeId × Value → H) :
    ReturnsInHanded {} Try.checked os 4 .any (Rows.fnExactBestMetaSpec.pre6 enc Try.prog Try.f4 Rows.fnExactBestMetaRow.domain false) (Rows.fnExactBestMetaSpec.post enc Try.prog Try.f4 false true false false) := by
  refine returnsInHanded_of_change_sized (C := Try.checked) own started (by kernel_rfl) Try.func4
    (ChangeSpec.witness6 (enc := enc) (C := Try.checked) false ⟨#[], #[.agg #[.slice none 0 0, .slice none 0 0]], []⟩ 8 (by kernel_rfl) (by kernel_rfl) (by kernel_rfl) (by kernel_rfl)) ?_
  intro W base args ds gs before hval0 hW hcnd hsz0 _
  have hsz : (DataW.weightsEach Try.prog (Try.f4.params.toList ++ Rows.fnExactBestMetaSpec.plain.varTypes Try.prog) (ds ++ gs)).all (· ≤ reachBytes) = true := hsz0
  have hval : ∀ (j : Nat) t v, Try.f4.params[j]? = some t → args[j]? = some v → Value.okWide Try.prog W .any base t v := hval0
  have hW' := hW
  obtain ⟨p, q, hA0, hV, rfl, hfz, hnd⟩ := hW
  have hA : DataW.TrodAll enc Try.prog W 0 (fun _ => true) true Try.f4.params.toList args.toList ds p := hA0
  rw [Try.params4] at hA hval hsz
  obtain ⟨v0, vs0, d0, ds0, p0, q0, hargs, rfl, rfl, h0, r0⟩ := trodAll_cons hA
  obtain ⟨rfl, rfl, rfl⟩ := trodAll_nil r0
  obtain rfl : args = #[v0] := by cases args; simp_all
  obtain ⟨rfl, rfl⟩ := trodVars_none hV
  have k0 := h0
  have lt0 : ∀ x ∈ p0, x.block < W.heap.size := by obtain ⟨m, hm⟩ := k0; exact DataW.trod_lt m _ _ _ hm
  obtain ⟨cs0, rfl, _⟩ := okWide_struct Try.underlying33 (hval 0 33 v0 rfl rfl)
  obtain ⟨fu0, hf0⟩ := h0
  obtain ⟨c0_0, c0_1, m0, y0_0, y0_1, e0, f0_0, f0_1⟩ := trod_two Try.underlying33 rfl rfl (by kernel_rfl) (by kernel_rfl) (by kernel_rfl) hf0
  obtain rfl : cs0 = #[c0_0, c0_1] := by cases cs0; exact congrArg Array.mk e0
  obtain ⟨l0_0, ⟨A0_0, b0_0, e0_0, n0_0, C0_0⟩, g0_0⟩ := (opens_slice (d := Kd.string) Try.underlying30 (by kernel_rfl) (opens_string Try.underlying9)) _ _ _ f0_0
  obtain rfl := List.singleton_inj.1 e0_0
  obtain ⟨l0_1, ⟨A0_1, b0_1, e0_1, n0_1, C0_1⟩, g0_1⟩ := (opens_slice (d := k96) Try.underlying31 (by kernel_rfl) (opens_two (f := fun x : S96 => (x.f0, x.f1)) (fun p => ⟨p.1, p.2⟩) (fun _ => rfl) Try.underlying96 rfl rfl (by kernel_rfl) (by kernel_rfl) (by kernel_rfl) (opens_int Try.underlying3) (opens_string Try.underlying9))) _ _ _ f0_1
  obtain rfl := List.singleton_inj.1 e0_1
  clear hA0 hval0 hsz0 hsz
  obtain ⟨k, hk⟩ := Pure.FnExactBestMeta l0_0 l0_1 g0_0.1 g0_0.2 g0_1.1 g0_1.2
  refine (laws_FnExactBestMeta.calls k A0_0 b0_0 l0_0 A0_1 b0_1 l0_1 true W C0_0 n0_0 C0_1 n0_1 hk).mono fun e W' ⟨he, bel0⟩ => ?_
  have bel : Below W.heap.size W W' := bel0
  subst he
  exact ⟨_, rfl, _, _, _, [], _, [], hW', trodAll_mk1 (shut_bool Try.underlying4 _), (trodAll_cons_mk (Below.trod laidOut (by kernel_rfl) (of_decide_eq_true (by kernel_rfl)) k0 bel lt0) trodAll_mk0), rfl, bel.frame _, fun h => by cases h⟩
theorem over : Rows.fnExactBestMetaRow.holds Try.pinned (OpenSpec.ofChange Rows.fnExactBestMetaSpec) :=
  OpenClaim.holds_of_wide 4 Try.f4 rfl rfl rfl rfl rfl rfl rfl ⟨rfl, rfl, rfl, rfl, rfl⟩ rfl rfl rfl rfl rfl (by kernel_rfl) Try.func4 (by kernel_rfl)
    (of_decide_eq_true (by kernel_rfl)) (by unfold Func.isWrapper; first | (rw [if_pos (by decide +kernel)]; kernel_rfl) | (rw [if_neg (by decide +kernel)]; exact ⟨rfl, rfl⟩))
    (fun os started H enc _ => lifted os started H enc)
theorem proved : Rows.FnExactBestMetaSaid := over
#print axioms proved
end Go.Proofs.Yteokilffbcbllaa.fnExactBestMeta
namespace Go.Proofs.Yteokilffbcbllaa
/-- The row, under a short name, for the claim. -/
theorem fnExactBestMeta_holds : Rows.FnExactBestMetaSaid := fnExactBestMeta.proved
end Go.Proofs.Yteokilffbcbllaa
