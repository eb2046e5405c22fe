/- The row of the law FnExactMetaText: whatever the arguments, the call returns true and they read as they did; no conditions. -/
import Derived.Test.YtbjlpmhhcigkdaaRows
import Derived.Test.YtbjlpmhhcigkdaaVFnExactMetaTextx10
import Derived.Test.YtbjlpmhhcigkdaaPureFnExactMetaText
import Derived.Test.YtbjlpmhhcigkdaaZFnExactMetaTextO
import Derived.Test.YtbjlpmhhcigkdaaZFnExactMetaTextWSized
import Derived.WalkKit
import Derived.ProofKit
import Derived.OpenShut
import Derived.ShutString
import Derived.ChangeOld
import Derived.Below
import Derived.SizedLaws
namespace Go.Proofs.Ytbjlpmhhcigkdaa.fnExactMetaText
open Go Go.ChangeShapes Go.WideShapes Go.ChangeAt Go.RowKit Go.Proofs.YtbjlpmhhcigkdaaW.PrintWords Go.Proofs.Ytbjlpmhhcigkdaa.VFnExactMetaText
open Go.ChangeMaps (open_string shut_string)
set_option linter.unusedVariables false
theorem own : ownKnob Try.prog.godebug = none := by kernel_rfl
theorem laidOut : laidOutB Try.prog = true := by kernel_rfl
set_option maxHeartbeats 4000000 in
set_option maxRecDepth 100000 in
theorem lifted (os : Os) (started : os.Started) (H : Type) (enc : TypeId × Value → H) :
    ReturnsInHanded {} Try.checked os 12 .any (Rows.fnExactMetaTextSpec.pre6 enc Try.prog Try.f12 Rows.fnExactMetaTextRow.domain false) (Rows.fnExactMetaTextSpec.post enc Try.prog Try.f12 false true false false) := by
  refine returnsInHanded_of_change_sized (C := Try.checked) own started (by kernel_rfl) Try.func12
    (ChangeSpec.witness6 (enc := enc) (C := Try.checked) false ⟨#[], #[.agg #[.int .i64 0, .int .i64 0, .int .i64 0, .slice none 0 0]], []⟩ 8 (by kernel_rfl) (by kernel_rfl) (by kernel_rfl) (by kernel_rfl)) ?_
  intro W base args ds gs before hval0 hW hcnd hsz0 _
  have hsz : (DataW.weightsEach Try.prog (Try.f12.params.toList ++ Rows.fnExactMetaTextSpec.plain.varTypes Try.prog) (ds ++ gs)).all (· ≤ reachBytes) = true := hsz0
  have hval : ∀ (j : Nat) t v, Try.f12.params[j]? = some t → args[j]? = some v → Value.okWide Try.prog W .any base t v := hval0
  have hW' := hW
  obtain ⟨p, q, hA0, hV, rfl, hfz, hnd⟩ := hW
  have hA : DataW.TrodAll enc Try.prog W 0 (fun _ => true) true Try.f12.params.toList args.toList ds p := hA0
  rw [Try.params12] at hA hval hsz
  obtain ⟨v0, vs0, d0, ds0, p0, q0, hargs, rfl, rfl, h0, r0⟩ := trodAll_cons hA
  obtain ⟨rfl, rfl, rfl⟩ := trodAll_nil r0
  obtain rfl : args = #[v0] := by cases args; simp_all
  obtain ⟨rfl, rfl⟩ := trodVars_none hV
  have k0 := h0
  have lt0 : ∀ x ∈ p0, x.block < W.heap.size := by obtain ⟨m, hm⟩ := k0; exact DataW.trod_lt m _ _ _ hm
  obtain ⟨cs0, rfl, _⟩ := okWide_struct Try.underlying46 (hval 0 46 v0 rfl rfl)
  obtain ⟨fu0, hf0⟩ := h0
  obtain ⟨c0_0, c0_1, c0_2, c0_3, m0, y0_0, y0_1, y0_2, y0_3, e0, f0_0, f0_1, f0_2, f0_3⟩ := trod_four Try.underlying46 rfl rfl rfl rfl (by kernel_rfl) (by kernel_rfl) (by kernel_rfl) (by kernel_rfl) (by kernel_rfl) hf0
  obtain rfl : cs0 = #[c0_0, c0_1, c0_2, c0_3] := by cases cs0; exact congrArg Array.mk e0
  obtain ⟨a0_0, e0_0, g0_0⟩ := (opens_int Try.underlying3) _ _ _ f0_0
  obtain rfl := List.singleton_inj.1 e0_0
  obtain ⟨a0_1, e0_1, g0_1⟩ := (opens_int Try.underlying3) _ _ _ f0_1
  obtain rfl := List.singleton_inj.1 e0_1
  obtain ⟨a0_2, e0_2, g0_2⟩ := (opens_int Try.underlying3) _ _ _ f0_2
  obtain rfl := List.singleton_inj.1 e0_2
  obtain ⟨l0_3, ⟨A0_3, b0_3, e0_3, n0_3, C0_3⟩, g0_3⟩ := (opens_slice (d := k151) Try.underlying44 (by kernel_rfl) (opens_two (f := fun x : S151 => (x.f0, x.f1)) (fun p => ⟨p.1, p.2⟩) (fun _ => rfl) Try.underlying151 rfl rfl (by kernel_rfl) (by kernel_rfl) (by kernel_rfl) (opens_int Try.underlying3) (opens_slice (d := (Kd.int .i64)) Try.underlying23 (by kernel_rfl) (opens_int Try.underlying3)))) _ _ _ f0_3
  obtain rfl := List.singleton_inj.1 e0_3
  clear hA0 hval0 hsz0 hsz
  obtain ⟨k, hk⟩ := Pure.FnExactMetaText a0_0 a0_1 a0_2 l0_3 g0_0 g0_1 g0_2 g0_3.1 g0_3.2
  refine (laws_FnExactMetaText.calls k a0_0 a0_1 a0_2 A0_3 b0_3 l0_3 true W C0_3 n0_3 hk).mono fun e W' ⟨he, bel0⟩ => ?_
  have bel : Below W.heap.size W W' := bel0
  subst he
  exact ⟨_, rfl, _, _, _, [], _, [], hW', trodAll_mk1 (shut_bool Try.underlying4 _), (trodAll_cons_mk (Below.trod laidOut (by kernel_rfl) (of_decide_eq_true (by kernel_rfl)) k0 bel lt0) trodAll_mk0), rfl, bel.frame _, fun h => by cases h⟩
theorem over : Rows.fnExactMetaTextRow.holds Try.pinned (OpenSpec.ofChange Rows.fnExactMetaTextSpec) :=
  OpenClaim.holds_of_wide 12 Try.f12 rfl rfl rfl rfl rfl rfl rfl ⟨rfl, rfl, rfl, rfl, rfl⟩ rfl rfl rfl rfl rfl (by kernel_rfl) Try.func12 (by kernel_rfl)
    (of_decide_eq_true (by kernel_rfl)) (by unfold Func.isWrapper; first | (rw [if_pos (by decide +kernel)]; kernel_rfl) | (rw [if_neg (by decide +kernel)]; exact ⟨rfl, rfl⟩))
    (fun os started H enc _ => lifted os started H enc)
theorem proved : Rows.FnExactMetaTextSaid := over
#print axioms proved
end Go.Proofs.Ytbjlpmhhcigkdaa.fnExactMetaText
namespace Go.Proofs.Ytbjlpmhhcigkdaa
/-- The row, under a short name, for the claim. -/
theorem fnExactMetaText_holds : Rows.FnExactMetaTextSaid := fnExactMetaText.proved
end Go.Proofs.Ytbjlpmhhcigkdaa
