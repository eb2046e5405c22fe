/- The row of the law FnExactKeyText: whatever the arguments, the call returns true and they read as they did; no conditions. -/
import Derived.Test.YtdgefpifohfcgaaRows
import Derived.Test.YtdgefpifohfcgaaVFnExactKeyTextx1
import Derived.Test.YtdgefpifohfcgaaPureFnExactKeyText
import Derived.Test.YtdgefpifohfcgaaO
import Derived.Test.YtdgefpifohfcgaaWSized
import Derived.WalkKit
import Derived.ProofKit
import Derived.OpenShut
import Derived.ShutString
import Derived.ChangeOld
import Derived.Below
import Derived.SizedLaws
namespace Go.Proofs.Ytdgefpifohfcgaa.fnExactKeyText
open Go Go.ChangeShapes Go.WideShapes Go.ChangeAt Go.RowKit Go.Proofs.YtdgefpifohfcgaaW.PrintWords Go.Proofs.Ytdgefpifohfcgaa.VFnExactKeyText
open Go.ChangeMaps (open_string shut_string)
set_option linter.unusedVariables false
theorem own : ownKnob Try.prog.godebug = none := by kernel_rfl
theorem laidOut : laidOutB Try.prog = true := by kernel_rfl
set_option maxHeartbeats 4000000 in
set_option maxRecDepth 100000 in
theorem lifted (os : Os) (started : os.Started) (H : Type) (enc : TypeId × Value → H) :
    ReturnsInHanded {} Try.checked os 14 .any (Rows.fnExactKeyTextSpec.pre6 enc Try.prog Try.f14 Rows.fnExactKeyTextRow.domain false) (Rows.fnExactKeyTextSpec.post enc Try.prog Try.f14 false true false false) := by
  refine returnsInHanded_of_change_sized (C := Try.checked) own started (by kernel_rfl) Try.func14
    (ChangeSpec.witness6 (enc := enc) (C := Try.checked) false ⟨#[], #[.int .i64 0, .agg #[.int .i64 0, .string ByteArray.empty]], []⟩ 8 (by kernel_rfl) (by kernel_rfl) (by kernel_rfl) (by kernel_rfl)) ?_
  intro W base args ds gs before hval0 hW hcnd hsz0 _
  have hsz : (DataW.weightsEach Try.prog (Try.f14.params.toList ++ Rows.fnExactKeyTextSpec.plain.varTypes Try.prog) (ds ++ gs)).all (· ≤ reachBytes) = true := hsz0
  have hval : ∀ (j : Nat) t v, Try.f14.params[j]? = some t → args[j]? = some v → Value.okWide Try.prog W .any base t v := hval0
  have hW' := hW
  obtain ⟨p, q, hA0, hV, rfl, hfz, hnd⟩ := hW
  have hA : DataW.TrodAll enc Try.prog W 0 (fun _ => true) true Try.f14.params.toList args.toList ds p := hA0
  rw [Try.params14] at hA hval hsz
  obtain ⟨v0, vs0, d0, ds0, p0, q0, hargs, rfl, rfl, h0, r0⟩ := trodAll_cons hA
  obtain ⟨v1, vs1, d1, ds1, p1, q1, rfl, rfl, rfl, h1, r1⟩ := trodAll_cons r0
  obtain ⟨rfl, rfl, rfl⟩ := trodAll_nil r1
  obtain rfl : args = #[v0, v1] := by cases args; simp_all
  obtain ⟨rfl, rfl⟩ := trodVars_none hV
  obtain ⟨a0, rfl, rfl, rfl, w0⟩ := open_int Try.underlying3 (hval 0 3 v0 rfl rfl) h0
  have k1 := h1
  have lt1 : ∀ x ∈ p1, x.block < W.heap.size := by obtain ⟨m, hm⟩ := k1; exact DataW.trod_lt m _ _ _ hm
  obtain ⟨cs1, rfl, _⟩ := okWide_struct Try.underlying76 (hval 1 76 v1 rfl rfl)
  obtain ⟨fu1, hf1⟩ := h1
  obtain ⟨c1_0, c1_1, m1, y1_0, y1_1, e1, f1_0, f1_1⟩ := trod_two Try.underlying76 rfl rfl (by kernel_rfl) (by kernel_rfl) (by kernel_rfl) hf1
  obtain rfl : cs1 = #[c1_0, c1_1] := by cases cs1; exact congrArg Array.mk e1
  obtain ⟨a1_0, e1_0, g1_0⟩ := (opens_int Try.underlying3) _ _ _ f1_0
  obtain rfl := List.singleton_inj.1 e1_0
  obtain ⟨a1_1, e1_1, g1_1⟩ := (opens_string Try.underlying9) _ _ _ f1_1
  obtain rfl := List.singleton_inj.1 e1_1
  clear hA0 hval0 hsz0 hsz
  obtain ⟨k, hk⟩ := Pure.FnExactKeyText a0 a1_0 a1_1 w0 g1_0 g1_1
  refine (laws_FnExactKeyText.calls k a0 a1_0 a1_1 true W  hk).mono fun e W' ⟨he, bel0⟩ => ?_
  have bel : Below W.heap.size W W' := bel0
  subst he
  exact ⟨_, rfl, _, _, _, [], _, [], hW', trodAll_mk1 (shut_bool Try.underlying4 _), (trodAll_cons_mk (shut_int Try.underlying3 w0) (trodAll_cons_mk (Below.trod laidOut (by kernel_rfl) (of_decide_eq_true (by kernel_rfl)) k1 bel lt1) trodAll_mk0)), rfl, bel.frame _, fun h => by cases h⟩
theorem over : Rows.fnExactKeyTextRow.holds Try.pinned (OpenSpec.ofChange Rows.fnExactKeyTextSpec) :=
  OpenClaim.holds_of_wide 14 Try.f14 rfl rfl rfl rfl rfl rfl rfl ⟨rfl, rfl, rfl, rfl, rfl⟩ rfl rfl rfl rfl rfl (by kernel_rfl) Try.func14 (by kernel_rfl)
    (of_decide_eq_true (by kernel_rfl)) (by unfold Func.isWrapper; first | (rw [if_pos (by decide +kernel)]; kernel_rfl) | (rw [if_neg (by decide +kernel)]; exact ⟨rfl, rfl⟩))
    (fun os started H enc _ => lifted os started H enc)
theorem proved : Rows.FnExactKeyTextSaid := over
#print axioms proved
end Go.Proofs.Ytdgefpifohfcgaa.fnExactKeyText
namespace Go.Proofs.Ytdgefpifohfcgaa
/-- The row, under a short name, for the claim. -/
theorem fnExactKeyText_holds : Rows.FnExactKeyTextSaid := fnExactKeyText.proved
end Go.Proofs.Ytdgefpifohfcgaa
