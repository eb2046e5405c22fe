/- The row of the law FnExactWritePage: whatever the arguments, the call returns true and they read as they did; no conditions. -/
import Derived.Test.YtbjlpmhhcigkdaaRows
import Derived.Test.YtbjlpmhhcigkdaaVFnExactWritePagex7
import Derived.Test.YtbjlpmhhcigkdaaPureFnExactWritePage
import Derived.Test.YtbjlpmhhcigkdaaO
import Derived.Test.YtbjlpmhhcigkdaaWSized
import Derived.WalkKit
import Derived.ProofKit
import Derived.OpenShut
import Derived.ShutString
import Derived.ChangeOld
import Derived.Below
import Derived.SizedLaws
namespace Go.Proofs.Ytbjlpmhhcigkdaa.fnExactWritePage
open Go Go.ChangeShapes Go.WideShapes Go.ChangeAt Go.RowKit Go.Proofs.YtbjlpmhhcigkdaaW.PrintWords Go.Proofs.Ytbjlpmhhcigkdaa.VFnExactWritePage
open Go.ChangeMaps (open_string shut_string)
set_option linter.unusedVariables false
theorem own : ownKnob Try.prog.godebug = none := by kernel_rfl
theorem laidOut : laidOutB Try.prog = true := by kernel_rfl
set_option maxHeartbeats 4000000 in
set_option maxRecDepth 100000 in
theorem lifted (os : Os) (started : os.Started) (H : Type) (enc : TypeId × Value → H) :
    ReturnsInHanded {} Try.checked os 10 .any (Rows.fnExactWritePageSpec.pre6 enc Try.prog Try.f10 Rows.fnExactWritePageRow.domain false) (Rows.fnExactWritePageSpec.post enc Try.prog Try.f10 false true false false) := by
  refine returnsInHanded_of_change_sized (C := Try.checked) own started (by kernel_rfl) Try.func10
    (ChangeSpec.witness6 (enc := enc) (C := Try.checked) false ⟨#[], #[.agg #[.slice none 0 0, .slice none 0 0], .int .i64 0, .string ByteArray.empty], []⟩ 8 (by kernel_rfl) (by kernel_rfl) (by kernel_rfl) (by kernel_rfl)) ?_
  intro W base args ds gs before hval0 hW hcnd hsz0 _
  have hsz : (DataW.weightsEach Try.prog (Try.f10.params.toList ++ Rows.fnExactWritePageSpec.plain.varTypes Try.prog) (ds ++ gs)).all (· ≤ reachBytes) = true := hsz0
  have hval : ∀ (j : Nat) t v, Try.f10.params[j]? = some t → args[j]? = some v → Value.okWide Try.prog W .any base t v := hval0
  have hW' := hW
  obtain ⟨p, q, hA0, hV, rfl, hfz, hnd⟩ := hW
  have hA : DataW.TrodAll enc Try.prog W 0 (fun _ => true) true Try.f10.params.toList args.toList ds p := hA0
  rw [Try.params10] at hA hval hsz
  obtain ⟨v0, vs0, d0, ds0, p0, q0, hargs, rfl, rfl, h0, r0⟩ := trodAll_cons hA
  obtain ⟨v1, vs1, d1, ds1, p1, q1, rfl, rfl, rfl, h1, r1⟩ := trodAll_cons r0
  obtain ⟨v2, vs2, d2, ds2, p2, q2, rfl, rfl, rfl, h2, r2⟩ := trodAll_cons r1
  obtain ⟨rfl, rfl, rfl⟩ := trodAll_nil r2
  obtain rfl : args = #[v0, v1, v2] := by cases args; simp_all
  obtain ⟨rfl, rfl⟩ := trodVars_none hV
  have k0 := h0
  have lt0 : ∀ x ∈ p0, x.block < W.heap.size := by obtain ⟨m, hm⟩ := k0; exact DataW.trod_lt m _ _ _ hm
  obtain ⟨cs0, rfl, _⟩ := okWide_struct Try.underlying57 (hval 0 57 v0 rfl rfl)
  obtain ⟨fu0, hf0⟩ := h0
  obtain ⟨c0_0, c0_1, m0, y0_0, y0_1, e0, f0_0, f0_1⟩ := trod_two Try.underlying57 rfl rfl (by kernel_rfl) (by kernel_rfl) (by kernel_rfl) hf0
  obtain rfl : cs0 = #[c0_0, c0_1] := by cases cs0; exact congrArg Array.mk e0
  obtain ⟨l0_0, ⟨A0_0, b0_0, e0_0, n0_0, C0_0⟩, g0_0⟩ := (opens_slice (d := Kd.string) Try.underlying22 (by kernel_rfl) (opens_string Try.underlying9)) _ _ _ f0_0
  obtain rfl := List.singleton_inj.1 e0_0
  obtain ⟨l0_1, ⟨A0_1, b0_1, e0_1, n0_1, C0_1⟩, g0_1⟩ := (opens_slice (d := k155) Try.underlying55 (by kernel_rfl) (opens_two (f := fun x : S155 => (x.f0, x.f1)) (fun p => ⟨p.1, p.2⟩) (fun _ => rfl) Try.underlying155 rfl rfl (by kernel_rfl) (by kernel_rfl) (by kernel_rfl) (opens_int Try.underlying3) (opens_string Try.underlying9))) _ _ _ f0_1
  obtain rfl := List.singleton_inj.1 e0_1
  obtain ⟨a1, rfl, rfl, rfl, w1⟩ := open_int Try.underlying3 (hval 1 3 v1 rfl rfl) h1
  obtain ⟨a2, rfl, rfl, rfl, y2⟩ := open_string Try.underlying9 (hval 2 9 v2 rfl rfl) h2
  have w2 : a2.size ≤ 140737488351232 := by
    have z := sized_string hsz (j := 2) (t := 9) rfl rfl
    rw [Array.length_toList] at z
    exact z
  clear hA0 hval0 hsz0 hsz
  obtain ⟨k, hk⟩ := Pure.FnExactWritePage l0_0 l0_1 a1 a2 g0_0.1 g0_0.2 g0_1.1 g0_1.2 w1 w2
  refine (laws_FnExactWritePage.calls k A0_0 b0_0 l0_0 A0_1 b0_1 l0_1 a1 a2 true W C0_0 n0_0 C0_1 n0_1 hk).mono fun e W' ⟨he, bel0⟩ => ?_
  have bel : Below W.heap.size W W' := bel0
  subst he
  exact ⟨_, rfl, _, _, _, [], _, [], hW', trodAll_mk1 (shut_bool Try.underlying4 _), (trodAll_cons_mk (Below.trod laidOut (by kernel_rfl) (of_decide_eq_true (by kernel_rfl)) k0 bel lt0) (trodAll_cons_mk (shut_int Try.underlying3 w1) (trodAll_cons_mk (shut_string Try.underlying9 y2) trodAll_mk0))), rfl, bel.frame _, fun h => by cases h⟩
theorem over : Rows.fnExactWritePageRow.holds Try.pinned (OpenSpec.ofChange Rows.fnExactWritePageSpec) :=
  OpenClaim.holds_of_wide 10 Try.f10 rfl rfl rfl rfl rfl rfl rfl ⟨rfl, rfl, rfl, rfl, rfl⟩ rfl rfl rfl rfl rfl (by kernel_rfl) Try.func10 (by kernel_rfl)
    (of_decide_eq_true (by kernel_rfl)) (by unfold Func.isWrapper; first | (rw [if_pos (by decide +kernel)]; kernel_rfl) | (rw [if_neg (by decide +kernel)]; exact ⟨rfl, rfl⟩))
    (fun os started H enc _ => lifted os started H enc)
theorem proved : Rows.FnExactWritePageSaid := over
#print axioms proved
end Go.Proofs.Ytbjlpmhhcigkdaa.fnExactWritePage
namespace Go.Proofs.Ytbjlpmhhcigkdaa
/-- The row, under a short name, for the claim. -/
theorem fnExactWritePage_holds : Rows.FnExactWritePageSaid := fnExactWritePage.proved
end Go.Proofs.Ytbjlpmhhcigkdaa
