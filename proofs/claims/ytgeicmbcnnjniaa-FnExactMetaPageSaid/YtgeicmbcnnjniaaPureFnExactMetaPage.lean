/- The printed form of FnExactMetaPage answers true at every input that its bounds let in; no other conditions. -/
import Derived.Test.YtgeicmbcnnjniaaPFnExactMetaPagex1
import Derived.Test.YtgeicmbcnnjniaaM
namespace Go.Proofs.Ytgeicmbcnnjniaa.PFnExactMetaPage
open Go Go.RowKit Go.Proofs.YtgeicmbcnnjniaaW.PrintWords Go.Proofs.YtgeicmbcnnjniaaW.PrintLast Go.Proofs.YtgeicmbcnnjniaaW.PrintMore
end Go.Proofs.Ytgeicmbcnnjniaa.PFnExactMetaPage
namespace Go.Proofs.Ytgeicmbcnnjniaa.Pure
open Go.Proofs.Ytgeicmbcnnjniaa.PFnExactMetaPage
open Go Go.RowKit Go.Proofs.YtgeicmbcnnjniaaW.PrintWords Go.Proofs.YtgeicmbcnnjniaaW.PrintLast Go.Proofs.YtgeicmbcnnjniaaW.PrintMore
theorem FnExactMetaPage : laws_FnExactMetaPage.Pure := by
  intro n hn
  have h := wf_i64 hn
  unfold laws_FnExactMetaPage.f spec_MetaPage.f impl_MetaPage.f
  rw [i64_and1_any n h]
  by_cases c : Int.tmod n 2 = 0
  · rw [if_pos c]
    have : n % 2 = 0 := by have := tmod2_zero n; omega
    simp [this]
  · rw [if_neg c]
    have : n % 2 = 1 := by have := tmod2_zero n; omega
    simp [this]
end Go.Proofs.Ytgeicmbcnnjniaa.Pure
