-- Written by a program of this repo (wip/myprint.py), over the kit's print; functions that the print does not take stand in it by hand-proved contracts.
import Derived.Test.YteokilffbcbllaaProg
import Derived.Below
import Derived.Deep.Draws
import Derived.Deep.AppendLies
import Derived.Maps.AppendAt
import Derived.OwnWalk
import Derived.Laws.BytesArg
import Derived.Laws.MakeOwn
import Derived.Laws.OwnMore
import Derived.Deep.OwnRows
import Derived.Tactics
import Derived.Lib.ConvBytes
import Derived.Laws.Slices
import Derived.WalkKit
import Derived.KernelRfl
import Derived.RowKit3
import Derived.Deep.LoopGhost
import Derived.Deep.QuietTactic
import Derived.BigQuiet
import Derived.WideLaws
import Derived.Deep.DeepCutAuto
import Derived.Deep.CutBlock
import Derived.Deep.RegionHeld3
import Derived.Laws.Rows
import Derived.Lib.AppendStr
import Derived.ArgAppend
import Derived.Laws.IdiomCopy
import Derived.OrdersHeld
import Derived.Laws.BitsLemmas
import Derived.RowKit
import Derived.Test.YteokilffbcbllaaZFnBestG
import Derived.Test.YteokilffbcbllaaZFnBestWWords
import Derived.Test.YteokilffbcbllaaZFnBestWLast
import Derived.Test.YteokilffbcbllaaZFnBestWTab
import Derived.Test.YteokilffbcbllaaZFnBestWFour
import Derived.Test.YteokilffbcbllaaZFnBestWQPut
import Derived.Test.YteokilffbcbllaaZFnBestWApart
import Derived.Test.YteokilffbcbllaaZFnBestWArr
import Derived.Test.YteokilffbcbllaaZFnBestWZeros
import Derived.Test.YteokilffbcbllaaZFnBestWFoot
import Derived.Test.YteokilffbcbllaaZFnBestWKept
import Derived.Test.YteokilffbcbllaaZFnBestWShare
import Derived.Test.YteokilffbcbllaaZFnBestWN
import Derived.Test.YteokilffbcbllaaZFnBestWFootNe
import Derived.Test.YteokilffbcbllaaZFnBestWAt
import Derived.Test.YteokilffbcbllaaZFnBestWEqStruct
import Derived.Test.YteokilffbcbllaaZFnBestWRepsOne
import Derived.Test.YteokilffbcbllaaZFnBestWInv
import Derived.Test.YteokilffbcbllaaZFnBestWInvWords
import Derived.Test.YteokilffbcbllaaZFnBestWGuard
import Derived.Test.YteokilffbcbllaaZFnBestWNEv
import Derived.Test.YteokilffbcbllaaZFnBestWMore
namespace Go.Proofs.Yteokilffbcbllaa.VFnBest
open Go.RowKit Go.Proofs.YteokilffbcbllaaW.PrintWords Go.Proofs.YteokilffbcbllaaW.PrintLast Go.Proofs.YteokilffbcbllaaW.PrintMore
attribute [local go_sem] max2_int min2_int max_two min_two max_three min_three max_four min_four   -- for this text's walks alone
attribute [local go_sem high] str_leq str_gtr str_geq str_lss
set_option linter.unusedVariables false
set_option linter.unusedSimpArgs false
theorem za {p : Prop} (h : p := by repeat (first | (with_reducible first | exact HB.out | apply below_alloc | apply pw_below_drewN | apply below_drew1) | exact HB.out)) : p := h
theorem zb {p : Prop} (h : p := by first | (with_reducible assumption) | assumption) : p := h
theorem zc {p : Prop} (h : p := by first | rfl | (simp [errW_none, errW_some] <;> rfl) | (simp [*, errW_none, errW_some] <;> rfl)) : p := h
theorem zd {p : Prop} (h : p := by first | rfl | (simp; done) | (simp [*]; done)) : p := h
theorem ze {p : Prop} (h : p := by repeat (first | (with_reducible first | exact HI0.out | apply IsS102.alloc | apply IsS102.drewN | apply IsS102.drew | apply IsS102.set_1 | apply IsS102.set_2 | apply IsS102.far (hne := NB0_415.out) | apply IsS102.far (hne := NB0_430.out)) | apply IsS102.far (hne := NB0_415.out) | apply IsS102.far (hne := NB0_430.out) | exact HI0.out)) : p := h
theorem zf {p : Prop} (h : p := by repeat (first | (with_reducible first | exact HB.out | apply below_alloc | apply pw_below_drewN | apply below_drew1 | refine below_set ?_ GE384.out | refine below_set ?_ GE385.out | refine below_set ?_ GE392.out) | exact HB.out)) : p := h
theorem zg {p : Prop} (h : p := by repeat (first | (with_reducible first | exact HK.out | apply KeepBut.set_ | apply keep_drewN | apply keep_drew | apply keep_alloc | refine keep_far ?_ GW415.out _ | refine keep_far ?_ GW430.out _) | exact HK.out)) : p := h
theorem zh {p : Prop} (h : p := by repeat (first | (with_reducible first | exact HB.out | apply below_alloc | apply pw_below_drewN | apply below_drew1 | refine below_set ?_ (IsS102.ge HI422.out) | refine below_set ?_ GE418.out | refine below_set ?_ GE430.out) | exact HB.out)) : p := h
theorem zi {p : Prop} (h : p := by repeat (first | (with_reducible first | exact HB.out | apply below_alloc | apply pw_below_drewN | apply below_drew1 | refine below_set ?_ GE384.out | refine below_set ?_ GE385.out) | exact HB.out)) : p := h
theorem zj {p : Prop} (h : p := by repeat (first | (with_reducible first | exact HI422.out | apply IsS102.alloc | apply IsS102.drewN | apply IsS102.drew | apply IsS102.set_1 | apply IsS102.set_2 | apply IsS102.far (hne := NB422_418.out) | apply IsS102.far (hne := NB422_430.out)) | apply IsS102.far (hne := NB422_418.out) | apply IsS102.far (hne := NB422_430.out) | exact HI422.out)) : p := h
theorem zk {p : Prop} (h : p := by repeat (first | (with_reducible first | exact HI143.out | apply IsS56.alloc | apply IsS56.drewN | apply IsS56.drew | apply IsS56.set_0 | apply IsS56.set_1 | apply IsS56.set_2 | apply IsS56.far (hne := NB143_140.out) | apply IsS56.far (hne := NB143_148.out) | apply IsS56.far (hne := NB143_167.out)) | apply IsS56.far (hne := NB143_140.out) | apply IsS56.far (hne := NB143_148.out) | apply IsS56.far (hne := NB143_167.out) | exact HI143.out)) : p := h
theorem zl {p : Prop} (h : p := by repeat (first | (with_reducible first | exact HI143.out | apply IsS56.alloc | apply IsS56.drewN | apply IsS56.drew | apply IsS56.set_0 | apply IsS56.set_1 | apply IsS56.set_2 | apply IsS56.far (hne := NB143_140.out) | apply IsS56.far (hne := NB143_148.out)) | apply IsS56.far (hne := NB143_140.out) | apply IsS56.far (hne := NB143_148.out) | exact HI143.out)) : p := h
theorem zm {p : Prop} (h : p := by repeat (first | (with_reducible first | exact HB.out | apply below_alloc | apply pw_below_drewN | apply below_drew1 | refine below_set ?_ (IsS102.ge HI0.out) | refine below_set ?_ GE415.out | refine below_set ?_ GE430.out) | exact HB.out)) : p := h
theorem zn {p : Prop} (h : p := by repeat (first | (with_reducible first | exact HK.out | apply KeepBut.set_ | apply keep_drewN | apply keep_drew | apply keep_alloc) | exact HK.out)) : p := h
theorem zo {p : Prop} (h : p := by repeat (first | (with_reducible first | exact HB.out | apply below_alloc | apply pw_below_drewN | apply below_drew1 | refine below_set ?_ GE364.out | refine below_set ?_ GE365.out) | exact HB.out)) : p := h
theorem zp {p : Prop} (h : p := by repeat (first | (with_reducible first | exact HB.out | apply below_alloc | apply pw_below_drewN | apply below_drew1 | refine below_set ?_ (IsS56.ge HI143.out) | refine below_set ?_ GE140.out | refine below_set ?_ GE148.out) | exact HB.out)) : p := h
theorem zq {p : Prop} (h : p := by repeat (first | (with_reducible first | exact HB.out | apply below_alloc | apply pw_below_drewN | apply below_drew1 | refine below_set ?_ GE483.out | refine below_set ?_ GE491.out | refine below_set ?_ GE494.out | refine below_set ?_ GE512.out | refine below_set ?_ GE528.out | refine below_set ?_ GE537.out) | exact HB.out)) : p := h
theorem zr {p : Prop} (h : p := by repeat (first | (with_reducible first | exact HB.out | apply below_alloc | apply pw_below_drewN | apply below_drew1 | refine below_set ?_ (IsS56.ge HI143.out) | refine below_set ?_ GE140.out | refine below_set ?_ GE148.out | refine below_set ?_ GE167.out) | exact HB.out)) : p := h
theorem zs {p : Prop} (h : p := by repeat (first | (with_reducible first | exact HB.out | apply below_alloc | apply pw_below_drewN | apply below_drew1 | refine below_set ?_ (IsS63.ge HI253.out) | refine below_set ?_ GE250.out | refine below_set ?_ GE258.out) | exact HB.out)) : p := h
theorem zt {p : Prop} (h : p := by repeat (first | (with_reducible first | exact HI253.out | apply IsS63.alloc | apply IsS63.drewN | apply IsS63.drew | apply IsS63.set_0 | apply IsS63.set_1 | apply IsS63.set_2 | apply IsS63.far (hne := NB253_250.out) | apply IsS63.far (hne := NB253_258.out)) | apply IsS63.far (hne := NB253_250.out) | apply IsS63.far (hne := NB253_258.out) | exact HI253.out)) : p := h
theorem zu {p : Prop} (h : p := by repeat (first | (with_reducible first | exact HI0.out | apply IsS102.alloc | apply IsS102.drewN | apply IsS102.drew | apply IsS102.set_1 | apply IsS102.set_2 | apply IsS102.far (hne := NB0_319.out) | apply IsS102.far (hne := NB0_326.out) | apply IsS102.far (hne := NB0_333.out)) | apply IsS102.far (hne := NB0_319.out) | apply IsS102.far (hne := NB0_326.out) | apply IsS102.far (hne := NB0_333.out) | exact HI0.out)) : p := h
theorem zv {p : Prop} (h : p := by (try simp only [qd, qe, qf]); first | done | rfl | (simp only [qg, qh]; rfl)) : p := h
theorem zw {p : Prop} (h : p := by repeat (first | (with_reducible first | exact HB.out | apply below_alloc | apply pw_below_drewN | apply below_drew1 | refine below_set ?_ GE117.out) | exact HB.out)) : p := h
theorem zx {p : Prop} (h : p := by repeat (first | (with_reducible first | exact HB.out | apply below_alloc | apply pw_below_drewN | apply below_drew1 | refine below_set ?_ GE212.out | refine below_set ?_ GE220.out) | exact HB.out)) : p := h
theorem zy {p : Prop} (h : p := by repeat (first | (with_reducible first | exact HI253.out | apply IsS63.alloc | apply IsS63.drewN | apply IsS63.drew | apply IsS63.set_0 | apply IsS63.set_1 | apply IsS63.set_2 | apply IsS63.far (hne := NB253_250.out) | apply IsS63.far (hne := NB253_258.out) | apply IsS63.far (hne := NB253_277.out)) | apply IsS63.far (hne := NB253_250.out) | apply IsS63.far (hne := NB253_258.out) | apply IsS63.far (hne := NB253_277.out) | exact HI253.out)) : p := h
theorem zz {p : Prop} (h : p := by repeat (first | (with_reducible first | exact HB.out | apply below_alloc | apply pw_below_drewN | apply below_drew1 | refine below_set ?_ GE127.out | refine below_set ?_ GE135.out) | exact HB.out)) : p := h
theorem z1 {p : Prop} (h : p := by repeat (first | (with_reducible first | exact HB.out | apply below_alloc | apply pw_below_drewN | apply below_drew1 | refine below_set ?_ GE483.out | refine below_set ?_ GE491.out | refine below_set ?_ GE494.out | refine below_set ?_ GE512.out | refine below_set ?_ GE528.out) | exact HB.out)) : p := h
theorem z2 {p : Prop} (h : p := by repeat (first | (with_reducible first | exact HI0.out | apply IsS102.alloc | apply IsS102.drewN | apply IsS102.drew | apply IsS102.set_1 | apply IsS102.set_2) | exact HI0.out)) : p := h
theorem z3 {p : Prop} (h : p := by repeat (first | (with_reducible first | exact HB.out | apply below_alloc | apply pw_below_drewN | apply below_drew1 | refine below_set ?_ (IsS102.ge HI0.out)) | exact HB.out)) : p := h
theorem z4 {p : Prop} (h : p := by repeat (first | (with_reducible first | exact HK.out | apply KeepBut.set_ | apply keep_drewN | apply keep_drew | apply keep_alloc | refine keep_far ?_ GW319.out _ | refine keep_far ?_ GW326.out _ | refine keep_far ?_ GW333.out _) | exact HK.out)) : p := h
theorem z5 {p : Prop} (h : p := by repeat (first | exact Drawn0.refl _ | apply Drawn0.step)) : p := h
theorem z6 {p : Prop} (h : p := by repeat (first | (with_reducible first | exact HB.out | apply below_alloc | apply pw_below_drewN | apply below_drew1 | refine below_set ?_ GE398.out | refine below_set ?_ GE399.out | refine below_set ?_ GE400.out) | exact HB.out)) : p := h
theorem z7 {p : Prop} (h : p := by repeat (first | (with_reducible first | exact HB.out | apply below_alloc | apply pw_below_drewN | apply below_drew1 | refine below_set ?_ (IsS63.ge HI253.out) | refine below_set ?_ GE250.out | refine below_set ?_ GE258.out | refine below_set ?_ GE277.out) | exact HB.out)) : p := h
theorem z8 {p : Prop} (h : p := by repeat (first | (with_reducible first | exact HB.out | apply below_alloc | apply pw_below_drewN | apply below_drew1 | refine below_set ?_ (IsS102.ge HI0.out) | refine below_set ?_ GE319.out | refine below_set ?_ GE326.out | refine below_set ?_ GE333.out) | exact HB.out)) : p := h
theorem z9 {p : Prop} (h : p := by repeat (first | (with_reducible first | exact HB.out | apply below_alloc | apply pw_below_drewN | apply below_drew1 | refine below_set ?_ GE237.out) | exact HB.out)) : p := h
theorem zaa {p : Prop} (h : p := by (with_reducible repeat (first | apply Kd.R_alloc | apply Kd.R_drewN | apply Kd.R_drew)); exact HO_3.out) : p := h
theorem zab {p : Prop} (h : p := by repeat (first | (with_reducible first | exact HB.out | apply below_alloc | apply pw_below_drewN | apply below_drew1 | refine below_set ?_ GE483.out | refine below_set ?_ GE491.out | refine below_set ?_ GE494.out | refine below_set ?_ GE512.out | refine below_set ?_ GE528.out | refine below_set ?_ GE537.out | refine below_set ?_ GE545.out | refine below_set ?_ GE552.out | refine below_set ?_ GE560.out | refine below_set ?_ GE568.out) | exact HB.out)) : p := h
theorem zac {p : Prop} (h : p := by repeat (first | (with_reducible first | exact Bw.out | apply pw_below_drewN | apply below_drew1) | exact Bw.out)) : p := h
theorem zad {p : Prop} (h : p := by (with_reducible repeat (first | apply Kd.S_alloc | apply Kd.S_drewN | apply Kd.S_drew)); exact HO482.out) : p := h
theorem zae {p : Prop} (h : p := by repeat (first | (with_reducible first | exact HB.out | apply below_alloc | apply pw_below_drewN | apply below_drew1 | refine below_set ?_ GE483.out | refine below_set ?_ GE491.out | refine below_set ?_ GE494.out | refine below_set ?_ GE512.out | refine below_set ?_ GE528.out | refine below_set ?_ GE537.out | refine below_set ?_ GE545.out) | exact HB.out)) : p := h
theorem zaf {p : Prop} (h : p := by repeat (first | (with_reducible first | exact HB.out | apply below_alloc | apply pw_below_drewN | apply below_drew1 | refine below_set ?_ GE483.out | refine below_set ?_ GE491.out | refine below_set ?_ GE494.out | refine below_set ?_ GE512.out) | exact HB.out)) : p := h
theorem zag {p : Prop} (h : p := by repeat (first | (with_reducible first | exact HB.out | apply below_alloc | apply pw_below_drewN | apply below_drew1 | refine below_set ?_ GE212.out) | exact HB.out)) : p := h
theorem zah {p : Prop} (h : p := by repeat (first | (with_reducible first | exact HB.out | apply below_alloc | apply pw_below_drewN | apply below_drew1 | refine below_set ?_ GE127.out) | exact HB.out)) : p := h
theorem zai {p : Prop} (h : p := by repeat (first | (with_reducible first | exact HB.out | apply below_alloc | apply pw_below_drewN | apply below_drew1 | refine below_set ?_ GE469.out | refine below_set ?_ GE470.out) | exact HB.out)) : p := h
theorem zaj {p : Prop} (h : p := by (with_reducible repeat (first | refine blk_drewN ?_ _ | refine blk_drew ?_ | refine blk_alloc ?_ _)); refine blk_put (cs := #[.int .i64 ((rd_T60 l0_3 x4_2).f0), .slice none 0 0]) ?_ 1 _ rfl; (with_reducible repeat (first | refine blk_drewN ?_ _ | refine blk_drew ?_ | refine blk_alloc ?_ _)); refine blk_put (cs := #[.int .i64 0, .slice none 0 0]) ?_ 0 _ rfl; (with_reducible repeat (first | refine blk_drewN ?_ _ | refine blk_drew ?_ | refine blk_alloc ?_ _)); exact BK135.out) : p := h
theorem zak {p : Prop} (h : p := by (with_reducible repeat (first | apply Kd.R_alloc | apply Kd.R_drewN | apply Kd.R_drew)); exact HO486.out) : p := h
theorem zal {p : Prop} (h : p := by (with_reducible repeat (first | apply Kd.R_alloc | apply Kd.R_drewN | apply Kd.R_drew)); exact HO489.out) : p := h
theorem zam {p : Prop} (h : p := by repeat (first | (with_reducible first | exact HB.out | apply below_alloc | apply pw_below_drewN | apply below_drew1 | refine below_set ?_ GE483.out | refine below_set ?_ GE491.out | refine below_set ?_ GE494.out) | exact HB.out)) : p := h
theorem zan {p : Prop} (h : p := by repeat (first | (with_reducible first | exact HB.out | apply below_alloc | apply pw_below_drewN | apply below_drew1 | refine below_set ?_ GE204.out | refine below_set ?_ GE205.out) | exact HB.out)) : p := h
theorem zao {p : Prop} (h : p := by repeat (first | exact (Kd.C_below HR0_0.out HB.out) | (with_reducible refine Kd.C_alloc ?_ _) | (with_reducible refine Kd.C_drewN ?_ _) | (with_reducible refine Kd.C_drew ?_))) : p := h
theorem zap {p : Prop} (h : p := by repeat (first | (with_reducible first | exact HK.out | apply KeepBut.set_ | apply keep_drewN | apply keep_drew | apply keep_alloc | refine keep_far ?_ GW319.out _ | refine keep_far ?_ GW326.out _) | exact HK.out)) : p := h
theorem zaq {p : Prop} (h : p := by repeat (first | (with_reducible first | exact HB.out | apply below_alloc | apply pw_below_drewN | apply below_drew1 | refine below_set ?_ GE483.out | refine below_set ?_ GE491.out | refine below_set ?_ GE494.out | refine below_set ?_ GE512.out | refine below_set ?_ GE528.out | refine below_set ?_ GE537.out | refine below_set ?_ GE545.out | refine below_set ?_ GE552.out | refine below_set ?_ GE560.out) | exact HB.out)) : p := h
theorem zar {p : Prop} (h : p := by (with_reducible repeat (first | apply Kd.S_alloc | apply Kd.S_drewN | apply Kd.S_drew)); exact HO510.out) : p := h
theorem zas {p : Prop} (h : p := by repeat (first | (with_reducible first | exact HB.out | apply below_alloc | apply pw_below_drewN | apply below_drew1 | refine below_set ?_ GE384.out) | exact HB.out)) : p := h
theorem zat {p : Prop} (h : p := by repeat (first | (with_reducible first | exact Bw2.out | apply pw_below_drewN | apply below_drew1) | exact Bw2.out)) : p := h
theorem zau {p : Prop} (h : p := by (with_reducible repeat (first | refine blk_drewN ?_ _ | refine blk_drew ?_ | refine blk_alloc ?_ _)); refine blk_far ?_ NB127_135.out _; (with_reducible repeat (first | refine blk_drewN ?_ _ | refine blk_drew ?_ | refine blk_alloc ?_ _)); refine blk_far ?_ NB127_135.out _; (with_reducible repeat (first | refine blk_drewN ?_ _ | refine blk_drew ?_ | refine blk_alloc ?_ _)); exact BK127.out) : p := h
theorem zav {p : Prop} (h : p := by repeat (first | (with_reducible first | exact HB.out | apply below_alloc | apply pw_below_drewN | apply below_drew1 | refine below_set ?_ GE483.out | refine below_set ?_ GE491.out | refine below_set ?_ GE494.out | refine below_set ?_ GE512.out | refine below_set ?_ GE528.out | refine below_set ?_ GE537.out | refine below_set ?_ GE545.out | refine below_set ?_ GE552.out) | exact HB.out)) : p := h
theorem zaw {p : Prop} (h : p := by (with_reducible repeat (first | refine blk_drewN ?_ _ | refine blk_drew ?_ | refine blk_alloc ?_ _)); exact BK127.out) : p := h
theorem zax {p : Prop} (h : p := by repeat (first | (with_reducible first | exact HB.out | apply below_alloc | apply pw_below_drewN | apply below_drew1 | refine below_set ?_ GE378.out) | exact HB.out)) : p := h
theorem zay {p : Prop} (h : p := by (with_reducible repeat (first | apply Kd.S_alloc | apply Kd.S_drewN | apply Kd.S_drew)); exact HO421.out) : p := h
theorem zaz {p : Prop} (h : p := by (with_reducible repeat (first | apply Kd.R_alloc | apply Kd.R_drewN | apply Kd.R_drew)); exact HO500.out) : p := h
theorem za0 {p : Prop} (h : p := by (with_reducible repeat (first | apply Kd.R_alloc | apply Kd.R_drewN | apply Kd.R_drew)); exact HO503.out) : p := h
theorem za1 {p : Prop} (h : p := by (with_reducible repeat (first | apply Kd.S_alloc | apply Kd.S_drewN | apply Kd.S_drew)); exact HO526.out) : p := h
theorem za2 {p : Prop} (h : p := by first | (rw [add_block]; exact hn137_0) | (show (Addr.add _ _).block ≠ _; rw [add_block]; exact hn137_0) | exact hn137_0) : p := h
theorem za3 {p : Prop} (h : p := by first | (rw [add_block]; exact hn137_1) | (show (Addr.add _ _).block ≠ _; rw [add_block]; exact hn137_1) | exact hn137_1) : p := h
theorem za4 {p : Prop} (h : p := by (with_reducible repeat (first | refine blk_drewN ?_ _ | refine blk_drew ?_ | refine blk_alloc ?_ _)); refine blk_put (cs := #[.int .i64 ((rd_T60 l0_3 x44_2).f0), .slice none 0 0]) ?_ 1 _ rfl; (with_reducible repeat (first | refine blk_drewN ?_ _ | refine blk_drew ?_ | refine blk_alloc ?_ _)); refine blk_put (cs := #[.int .i64 0, .slice none 0 0]) ?_ 0 _ rfl; (with_reducible repeat (first | refine blk_drewN ?_ _ | refine blk_drew ?_ | refine blk_alloc ?_ _)); exact BK220.out) : p := h
theorem za5 {p : Prop} (h : p := by kernel_rfl) : p := h
theorem za6 {p : Prop} (h : p := by (with_reducible repeat (first | refine blk_drewN ?_ _ | refine blk_drew ?_ | refine blk_alloc ?_ _)); exact BK212.out) : p := h
theorem za7 {p : Prop} (h : p := by (with_reducible repeat (first | apply Kd.R_alloc | apply Kd.R_drewN | apply Kd.R_drew)); exact HO_431000.out) : p := h
theorem za8 {p : Prop} (h : p := by (with_reducible repeat (first | apply Kd.R_alloc | apply Kd.R_drewN | apply Kd.R_drew)); exact HO_431001.out) : p := h
theorem za9 {p : Prop} (h : p := by first | exact Kd.S_nil _ _ _ _ _ | exact Kd.N_nil _ _ _ _ _ | exact Kd.V_nil _ _ _ _ _ | exact Kd.Q_nil _ _ _ _ _ | exact Kd.R_nil _ _ _ _ _) : p := h
theorem zba {p : Prop} (h : p := by repeat (first | exact (Kd.C_below HR0_1.out HB.out) | (with_reducible refine Kd.C_alloc ?_ _) | (with_reducible refine Kd.C_drewN ?_ _) | (with_reducible refine Kd.C_drew ?_))) : p := h
theorem zbb {p : Prop} (h : p := by repeat (first | (with_reducible first | exact HB.out | apply below_alloc | apply pw_below_drewN | apply below_drew1 | refine below_set ?_ GE237.out | refine below_set ?_ GE244.out) | exact HB.out)) : p := h
theorem zbc {p : Prop} (h : p := by repeat (first | (with_reducible first | exact HI0.out | apply IsS102.alloc | apply IsS102.drewN | apply IsS102.drew | apply IsS102.set_1 | apply IsS102.set_2 | apply IsS102.far (hne := NB0_319.out) | apply IsS102.far (hne := NB0_326.out)) | apply IsS102.far (hne := NB0_319.out) | apply IsS102.far (hne := NB0_326.out) | exact HI0.out)) : p := h
theorem zbd {p : Prop} (h : p := by repeat (first | (with_reducible first | exact HK.out | apply KeepBut.set_ | apply keep_drewN | apply keep_drew | apply keep_alloc | refine keep_far ?_ GW415.out _) | exact HK.out)) : p := h
theorem zbe {p : Prop} (h : p := by repeat (first | exact (Kd.C_below HR0_3.out HB.out) | (with_reducible refine Kd.C_alloc ?_ _) | (with_reducible refine Kd.C_drewN ?_ _) | (with_reducible refine Kd.C_drew ?_))) : p := h
theorem zbf {p : Prop} (h : p := by decide) : p := h
theorem zbg {p : Prop} (h : p := by repeat (first | (with_reducible first | exact HB.out | apply below_alloc | apply pw_below_drewN | apply below_drew1 | refine below_set ?_ (IsS102.ge HI0.out) | refine below_set ?_ GE319.out | refine below_set ?_ GE326.out) | exact HB.out)) : p := h
theorem zbh {p : Prop} (h : p := by (with_reducible repeat (first | refine blk_drewN ?_ _ | refine blk_drew ?_ | refine blk_alloc ?_ _)); refine blk_far ?_ NB212_220.out _; (with_reducible repeat (first | refine blk_drewN ?_ _ | refine blk_drew ?_ | refine blk_alloc ?_ _)); refine blk_far ?_ NB212_220.out _; (with_reducible repeat (first | refine blk_drewN ?_ _ | refine blk_drew ?_ | refine blk_alloc ?_ _)); exact BK212.out) : p := h
theorem zbi {p : Prop} (h : p := by (with_reducible repeat (first | refine blk_drewN ?_ _ | refine blk_drew ?_ | refine blk_alloc ?_ _)); refine blk_far ?_ NB418_430.out _; (with_reducible repeat (first | refine blk_drewN ?_ _ | refine blk_drew ?_ | refine blk_alloc ?_ _)); refine blk_far ?_ NB418_430.out _; (with_reducible repeat (first | refine blk_drewN ?_ _ | refine blk_drew ?_ | refine blk_alloc ?_ _)); exact BK418.out) : p := h
theorem zbj {p : Prop} (h : p := by repeat (first | (with_reducible first | exact HB.out | apply below_alloc | apply pw_below_drewN | apply below_drew1 | refine below_set ?_ GE294.out) | exact HB.out)) : p := h
theorem zbk {p : Prop} (h : p := by (with_reducible repeat (first | apply Kd.R_alloc | apply Kd.R_drewN | apply Kd.R_drew)); exact HO391.out) : p := h
theorem zbl {p : Prop} (h : p := by (with_reducible repeat (first | apply Kd.S_alloc | apply Kd.S_drewN | apply Kd.S_drew)); exact HO429.out) : p := h
theorem zbm {p : Prop} (h : p := by (with_reducible repeat (first | apply Kd.R_alloc | apply Kd.R_drewN | apply Kd.R_drew)); exact HO516.out) : p := h
theorem zbn {p : Prop} (h : p := by (with_reducible repeat (first | apply Kd.R_alloc | apply Kd.R_drewN | apply Kd.R_drew)); exact HO519.out) : p := h
theorem zbo {p : Prop} (h : p := by repeat (first | (with_reducible first | exact Bw4.out | apply pw_below_drewN | apply below_drew1) | exact Bw4.out)) : p := h
theorem zbp {p : Prop} (h : p := by repeat (first | (with_reducible first | exact HI0.out | apply IsS56.alloc | apply IsS56.drewN | apply IsS56.drew | apply IsS56.set_0 | apply IsS56.set_1 | apply IsS56.set_2) | exact HI0.out)) : p := h
theorem zbq {p : Prop} (h : p := by have := World.block_lt_of_cell? _ _ hx137_0; first | rwa [add_block] at this | exact this) : p := h
theorem zbr {p : Prop} (h : p := by repeat (first | exact (Kd.C_below HR473_1.out HB.out) | (with_reducible refine Kd.C_alloc ?_ _) | (with_reducible refine Kd.C_drewN ?_ _) | (with_reducible refine Kd.C_drew ?_))) : p := h
theorem zbs {p : Prop} (h : p := by repeat (first | exact (Kd.C_below HR474_1.out HB.out) | (with_reducible refine Kd.C_alloc ?_ _) | (with_reducible refine Kd.C_drewN ?_ _) | (with_reducible refine Kd.C_drew ?_))) : p := h
theorem zbt {p : Prop} (h : p := by (with_reducible repeat (first | apply Kd.R_alloc | apply Kd.R_drewN | apply Kd.R_drew)); exact HO388.out) : p := h
theorem zbu {p : Prop} (h : p := by repeat (first | (with_reducible first | exact HB.out | apply below_alloc | apply pw_below_drewN | apply below_drew1 | refine below_set ?_ (IsS102.ge HI422.out) | refine below_set ?_ GE418.out) | exact HB.out)) : p := h
theorem zbv {p : Prop} (h : p := by repeat (first | (with_reducible first | exact HB.out | apply below_alloc | apply pw_below_drewN | apply below_drew1 | refine below_set ?_ (IsS56.ge HI0.out)) | exact HB.out)) : p := h
theorem zbw {p : Prop} (h : p := by repeat (first | (with_reducible first | exact HB.out | apply below_alloc | apply pw_below_drewN | apply below_drew1 | refine below_set ?_ GE359.out) | exact HB.out)) : p := h
theorem zbx {p : Prop} (h : p := by repeat (first | (with_reducible first | exact HB.out | apply below_alloc | apply pw_below_drewN | apply below_drew1 | refine below_set ?_ GE469.out) | exact HB.out)) : p := h
theorem zby {p : Prop} (h : p := by (with_reducible repeat (first | apply Kd.S_alloc | apply Kd.S_drewN | apply Kd.S_drew)); exact HO_149003.out) : p := h
theorem zbz {p : Prop} (h : p := by (with_reducible repeat (first | refine blk_drewN ?_ _ | refine blk_drew ?_ | refine blk_alloc ?_ _)); refine blk_put (cs := #[.int .i64 t144, .int .i64 t149, .int .i64 t153, u149003]) ?_ 3 _ rfl; (with_reducible repeat (first | refine blk_drewN ?_ _ | refine blk_drew ?_ | refine blk_alloc ?_ _)); exact BK148.out) : p := h
theorem zb0 {p : Prop} (h : p := by repeat (first | (with_reducible first | exact HK.out | apply KeepBut.set_ | apply keep_drewN | apply keep_drew | apply keep_alloc | refine keep_far ?_ GW319.out _) | exact HK.out)) : p := h
theorem zb1 {p : Prop} (h : p := by repeat (first | exact (Kd.S_reads' HO_259003.out).2.2 | (with_reducible refine Kd.C_alloc ?_ _) | (with_reducible refine Kd.C_drewN ?_ _) | (with_reducible refine Kd.C_drew ?_))) : p := h
theorem zb2 {p : Prop} (h : p := by repeat (first | (with_reducible exact Bw.out) | (with_reducible refine below_set ?_ Gg2_w.out) | (with_reducible refine below_set ?_ Ggb_w.out))) : p := h
theorem zb3 {p : Prop} (h : p := by first | exact Kd.R_nil _ _ _ _ _ | exact Kd.N_nil _ _ _ _ _ | exact Kd.V_nil _ _ _ _ _ | exact Kd.Q_nil _ _ _ _ _ | exact Kd.S_nil _ _ _ _ _) : p := h
theorem zb4 {p : Prop} (h : p := by (with_reducible repeat (first | apply Kd.R_alloc | apply Kd.R_drewN | apply Kd.R_drew)); exact HO374.out) : p := h
theorem zb5 {p : Prop} (h : p := by repeat (first | (with_reducible first | exact HB.out | apply below_alloc | apply pw_below_drewN | apply below_drew1 | refine below_set ?_ GE483.out) | exact HB.out)) : p := h
theorem zb6 {p : Prop} (h : p := by repeat (first | (with_reducible first | exact HB.out | apply below_alloc | apply pw_below_drewN | apply below_drew1 | refine below_set ?_ GE188.out) | exact HB.out)) : p := h
theorem zb7 {p : Prop} (h : p := by repeat (first | (with_reducible first | exact HBW.out | apply below_alloc | apply pw_below_drewN | apply below_drew1) | exact HBW.out)) : p := h
theorem zb8 {p : Prop} (h : p := by repeat (first | (with_reducible first | exact HI0.out | apply IsS102.alloc | apply IsS102.drewN | apply IsS102.drew | apply IsS102.set_1 | apply IsS102.set_2 | apply IsS102.far (hne := NB0_319.out)) | apply IsS102.far (hne := NB0_319.out) | exact HI0.out)) : p := h
theorem zb9 {p : Prop} (h : p := by repeat (first | (with_reducible first | exact HI0.out | apply IsS102.alloc | apply IsS102.drewN | apply IsS102.drew | apply IsS102.set_1 | apply IsS102.set_2 | apply IsS102.far (hne := NB0_415.out)) | apply IsS102.far (hne := NB0_415.out) | exact HI0.out)) : p := h
theorem zca {p : Prop} (h : p := by (with_reducible repeat (first | refine blk_drewN ?_ _ | refine blk_drew ?_ | refine blk_alloc ?_ _)); refine blk_far ?_ NB140_148.out _; (with_reducible repeat (first | refine blk_drewN ?_ _ | refine blk_drew ?_ | refine blk_alloc ?_ _)); exact BK140.out) : p := h
theorem zcb {p : Prop} (h : p := by repeat (first | (with_reducible first | exact HI0.out | apply IsS63.alloc | apply IsS63.drewN | apply IsS63.drew | apply IsS63.set_0 | apply IsS63.set_1 | apply IsS63.set_2) | exact HI0.out)) : p := h
theorem zcc {p : Prop} (h : p := by (with_reducible repeat (first | apply Kd.S_alloc | apply Kd.S_drewN | apply Kd.S_drew)); exact HO_259003.out) : p := h
theorem zcd {p : Prop} (h : p := by repeat (first | exact (Kd.S_reads' HO_149003.out).2.2 | (with_reducible refine Kd.C_alloc ?_ _) | (with_reducible refine Kd.C_drewN ?_ _) | (with_reducible refine Kd.C_drew ?_))) : p := h
theorem zce {p : Prop} (h : p := by (with_reducible repeat (first | refine blk_drewN ?_ _ | refine blk_drew ?_ | refine blk_alloc ?_ _)); exact BK204.out) : p := h
theorem zcf {p : Prop} (h : p := by (with_reducible repeat (first | refine blk_drewN ?_ _ | refine blk_drew ?_ | refine blk_alloc ?_ _)); exact BK205.out) : p := h
theorem zcg {p : Prop} (h : p := by (with_reducible repeat (first | refine blk_drewN ?_ _ | refine blk_drew ?_ | refine blk_alloc ?_ _)); exact BK135.out) : p := h
theorem zch {p : Prop} (h : p := by (with_reducible repeat (first | refine blk_drewN ?_ _ | refine blk_drew ?_ | refine blk_alloc ?_ _)); exact BK469.out) : p := h
theorem zci {p : Prop} (h : p := by (with_reducible repeat (first | refine blk_drewN ?_ _ | refine blk_drew ?_ | refine blk_alloc ?_ _)); exact BK470.out) : p := h
theorem zcj {p : Prop} (h : p := by repeat (first | (with_reducible first | exact HB.out | apply below_alloc | apply pw_below_drewN | apply below_drew1 | refine below_set ?_ (IsS63.ge HI0.out)) | exact HB.out)) : p := h
theorem zck {p : Prop} (h : p := by repeat (first | exact (Kd.R_reads' HO_3.out).2.2 | (with_reducible refine Kd.C_alloc ?_ _) | (with_reducible refine Kd.C_drewN ?_ _) | (with_reducible refine Kd.C_drew ?_))) : p := h
theorem zcl {p : Prop} (h : p := by (try simp only [List.map_toArray, List.map_cons, List.map_nil]); first | done | (simp only [hji4]; rfl) | rfl | (simp only [List.length_drop, List.length_take]; rfl)) : p := h
theorem zcm {p : Prop} (h : p := by have := HK1.out; have := HK2.out; omega) : p := h
theorem zcn {p : Prop} (h : p := by repeat (first | (with_reducible first | exact HB.out | apply below_alloc | apply pw_below_drewN | apply below_drew1 | refine below_set ?_ (IsS102.ge HI350.out) | refine below_set ?_ GE346.out) | exact HB.out)) : p := h
theorem zco {p : Prop} (h : p := by (with_reducible repeat (first | apply Kd.R_alloc | apply Kd.R_drewN | apply Kd.R_drew)); exact HO368.out) : p := h
theorem zcp {p : Prop} (h : p := by repeat (first | (with_reducible first | exact HB.out | apply below_alloc | apply pw_below_drewN | apply below_drew1 | refine below_set ?_ (IsS63.ge HI253.out) | refine below_set ?_ GE250.out) | exact HB.out)) : p := h
theorem zcq {p : Prop} (h : p := by repeat (first | (with_reducible first | exact HB.out | apply below_alloc | apply pw_below_drewN | apply below_drew1 | refine below_set ?_ (IsS56.ge HI143.out) | refine below_set ?_ GE140.out) | exact HB.out)) : p := h
theorem zcr {p : Prop} (h : p := by repeat (first | (with_reducible first | exact HB.out | apply below_alloc | apply pw_below_drewN | apply below_drew1 | refine below_set ?_ (IsS102.ge HI0.out) | refine below_set ?_ GE319.out) | exact HB.out)) : p := h
theorem zcs {p : Prop} (h : p := by repeat (first | (with_reducible first | exact HB.out | apply below_alloc | apply pw_below_drewN | apply below_drew1 | refine below_set ?_ (IsS102.ge HI0.out) | refine below_set ?_ GE415.out) | exact HB.out)) : p := h
theorem zct {p : Prop} (h : p := by repeat (first | exact HR0.out | (with_reducible refine Kd.C_alloc ?_ _) | (with_reducible refine Kd.C_drewN ?_ _) | (with_reducible refine Kd.C_drew ?_))) : p := h
theorem zcu {p : Prop} (h : p := by repeat (first | (with_reducible first | exact HB.out | apply below_alloc | apply pw_below_drewN | apply below_drew1 | refine below_set ?_ GE483.out | refine below_set ?_ GE491.out) | exact HB.out)) : p := h
theorem zcv {p : Prop} (h : p := by (with_reducible repeat (first | refine blk_drewN ?_ _ | refine blk_drew ?_ | refine blk_alloc ?_ _)); exact BK220.out) : p := h
theorem zcw {p : Prop} (h : p := by (with_reducible repeat (first | refine blk_drewN ?_ _ | refine blk_drew ?_ | refine blk_alloc ?_ _)); exact BK140.out) : p := h
theorem zcx {p : Prop} (h : p := by (with_reducible repeat (first | refine blk_drewN ?_ _ | refine blk_drew ?_ | refine blk_alloc ?_ _)); exact BK148.out) : p := h
theorem zcy {p : Prop} (h : p := by have := HK1.out; first | omega | exact Nat.le_refl _) : p := h
theorem zcz {p : Prop} (h : p := by repeat (first | (with_reducible exact Kept.refl _ _) | refine Kept.setCell ?_ (.inl (.inl rfl)) _ | refine Kept.setCell ?_ (.inl (.inr rfl)) _)) : p := h
theorem zc0 {p : Prop} (h : p := by first | rfl | (simp; done) | (simp only [← hji8, ← hji12, ← hji14] <;> (first | rfl | simp)) | (simp [*]; done)) : p := h
theorem zc1 {p : Prop} (h : p := by repeat (first | exact (Kd.C_below HR219_1.out HB.out) | (with_reducible refine Kd.C_alloc ?_ _) | (with_reducible refine Kd.C_drewN ?_ _) | (with_reducible refine Kd.C_drew ?_))) : p := h
theorem zc2 {p : Prop} (h : p := by first | (rintro ⟨h_, _⟩; cases h_; done) | exact fun h_ => h_.2.elim (fun h_ => by cases h_) (fun h_ => by have := HGE.out; omega)) : p := h
theorem zc3 {p : Prop} (h : p := by (with_reducible repeat (first | apply Kd.R_alloc | apply Kd.R_drewN | apply Kd.R_drew)); exact HO371.out) : p := h
theorem zc4 {p : Prop} (h : p := by (with_reducible repeat (first | apply Kd.R_alloc | apply Kd.R_drewN | apply Kd.R_drew)); exact HO454.out) : p := h
theorem zc5 {p : Prop} (h : p := by (with_reducible repeat (first | apply Kd.S_alloc | apply Kd.S_drewN | apply Kd.S_drew)); exact HO543.out) : p := h
theorem zc6 {p : Prop} (h : p := by repeat (first | exact (Kd.R_reads' HO516.out).2.2 | (with_reducible refine Kd.C_alloc ?_ _) | (with_reducible refine Kd.C_drewN ?_ _) | (with_reducible refine Kd.C_drew ?_))) : p := h
theorem zc7 {p : Prop} (h : p := by repeat (first | exact (Kd.R_reads' HO519.out).2.2 | (with_reducible refine Kd.C_alloc ?_ _) | (with_reducible refine Kd.C_drewN ?_ _) | (with_reducible refine Kd.C_drew ?_))) : p := h
theorem zc8 {p : Prop} (h : p := by repeat (first | (with_reducible first | exact HB.out | apply below_alloc | apply pw_below_drewN | apply below_drew1 | refine below_set ?_ GE250.out) | exact HB.out)) : p := h
theorem zc9 {p : Prop} (h : p := by repeat (first | (with_reducible first | exact HB.out | apply below_alloc | apply pw_below_drewN | apply below_drew1 | refine below_set ?_ GE140.out) | exact HB.out)) : p := h
theorem zda {p : Prop} (h : p := by first | omega | exact Nat.le_refl _) : p := h
theorem zdb {p : Prop} (h : p := by have := HJ1.out; have := HK2.out; first | omega | exact Nat.le_refl _) : p := h
theorem zdc {p : Prop} (h : p := by (with_reducible repeat (first | apply Kd.S_alloc | apply Kd.S_drewN | apply Kd.S_drew)); exact Kd.S_mono HO_149003.out (fun k_ hk => ⟨hk.2, fun e_ => hk.1 e_⟩)) : p := h
theorem zdd {p : Prop} (h : p := by (with_reducible repeat (first | refine blk_drewN ?_ _ | refine blk_drew ?_ | refine blk_alloc ?_ _)); exact BK237.out) : p := h
theorem zde {p : Prop} (h : p := by (with_reducible repeat (first | refine blk_drewN ?_ _ | refine blk_drew ?_ | refine blk_alloc ?_ _)); exact BK378.out) : p := h
theorem zdf {p : Prop} (h : p := by (with_reducible repeat (first | refine blk_drewN ?_ _ | refine blk_drew ?_ | refine blk_alloc ?_ _)); exact BK117.out) : p := h
theorem zdg {p : Prop} (h : p := by (with_reducible repeat (first | apply Kd.R_alloc | apply Kd.R_drewN | apply Kd.R_drew)); exact Kd.R_mono HO532.out (fun _ hk => ⟨hk.1.1.2, ⟨hk.1.2, hk.2⟩⟩)) : p := h
theorem zdh {p : Prop} (h : p := by (with_reducible repeat (first | apply Kd.R_alloc | apply Kd.R_drewN | apply Kd.R_drew)); exact Kd.R_mono HO535.out (fun _ hk => ⟨hk.1.1.2, ⟨hk.1.2, hk.2⟩⟩)) : p := h
theorem zdi {p : Prop} (h : p := by rw [hg]; exact Nat.ne_of_lt (bL BK483.out)) : p := h
theorem zdj {p : Prop} (h : p := by (with_reducible repeat (first | apply Kd.R_alloc | apply Kd.R_drewN | apply Kd.R_drew)); exact Kd.R_mono HO486.out (fun _ hk => ⟨hk.1.1, ⟨hk.1.2, hk.2⟩⟩)) : p := h
theorem zdk {p : Prop} (h : p := by (with_reducible repeat (first | apply Kd.R_alloc | apply Kd.R_drewN | apply Kd.R_drew)); exact Kd.R_mono HO489.out (fun _ hk => ⟨hk.1.1, ⟨hk.1.2, hk.2⟩⟩)) : p := h
theorem zdl {p : Prop} (h : p := by (with_reducible repeat (first | apply Kd.R_alloc | apply Kd.R_drewN | apply Kd.R_drew)); exact Kd.R_mono HO500.out (fun _ hk => ⟨hk.1.1, ⟨hk.1.2, hk.2⟩⟩)) : p := h
theorem zdm {p : Prop} (h : p := by (with_reducible repeat (first | apply Kd.R_alloc | apply Kd.R_drewN | apply Kd.R_drew)); exact Kd.R_mono HO503.out (fun _ hk => ⟨hk.1.1, ⟨hk.1.2, hk.2⟩⟩)) : p := h
theorem zdn {p : Prop} (h : p := by (with_reducible repeat (first | apply Kd.R_alloc | apply Kd.R_drewN | apply Kd.R_drew)); exact Kd.R_mono HO516.out (fun _ hk => ⟨hk.1.1, ⟨hk.1.2, hk.2⟩⟩)) : p := h
theorem zdo {p : Prop} (h : p := by (with_reducible repeat (first | apply Kd.R_alloc | apply Kd.R_drewN | apply Kd.R_drew)); exact Kd.R_mono HO519.out (fun _ hk => ⟨hk.1.1, ⟨hk.1.2, hk.2⟩⟩)) : p := h
theorem zdp {p : Prop} (h : p := by repeat (first | (with_reducible first | exact Bw7.out | apply pw_below_drewN | apply below_drew1) | exact Bw7.out)) : p := h
theorem zdq {p : Prop} (h : p := by (with_reducible repeat (first | apply Kd.S_alloc | apply Kd.S_drewN | apply Kd.S_drew)); exact HO_327003.out) : p := h
theorem zdr {p : Prop} (h : p := by (with_reducible repeat (first | apply Kd.R_alloc | apply Kd.R_drewN | apply Kd.R_drew)); exact HO_334001.out) : p := h
theorem zds {p : Prop} (h : p := by rw [hg]; exact Nat.ne_of_lt (bL BK384.out)) : p := h
theorem zdt {p : Prop} (h : p := by rw [hg]; exact Nat.ne_of_lt (bL BK491.out)) : p := h
theorem zdu {p : Prop} (h : p := by have := HJ1.out; have := HK2.out; have := HJ21.out; have := HK4.out; first | omega | exact Nat.le_refl _) : p := h
theorem zdv {p : Prop} (h : p := by (with_reducible repeat (first | apply Kd.S_alloc | apply Kd.S_drewN | apply Kd.S_drew)); exact HO558.out) : p := h
theorem zdw {p : Prop} (h : p := by simp) : p := h
theorem zdx {p : Prop} (h : p := by rw [hg]; exact Nat.ne_of_lt (bL BK494.out)) : p := h
theorem zdy {p : Prop} (h : p := by rfl) : p := h
theorem zdz {p : Prop} (h : p := by rw [hg]; exact Nat.ne_of_lt (bL BK512.out)) : p := h
theorem zd0 {p : Prop} (h : p := by (with_reducible repeat (first | apply Kd.S_alloc | apply Kd.S_drewN | apply Kd.S_drew)); exact HO436.out) : p := h
theorem zd1 {p : Prop} (h : p := by (with_reducible repeat (first | apply Kd.S_alloc | apply Kd.S_drewN | apply Kd.S_drew)); exact HO566.out) : p := h
theorem zd2 {p : Prop} (h : p := by rw [hg]; exact Nat.ne_of_lt (bL BK528.out)) : p := h
theorem zd3 {p : Prop} (h : p := by have := HK1.out; omega) : p := h
theorem zd4 {p : Prop} (h : p := by omega) : p := h
theorem zd5 {p : Prop} (h : p := by have := HK1.out; have := HJ19.out; have := HK3.out; omega) : p := h
theorem zd6 {p : Prop} (h : p := by rw [hg]; exact Nat.ne_of_lt (bL BK385.out)) : p := h
theorem zd7 {p : Prop} (h : p := by rw [hg]; exact Nat.ne_of_lt (bL BK537.out)) : p := h
theorem zd8 {p : Prop} (h : p := by rw [← hq_]; exact (bP BK384.out)) : p := h
theorem zd9 {p : Prop} (h : p := by rw [← hq_]; exact (bP BK385.out)) : p := h
theorem zea {p : Prop} (h : p := by rw [← hq_]; exact (bP BK392.out)) : p := h
theorem zeb {p : Prop} (h : p := by rw [hg]; exact Nat.ne_of_lt (bL BK250.out)) : p := h
theorem zec {p : Prop} (h : p := by rw [hg]; exact Nat.ne_of_lt (bL BK469.out)) : p := h
theorem zed {p : Prop} (h : p := by rw [hg]; exact Nat.ne_of_lt (bL BK545.out)) : p := h
theorem zee {p : Prop} (h : p := by rw [hg]; exact Nat.ne_of_lt (bL BK140.out)) : p := h
theorem zef {p : Prop} (h : p := by rw [hg]; exact (below_size za)) : p := h
theorem zeg {p : Prop} (h : p := by rw [hg]; exact (keep_size (w := w) (g := g) (row := none) zn)) : p := h
theorem zeh {p : Prop} (h : p := by simp only [putAll, Act.put, qa, qb, qc]) : p := h
theorem zei {p : Prop} (h : p := by rw [hg]; exact (below_size zac)) : p := h
theorem zej {p : Prop} (h : p := by rw [hg]; exact (below_size zas)) : p := h
theorem zek {p : Prop} (h : p := by rw [hg]; exact (below_size zi)) : p := h
theorem zel {p : Prop} (h : p := by rw [hg]; exact (below_size zat)) : p := h
theorem zem {p : Prop} (h : p := by rw [hg]; exact (below_size zbo)) : p := h
theorem zen {p : Prop} (h : p := by rw [hg]; exact (below_size zb7)) : p := h
theorem zeo {p : Prop} (h : p := by rw [hW]; exact zac) : p := h
theorem zep {p : Prop} (h : p := by rw [hW]; exact zat) : p := h
/-! What crush2.py spells short. -/
theorem qi {α β : Type} {x : Option α} {f : α → Option β} {b : β} (h : x.bind f = some b) : ∃ a, Aside0 (x = some a) ∧ f a = some b := by
  obtain ⟨a, h1, h2⟩ := Option.bind_eq_some_iff.mp h
  exact ⟨a, ⟨h1⟩, h2⟩
theorem qj : ¬ (false = true) := by decide
theorem qk1 {w : World} {g t : Nat} {a : Value} (h : w.heap[g]? = some (.cells #[a] t (0, 0))) : w.cell? ⟨g, 0, none⟩ = some a ∧ w.frozen? ⟨g, 0, none⟩ = false := ⟨(blk_cell h 0).trans rfl, blk_frozen h 0⟩
theorem qk2 {w : World} {g t : Nat} {a b : Value} (h : w.heap[g]? = some (.cells #[a, b] t (0, 0))) : w.cell? ⟨g, 0, none⟩ = some a ∧ w.cell? ⟨g, 1, none⟩ = some b ∧ w.frozen? ⟨g, 0, none⟩ = false ∧ w.frozen? ⟨g, 1, none⟩ = false := ⟨(blk_cell h 0).trans rfl, (blk_cell h 1).trans rfl, blk_frozen h 0, blk_frozen h 1⟩
theorem qk3 {w : World} {g t : Nat} {a b c : Value} (h : w.heap[g]? = some (.cells #[a, b, c] t (0, 0))) : w.cell? ⟨g, 0, none⟩ = some a ∧ w.cell? ⟨g, 1, none⟩ = some b ∧ w.cell? ⟨g, 2, none⟩ = some c ∧ w.frozen? ⟨g, 0, none⟩ = false ∧ w.frozen? ⟨g, 1, none⟩ = false ∧ w.frozen? ⟨g, 2, none⟩ = false := ⟨(blk_cell h 0).trans rfl, (blk_cell h 1).trans rfl, (blk_cell h 2).trans rfl, blk_frozen h 0, blk_frozen h 1, blk_frozen h 2⟩
theorem qk4 {w : World} {g t : Nat} {a b c d : Value} (h : w.heap[g]? = some (.cells #[a, b, c, d] t (0, 0))) : w.cell? ⟨g, 0, none⟩ = some a ∧ w.cell? ⟨g, 1, none⟩ = some b ∧ w.cell? ⟨g, 2, none⟩ = some c ∧ w.cell? ⟨g, 3, none⟩ = some d ∧ w.frozen? ⟨g, 0, none⟩ = false ∧ w.frozen? ⟨g, 1, none⟩ = false ∧ w.frozen? ⟨g, 2, none⟩ = false ∧ w.frozen? ⟨g, 3, none⟩ = false := ⟨(blk_cell h 0).trans rfl, (blk_cell h 1).trans rfl, (blk_cell h 2).trans rfl, (blk_cell h 3).trans rfl, blk_frozen h 0, blk_frozen h 1, blk_frozen h 2, blk_frozen h 3⟩
section
variable {P : Program} {ops : Array Oper} {Q : Exit → Act → World → Prop} {md : Region.Mode} {S : World → Prop} {ds : List Nat} {T : Bool × List (List Nat × List Nat)} {fuel : Nat} {l : Array Bool} {a a' : Act} {w : World} {oi : Oper} {v : Value}
theorem ql (i : Nat) (N : Option Tmp) (l' : Array Bool) (hT : Aside0 (rtab md ops = T)) (h : wpAnyLast P md ops Q S ds fuel l' a' w) (hi : ops[i]? = some oi := by exact rfl) (hN : oi.dst = N := by exact rfl) (hc : anyT T l.toList l'.toList i = true := by kernel_rfl) (hw : Region.wanted oi (yielded ops a.tmps) = true := by rfl) (hv : ∀ w, (execOp a.eval oi).run P w = .ok (.value v) w := by intro w'; go_simp; with_reducible rfl) (ha : a.put N v = a' := by simp only [Act.put, qa, qb, qc, i64_w, i32_w]; rfl) (hQ : ∀ c a w, Q (.panic c) (a.put oi.dst v) w → Q (.panic c) a w := by exact fun _ _ _ h => h) : wpAnyLast P md ops Q S ds (fuel + 1) l a w := pure_ l' hi hN (any_of hT.out hc) hQ (Or.inl ⟨hw, hv⟩) ha h
theorem qo (i : Nat) (N : Option Tmp) (l' : Array Bool) (hT : Aside0 (rtab md ops = T)) (h : wpAnyLast P md ops Q S ds fuel l' a' w) (hi : ops[i]? = some oi := by exact rfl) (hN : oi.dst = N := by exact rfl) (hc : anyT T l.toList l'.toList i = true := by kernel_rfl) (hw : Region.wanted oi (yielded ops a.tmps) = false := by rfl) (ha : a.put N undef = a' := by simp only [Act.put, qa, qb, qc, i64_w, i32_w]; rfl) (hQ : ∀ c a w, Q (.panic c) (a.put oi.dst undef) w → Q (.panic c) a w := by exact fun _ _ _ h => h) : wpAnyLast P md ops Q S ds (fuel + 1) l a w := pure_ l' hi hN (any_of hT.out hc) hQ (Or.inr ⟨hw, rfl⟩) ha h
theorem qt {B : List Nat} (i : Nat) (N : Option Tmp) (l' : Array Bool) (hT : Aside0 (rtab md ops = T)) (hB : Aside0 (waitsOk T.2 B = true)) (hS : S w) (h : wpAnyLast P md ops Q S ds fuel l' a' w) (hi : ops[i]? = some oi := by exact rfl) (hN : oi.dst = N := by exact rfl) (hc : takeW T B ds l.toList l'.toList i = true := by kernel_rfl) (hw : Region.wanted oi (yielded ops a.tmps) = true := by rfl) (hv : ∀ w, S w → (execOp a.eval oi).run P w = .ok (.value v) w := by intro w' hs_; (repeat (have s_ := hs_.1; replace hs_ := hs_.2)); go_simp; with_reducible rfl) (ha : a.put N v = a' := by simp only [Act.put, qa, qb, qc, i64_w, i32_w]; rfl) (hQ : ∀ c a w, Q (.panic c) (a.put oi.dst v) w → Q (.panic c) a w := by exact fun _ _ _ h => h) : wpAnyLast P md ops Q S ds (fuel + 1) l a w := take_ l' hi hN (take_ofW hT.out hB.out hc) hQ (Or.inl ⟨hw, hv⟩) hS ha h
theorem qr (N : Option Tmp) (h : wpAnyLast P md ops Q S ds fuel l a' w) (ha : a.put N v = a' := by simp only [Act.put, qa, qb, qc, i64_w, i32_w]; rfl) : wpAnyLast P md ops Q S ds fuel l (a.put N v) w := norm_ ha h
theorem qs (i : Nat) (N : Option Tmp) (l' : Array Bool) (hT : Aside0 (rtab md ops = T)) (hi : ops[i]? = some oi) (hN : oi.dst = N) (h : ∀ K : Act → World → Prop, Shut (∀ a' w', S w' → (S w' → wpAnyLast P md ops Q S ds fuel l' a' w') → K a' w') → if Region.wanted oi (yielded ops a.tmps) = true then Oper.wp P oi a w K Q else K (a.put N undef) w) (hc : (readyT T.2 l.toList == [i] && l.toList.set i true == l'.toList) = true := by kernel_rfl) (hd : i ∉ ds := by decide) : wpAnyLast P md ops Q S ds (fuel + 1) l a w := one_ l' hi hN (one_of hT.out hc) hd h
theorem qu {n : Nat} (hT : Aside0 (rtab md ops = T)) (h : Q .normal a w) (hr : (readyT T.2 l.toList == []) = true := by kernel_rfl) : wpAnyLast P md ops Q S ds n l a w := done_ (done_of hT.out hr) h
end
section
variable {α : Type} {d : Kd α} {e base g g' t : Nat} {ok : Nat → Prop} {w W : World} {v : Value} {xs : List α} {cs : Array Value} {o : Obj}
theorem rK (h : d.R e w base ok v xs) (hb : w.heap[g]? = some (.cells cs t (0, 0))) (hk : KeepBut w W g none := by repeat (first | (with_reducible exact KeepBut.refl _ _ _) | apply KeepBut.set_ | apply keep_drewN | apply keep_drew | apply keep_alloc)) (ht : ∀ q, q ∈ e :: d.E → q ≠ t := by decide) : d.R e W base ok v xs := Kd.R_mono (Kd.R_keep (Kd.R_types h hb ht) hk (fun _ hk => hk.2)) (fun _ h => h.1)
theorem sK (h : Kd.S d e w base ok v xs) (hb : w.heap[g]? = some (.cells cs t (0, 0))) (hk : KeepBut w W g none := by repeat (first | (with_reducible exact KeepBut.refl _ _ _) | apply KeepBut.set_ | apply keep_drewN | apply keep_drew | apply keep_alloc)) (ht : ∀ q, q ∈ e :: d.E → q ≠ t := by decide) : Kd.S d e W base ok v xs := Kd.S_mono (Kd.S_keep (Kd.S_types h hb ht) hk (fun _ hk => hk.2)) (fun _ h => h.1)
theorem bK (h : w.heap[g']? = some o) (hne : g' ≠ g) (hk : KeepBut w W g none := by repeat (first | (with_reducible exact KeepBut.refl _ _ _) | apply KeepBut.set_ | apply keep_drewN | apply keep_drew | apply keep_alloc)) : W.heap[g']? = some o := KeepBut.blk hk h hne (by simp)
theorem bP {w0 : World} (h : w0.heap[g]? = some o) (hk : w0.heap[g]? = some o → w.heap[g]? = some o := by intro h_; (with_reducible repeat (first | refine blk_drewN ?_ _ | refine blk_drew ?_ | refine blk_alloc ?_ _)); exact h_) : w.heap[g]? = some o := hk h
theorem bB {w0 w1 : World} (h : w0.heap[g]? = some o) (hb : Below w.heap.size w w1) (hk : w0.heap[g]? = some o → w.heap[g]? = some o := by intro h_; (with_reducible repeat (first | refine blk_drewN ?_ _ | refine blk_drew ?_ | refine blk_alloc ?_ _)); exact h_) : w1.heap[g]? = some o := blk_below (hk h) hb
theorem bL {w0 : World} (h : w0.heap[g]? = some o) (hk : w0.heap[g]? = some o → w.heap[g]? = some o := by intro h_; (with_reducible repeat (first | refine blk_drewN ?_ _ | refine blk_drew ?_ | refine blk_alloc ?_ _)); exact h_) : g < w.heap.size := blk_lt (hk h)
theorem qx (h : Aside0 (w.heap[g]? = some (.cells cs t (0, 0)))) (i : Nat) (e : cs[i]? = some v := by exact rfl) : w.cell? ⟨g, i, none⟩ = some v := (blk_cell h.out i).trans e
theorem qw {W2 : World} {a : Addr} (h : Aside0 (Below w.heap.size w W)) (hx : w.cell? a = some v) (e : W2.cell? a = W.cell? a := by exact rfl) : W2.cell? a = some v := e.trans ((h.out.cell (World.block_lt_of_cell? w _ hx)).trans hx)
theorem p2 {a b a' b' : Value} (h : w.heap[g]? = some (.cells #[a, b] t (0, 0))) (hp : ((w.setCell ⟨g, 0, none⟩ a').setCell ⟨g, 1, none⟩ b').heap[g]? = some (.cells #[a', b'] t (0, 0)) → W.heap[g]? = some (.cells #[a', b'] t (0, 0)) := by intro h_; (with_reducible repeat (first | refine blk_drewN ?_ _ | refine blk_drew ?_ | refine blk_alloc ?_ _)); exact h_) : W.heap[g]? = some (.cells #[a', b'] t (0, 0)) := hp (blk_set (blk_set h 0 a') 1 b')
theorem p4 {a b c d a' b' c' d' : Value} (h : w.heap[g]? = some (.cells #[a, b, c, d] t (0, 0))) (hp : ((((w.setCell ⟨g, 0, none⟩ a').setCell ⟨g, 1, none⟩ b').setCell ⟨g, 2, none⟩ c').setCell ⟨g, 3, none⟩ d').heap[g]? = some (.cells #[a', b', c', d'] t (0, 0)) → W.heap[g]? = some (.cells #[a', b', c', d'] t (0, 0)) := by intro h_; (with_reducible repeat (first | refine blk_drewN ?_ _ | refine blk_drew ?_ | refine blk_alloc ?_ _)); exact h_) : W.heap[g]? = some (.cells #[a', b', c', d'] t (0, 0)) := hp (blk_set (blk_set (blk_set (blk_set h 0 a') 1 b') 2 c') 3 d')
theorem rK2 {W1 : World} {g2 t2 : Nat} {cs2 : Array Value} (h : d.R e w base ok v xs) (hb : w.heap[g]? = some (.cells cs t (0, 0))) (hb2 : w.heap[g2]? = some (.cells cs2 t2 (0, 0))) (hk2 : KeepBut W1 W g2 none := by (repeat (first | apply KeepBut.set_ | apply keep_drewN | apply keep_drew | apply keep_alloc)); (with_reducible exact KeepBut.refl _ _ _)) (hk : KeepBut w W1 g none := by repeat (first | (with_reducible exact KeepBut.refl _ _ _) | apply KeepBut.set_ | apply keep_drewN | apply keep_drew | apply keep_alloc)) (ht : ∀ q, q ∈ e :: d.E → q ≠ t := by decide) (ht2 : ∀ q, q ∈ e :: d.E → q ≠ t2 := by decide) : d.R e W base ok v xs := Kd.R_mono (Kd.R_keep (Kd.R_keep (Kd.R_types (Kd.R_types h hb ht) hb2 ht2) hk (fun _ hk => hk.1.2)) hk2 (fun _ hk => hk.2)) (fun _ h => h.1.1)
theorem sK2 {W1 : World} {g2 t2 : Nat} {cs2 : Array Value} (h : Kd.S d e w base ok v xs) (hb : w.heap[g]? = some (.cells cs t (0, 0))) (hb2 : w.heap[g2]? = some (.cells cs2 t2 (0, 0))) (hk2 : KeepBut W1 W g2 none := by (repeat (first | apply KeepBut.set_ | apply keep_drewN | apply keep_drew | apply keep_alloc)); (with_reducible exact KeepBut.refl _ _ _)) (hk : KeepBut w W1 g none := by repeat (first | (with_reducible exact KeepBut.refl _ _ _) | apply KeepBut.set_ | apply keep_drewN | apply keep_drew | apply keep_alloc)) (ht : ∀ q, q ∈ e :: d.E → q ≠ t := by decide) (ht2 : ∀ q, q ∈ e :: d.E → q ≠ t2 := by decide) : Kd.S d e W base ok v xs := Kd.S_mono (Kd.S_keep (Kd.S_keep (Kd.S_types (Kd.S_types h hb ht) hb2 ht2) hk (fun _ hk => hk.1.2)) hk2 (fun _ hk => hk.2)) (fun _ h => h.1.1)
theorem qn {α : Type} {c p : Prop} [Decidable c] {a : Option α} {r : α} (h : ¬c) (H : (if c then a else none) = some r) : p := by rw [if_neg h] at H; exact absurd H (by simp)
end
section
variable {P : Program} {ops : Array Oper} {rest : List Oper} {o : Oper} {a : Act} {w : World} {Q : Exit → Act → World → Prop}
theorem qB (N : Tmp) (cs : Array Value) (t : TypeId) (h : ∀ g, g = w.heap.size → ∀ w1, w1.heap[g]? = some (.cells cs t (0, 0)) → Below w.heap.size w w1 → wpList P ops Q rest (a.put o.dst (.pointer (some ⟨g, 0, none⟩))) w1) (hd : o.dst = some N := by exact rfl) (hgd : o.guard = none := by exact rfl) (hr : (execOp a.eval o).run P w = .ok (.value (.pointer (some ⟨w.heap.size, 0, none⟩))) (w.alloc (.cells cs t (0, 0))) := by first | (go_simp; done) | (go_simp; rfl)) : wpList P ops Q (o :: rest) a w := box_event hgd hd hr h
theorem qG {f : FuncId} {fn : Func} {xs_ : Array Operand} {ts : Array TypeId} (N : Option Tmp) (hf : P.funcs[f]? = some fn) (args : Array Value) (h : Calls P f args w fun e w' => ∃ v, e = .returned v ∧ wpList P ops Q rest (a.put N v) w') (hd : o.dst = N := by exact rfl) (hg : o.guard = none := by exact rfl) (hname : (fn.name == "runtime.NumGoroutine") = false := by kernel_rfl) (hb : fn.body.isSome = true := by exact rfl) (hop : o.op = .call { callee := .value (.func f), args := xs_, argTypes := ts } := by exact rfl) (hargs : xs_.map a.eval = args := by (try simp only [qd, qe, qf]); first | done | rfl | (simp only [qg, qh]; rfl)) : wpList P ops Q (o :: rest) a w := goesL_ N hd hg hf hname hb args hop hargs h
end
theorem qv {p : Prop} (h : p := by repeat' first | (with_reducible exact ih0 ..) | (with_reducible exact ih1 ..) | (with_reducible exact ih2 ..) | (with_reducible exact ih3 ..) | (with_reducible exact ih4 ..) | (with_reducible exact ih5 ..) | (with_reducible exact ih6 ..) | (with_reducible exact ih7 ..) | (with_reducible exact ih8 ..) | (with_reducible exact ih9 ..) | (with_reducible exact ih10 ..) | (with_reducible exact ih11 ..) | (with_reducible exact impl_BestMeta.mono ..) | (with_reducible exact impl_MetaOk.mono ..) | (with_reducible exact impl_MetaText.mono ..) | (with_reducible exact impl_ReadVar.mono ..) | (with_reducible exact impl_SumMore.mono ..) | (with_reducible exact impl_SumOf.mono ..) | (with_reducible exact impl_Unsealed.mono ..) | (with_reducible exact impl_freeOk.mono ..) | (with_reducible exact impl_reader_num.mono ..) | (with_reducible exact impl_seal.mono ..) | (with_reducible exact impl_varText.mono ..) | (with_reducible exact laws_sameInts.mono ..) | (with_reducible exact laws_sameMeta.mono ..) | (with_reducible exact slices_Contains_int_int.mono ..) | (with_reducible exact slices_Index_int_int.mono ..) | (with_reducible exact spec_BestMeta.mono ..) | (with_reducible exact spec_DiskOk.mono ..) | (with_reducible exact spec_DrawBestMeta.mono ..) | (with_reducible exact spec_DrawMeta.mono ..) | (with_reducible exact spec_MetaOk.mono ..) | (with_reducible exact spec_MetaText.mono ..) | (with_reducible exact spec_ReadVar.mono ..) | (with_reducible exact spec_Sealed.mono ..) | (with_reducible exact spec_SumMore.mono ..) | (with_reducible exact spec_SumOf.mono ..) | (with_reducible exact spec_Unsealed.mono ..) | (with_reducible exact spec_WritePage.mono ..) | (with_reducible exact spec_l01New.mono ..) | (with_reducible exact spec_l01Var.mono ..) | (with_reducible exact spec_l04Var.mono ..) | (with_reducible exact spec_l06Any.mono ..) | (with_reducible exact spec_l06Copy.mono ..) | (with_reducible exact spec_l06In.mono ..) | (with_reducible exact spec_l06Meta.mono ..) | (with_reducible exact LeO.refl _) | (with_reducible exact LeO.none _) | (with_reducible refine LeO.ite ?_ ?_) | (with_reducible refine LeO.bind ?_ (fun _ => ?_)) | exact ih0 .. | exact ih1 .. | exact ih2 .. | exact ih3 .. | exact ih4 .. | exact ih5 .. | exact ih6 .. | exact ih7 .. | exact ih8 .. | exact ih9 .. | exact ih10 .. | exact ih11 .. | exact impl_BestMeta.mono .. | exact impl_MetaOk.mono .. | exact impl_MetaText.mono .. | exact impl_ReadVar.mono .. | exact impl_SumMore.mono .. | exact impl_SumOf.mono .. | exact impl_Unsealed.mono .. | exact impl_freeOk.mono .. | exact impl_reader_num.mono .. | exact impl_seal.mono .. | exact impl_varText.mono .. | exact laws_sameInts.mono .. | exact laws_sameMeta.mono .. | exact slices_Contains_int_int.mono .. | exact slices_Index_int_int.mono .. | exact spec_BestMeta.mono .. | exact spec_DiskOk.mono .. | exact spec_DrawBestMeta.mono .. | exact spec_DrawMeta.mono .. | exact spec_MetaOk.mono .. | exact spec_MetaText.mono .. | exact spec_ReadVar.mono .. | exact spec_Sealed.mono .. | exact spec_SumMore.mono .. | exact spec_SumOf.mono .. | exact spec_Unsealed.mono .. | exact spec_WritePage.mono .. | exact spec_l01New.mono .. | exact spec_l01Var.mono .. | exact spec_l04Var.mono .. | exact spec_l06Any.mono .. | exact spec_l06Copy.mono .. | exact spec_l06In.mono .. | exact spec_l06Meta.mono .. | exact LeO.none _ | refine LeO.ite ?_ ?_ | refine LeO.bind ?_ (fun _ => ?_)) : p := h



def errW : Option Int → Value
  | none => .nilIface
  | some c => .iface 0 (.int .i64 c)
theorem errW_none : errW none = .nilIface := rfl
theorem errW_some (c : Int) : errW (some c) = .iface 0 (.int .i64 c) := rfl

theorem info3 : (Try.prog.info? 3).map (fun i => (i.zero, i.size, i.bytes)) = some (some (.int .i64 0), 1, 8) := by kernel_rfl
theorem info5 : (Try.prog.info? 5).map (fun i => (i.zero, i.size, i.bytes)) = some (some (.int .u8 0), 1, 1) := by kernel_rfl
theorem info9 : (Try.prog.info? 9).map (fun i => (i.zero, i.size, i.bytes)) = some (some (.string ⟨#[]⟩), 1, 16) := by kernel_rfl
theorem info60 : (Try.prog.info? 60).map (fun i => (i.zero, i.size, i.bytes)) = some (some (.agg #[(.int .i64 0), (.slice none 0 0)]), 2, 32) := by kernel_rfl
theorem info83 : (Try.prog.info? 83).map (fun i => (i.zero, i.size, i.bytes)) = some (some (.agg #[(.int .i64 0), (.string ⟨#[]⟩)]), 2, 24) := by kernel_rfl
-- the values' own types
def rd_L1 (xs : List (List Int)) (i : Int) : (List Int) := xs.getD i.toNat ([] : List Int)
theorem at_L1 {w : World} {A : Option Addr} {n : Nat} {xs : List (List Int)} (h : Kd.C (Kd.slice 3 (Kd.int .i64)) w A n xs) (i : Int) (h0 : 0 ≤ i) (h1 : i < n) : ∃ ad A0 c0, A = some ad ∧ w.cell? (ad.add i.toNat) = some (.slice A0 (rd_L1 xs i).length c0) ∧ (rd_L1 xs i).length ≤ c0 ∧ (Kd.int .i64).C w A0 (rd_L1 xs i).length (rd_L1 xs i) := by
  obtain ⟨ad, c, e, _, hK, hc0⟩ := Kd.C_get h ([] : List Int) i h0 h1
  have hc : ∀ j u, c[j]? = some u → w.cell? (ad.add (i.toNat * 1 + j)) = some u := hc0
  obtain ⟨A0, c0, rfl, l0, g0⟩ := hK
  exact ⟨ad, A0, c0, e, by have hq := hc 0 _ rfl; rwa [Nat.mul_one, Nat.add_zero] at hq, l0, g0⟩

/-! #### struct type 60 -/
structure S60 where
  f0 : Int
  f1 : (List Int)
def z60 : S60 := ⟨(0 : Int), ([] : List Int)⟩
def k60 : Kd S60 := Kd.iso (Kd.pair (Kd.int .i64) (Kd.slice 3 (Kd.int .i64))) (fun x : S60 => (x.f0, x.f1))
theorem k60_open {w : World} {x : S60} {cs : List Value} (h : k60.K w x cs) : ∃ A1 c1, cs = [.int .i64 x.f0, .slice A1 x.f1.length c1] ∧ x.f1.length ≤ c1 ∧ (Kd.int .i64).C w A1 x.f1.length x.f1 := by
  obtain ⟨_, _, rfl, rfl, ⟨A1, c1, rfl, l1, g1⟩⟩ := h
  exact ⟨A1, c1, rfl, l1, g1⟩
theorem k60_openM {w : World} {base : Nat} {ok : Nat → Prop} {x : S60} {cs : List Value} (h : k60.M w base ok x cs) : ∃ v1, cs = [.int .i64 x.f0, v1] ∧ (Kd.int .i64).R 3 w base ok v1 x.f1 := by
  obtain ⟨_, _, rfl, rfl, ⟨v1, rfl, g1⟩⟩ := h
  exact ⟨v1, rfl, g1⟩
theorem k60_mk (w : World) (x : S60) {A1 : Option Addr} {c1 : Nat} (l1 : x.f1.length ≤ c1) (g1 : (Kd.int .i64).C w A1 x.f1.length x.f1) : k60.K w x [.int .i64 x.f0, .slice A1 x.f1.length c1] := ⟨[.int .i64 x.f0], [.slice A1 x.f1.length c1], rfl, rfl, ⟨A1, c1, rfl, l1, g1⟩⟩
theorem k60_mkM (w : World) (base : Nat) (ok : Nat → Prop) (x : S60) {v1 : Value} (g1 : (Kd.int .i64).R 3 w base ok v1 x.f1) : k60.M w base ok x [.int .i64 x.f0, v1] := ⟨[.int .i64 x.f0], [v1], rfl, rfl, ⟨v1, rfl, g1⟩⟩
def rd_T60 (xs : List S60) (i : Int) : S60 := xs.getD i.toNat z60
theorem at_T60 {w : World} {A : Option Addr} {n : Nat} {xs : List S60} (h : Kd.C k60 w A n xs) (i : Int) (h0 : 0 ≤ i) (h1 : i < n) : ∃ ad A1 c1, A = some ad ∧ w.cell? (ad.add (i.toNat * 2)) = some (.int .i64 (rd_T60 xs i).f0) ∧ w.cell? ⟨(ad.add (i.toNat * 2)).block, (ad.add (i.toNat * 2)).off + 1, none⟩ = some (.slice A1 (rd_T60 xs i).f1.length c1) ∧ (rd_T60 xs i).f1.length ≤ c1 ∧ (Kd.int .i64).C w A1 (rd_T60 xs i).f1.length (rd_T60 xs i).f1 := by
  obtain ⟨ad, c, e, _, hK, hc0⟩ := Kd.C_get h z60 i h0 h1
  have hc : ∀ j u, c[j]? = some u → w.cell? (ad.add (i.toNat * 2 + j)) = some u := hc0
  obtain ⟨A1, c1, rfl, l1, g1⟩ := k60_open hK
  exact ⟨ad, A1, c1, e, hc 0 _ rfl, by rw [← add_field _ _ 1 (by omega)]; exact hc 1 _ rfl, l1, g1⟩

/-! #### struct type 83 -/
structure S83 where
  f0 : Int
  f1 : ByteArray
def z83 : S83 := ⟨(0 : Int), (⟨#[]⟩ : ByteArray)⟩
def k83 : Kd S83 := Kd.iso (Kd.pair (Kd.int .i64) Kd.string) (fun x : S83 => (x.f0, x.f1))
theorem k83_open {w : World} {x : S83} {cs : List Value} (h : k83.K w x cs) : cs = [.int .i64 x.f0, .string x.f1] := by
  obtain ⟨_, _, rfl, rfl, rfl⟩ := h
  exact rfl
theorem k83_openM {w : World} {base : Nat} {ok : Nat → Prop} {x : S83} {cs : List Value} (h : k83.M w base ok x cs) : cs = [.int .i64 x.f0, .string x.f1] := by
  obtain ⟨_, _, rfl, rfl, rfl⟩ := h
  exact rfl
theorem k83_mk (w : World) (x : S83)  : k83.K w x [.int .i64 x.f0, .string x.f1] := ⟨[.int .i64 x.f0], [.string x.f1], rfl, rfl, rfl⟩
theorem k83_mkM (w : World) (base : Nat) (ok : Nat → Prop) (x : S83)  : k83.M w base ok x [.int .i64 x.f0, .string x.f1] := ⟨[.int .i64 x.f0], [.string x.f1], rfl, rfl, rfl⟩
def rd_T83 (xs : List S83) (i : Int) : S83 := xs.getD i.toNat z83
theorem at_T83 {w : World} {A : Option Addr} {n : Nat} {xs : List S83} (h : Kd.C k83 w A n xs) (i : Int) (h0 : 0 ≤ i) (h1 : i < n) : ∃ ad , A = some ad ∧ w.cell? (ad.add (i.toNat * 2)) = some (.int .i64 (rd_T83 xs i).f0) ∧ w.cell? ⟨(ad.add (i.toNat * 2)).block, (ad.add (i.toNat * 2)).off + 1, none⟩ = some (.string (rd_T83 xs i).f1) := by
  obtain ⟨ad, c, e, _, hK, hc0⟩ := Kd.C_get h z83 i h0 h1
  have hc : ∀ j u, c[j]? = some u → w.cell? (ad.add (i.toNat * 2 + j)) = some u := hc0
  obtain rfl := k83_open hK
  exact ⟨ad, e, hc 0 _ rfl, by rw [← add_field _ _ 1 (by omega)]; exact hc 1 _ rfl⟩

end Go.Proofs.Yteokilffbcbllaa.VFnBest
