-- Written by a program of this repo (wip/myprint.py), over the kit's print; functions that the print does not take stand in it by hand-proved contracts.
import Derived.Test.YteokilffbcbllaaProg
import Derived.Below
import Derived.Deep.Draws
import Derived.Deep.AppendLies
import Derived.Maps.AppendAt
import Derived.OwnWalk
import Derived.Laws.BytesArg
import Derived.Laws.MakeOwn
import Derived.Laws.OwnMore
import Derived.Deep.OwnRows
import Derived.Tactics
import Derived.Lib.ConvBytes
import Derived.Laws.Slices
import Derived.WalkKit
import Derived.KernelRfl
import Derived.RowKit3
import Derived.Deep.LoopGhost
import Derived.Deep.QuietTactic
import Derived.BigQuiet
import Derived.WideLaws
import Derived.Deep.DeepCutAuto
import Derived.Deep.CutBlock
import Derived.Deep.RegionHeld3
import Derived.Laws.Rows
import Derived.Lib.AppendStr
import Derived.ArgAppend
import Derived.Laws.IdiomCopy
import Derived.OrdersHeld
import Derived.Laws.BitsLemmas
import Derived.RowKit
import Derived.Test.YteokilffbcbllaaZFnExactBestMetaG
import Derived.Test.YteokilffbcbllaaZFnExactBestMetaWWords
import Derived.Test.YteokilffbcbllaaZFnExactBestMetaWLast
import Derived.Test.YteokilffbcbllaaZFnExactBestMetaWTab
import Derived.Test.YteokilffbcbllaaZFnExactBestMetaWFour
import Derived.Test.YteokilffbcbllaaZFnExactBestMetaWQPut
import Derived.Test.YteokilffbcbllaaZFnExactBestMetaWApart
import Derived.Test.YteokilffbcbllaaZFnExactBestMetaWArr
import Derived.Test.YteokilffbcbllaaZFnExactBestMetaWZeros
import Derived.Test.YteokilffbcbllaaZFnExactBestMetaWFoot
import Derived.Test.YteokilffbcbllaaZFnExactBestMetaWKept
import Derived.Test.YteokilffbcbllaaZFnExactBestMetaWShare
import Derived.Test.YteokilffbcbllaaZFnExactBestMetaWN
import Derived.Test.YteokilffbcbllaaZFnExactBestMetaWFootNe
import Derived.Test.YteokilffbcbllaaZFnExactBestMetaWAt
import Derived.Test.YteokilffbcbllaaZFnExactBestMetaWEqStruct
import Derived.Test.YteokilffbcbllaaZFnExactBestMetaWRepsOne
import Derived.Test.YteokilffbcbllaaZFnExactBestMetaWInv
import Derived.Test.YteokilffbcbllaaZFnExactBestMetaWInvWords
import Derived.Test.YteokilffbcbllaaZFnExactBestMetaWGuard
import Derived.Test.YteokilffbcbllaaZFnExactBestMetaWNEv
import Derived.Test.YteokilffbcbllaaZFnExactBestMetaWMore
namespace Go.Proofs.Yteokilffbcbllaa.VFnExactBestMeta
open Go.RowKit Go.Proofs.YteokilffbcbllaaW.PrintWords Go.Proofs.YteokilffbcbllaaW.PrintLast Go.Proofs.YteokilffbcbllaaW.PrintMore
attribute [local go_sem] max2_int min2_int max_two min_two max_three min_three max_four min_four   -- for this text's walks alone
attribute [local go_sem high] str_leq str_gtr str_geq str_lss
set_option linter.unusedVariables false
set_option linter.unusedSimpArgs false
theorem za {p : Prop} (h : p := by repeat (first | (with_reducible first | exact HB.out | apply ql | apply qm | apply qn) | exact HB.out)) : p := h
theorem zb {p : Prop} (h : p := by first | (with_reducible assumption) | assumption) : p := h
theorem zc {p : Prop} (h : p := by first | rfl | (simp; done) | (simp [*]; done)) : p := h
theorem zd {p : Prop} (h : p := by first | rfl | (simp [errW_none, errW_some] <;> rfl) | (simp [*, errW_none, errW_some] <;> rfl)) : p := h
theorem ze {p : Prop} (h : p := by kernel_rfl) : p := h
theorem zf {p : Prop} (h : p := by repeat (first | (with_reducible first | exact Bw.out | apply qm | apply qn) | exact Bw.out)) : p := h
theorem zg {p : Prop} (h : p := by repeat (first | (with_reducible first | exact HI168.out | apply IsS56.alloc | apply IsS56.drewN | apply IsS56.drew | apply IsS56.set_0 | apply IsS56.set_1 | apply IsS56.set_2 | apply IsS56.far (hne := NB168_165.out) | apply IsS56.far (hne := NB168_173.out) | apply IsS56.far (hne := NB168_192.out)) | apply IsS56.far (hne := NB168_165.out) | apply IsS56.far (hne := NB168_173.out) | apply IsS56.far (hne := NB168_192.out) | exact HI168.out)) : p := h
theorem zh {p : Prop} (h : p := by (with_reducible repeat (first | refine qi ?_ _ | refine qj ?_ | refine qk ?_ _)); refine blk_put (cs := #[.int .i64 0, .int .i64 0, .int .i64 0, .slice none 0 0]) ?_ 3 _ rfl; (with_reducible repeat (first | refine qi ?_ _ | refine qj ?_ | refine qk ?_ _)); refine blk_put (cs := #[.int .i64 0, .int .i64 0, .int .i64 0, .slice none 0 0]) ?_ 2 _ rfl; (with_reducible repeat (first | refine qi ?_ _ | refine qj ?_ | refine qk ?_ _)); refine blk_put (cs := #[.int .i64 0, .int .i64 0, .int .i64 0, .slice none 0 0]) ?_ 1 _ rfl; (with_reducible repeat (first | refine qi ?_ _ | refine qj ?_ | refine qk ?_ _)); refine blk_put (cs := #[.int .i64 0, .int .i64 0, .int .i64 0, .slice none 0 0]) ?_ 0 _ rfl; (with_reducible repeat (first | refine qi ?_ _ | refine qj ?_ | refine qk ?_ _)); exact BK299.out) : p := h
theorem zi {p : Prop} (h : p := by repeat (first | (with_reducible first | exact HB.out | apply ql | apply qm | apply qn | refine qt ?_ (IsS56.ge HI168.out) | refine qt ?_ GE165.out | refine qt ?_ GE173.out) | exact HB.out)) : p := h
theorem zj {p : Prop} (h : p := by repeat (first | (with_reducible first | exact HB.out | apply ql | apply qm | apply qn | refine qt ?_ (IsS56.ge HI168.out) | refine qt ?_ GE165.out | refine qt ?_ GE173.out | refine qt ?_ GE192.out) | exact HB.out)) : p := h
theorem zk {p : Prop} (h : p := by repeat (first | (with_reducible first | exact HB.out | apply ql | apply qm | apply qn | refine qt ?_ (IsS63.ge HI302.out) | refine qt ?_ GE299.out | refine qt ?_ GE307.out) | exact HB.out)) : p := h
theorem zl {p : Prop} (h : p := by repeat (first | (with_reducible first | exact HB.out | apply ql | apply qm | apply qn | refine qt ?_ GE142.out) | exact HB.out)) : p := h
theorem zm {p : Prop} (h : p := by repeat (first | exact Drawn0.refl _ | apply Drawn0.step)) : p := h
theorem zn {p : Prop} (h : p := by repeat (first | (with_reducible first | exact HI168.out | apply IsS56.alloc | apply IsS56.drewN | apply IsS56.drew | apply IsS56.set_0 | apply IsS56.set_1 | apply IsS56.set_2 | apply IsS56.far (hne := NB168_165.out) | apply IsS56.far (hne := NB168_173.out)) | apply IsS56.far (hne := NB168_165.out) | apply IsS56.far (hne := NB168_173.out) | exact HI168.out)) : p := h
theorem zo {p : Prop} (h : p := by repeat (first | (with_reducible first | exact HB.out | apply ql | apply qm | apply qn | refine qt ?_ GE261.out | refine qt ?_ GE269.out) | exact HB.out)) : p := h
theorem zp {p : Prop} (h : p := by repeat (first | (with_reducible first | exact Bw4.out | apply qm | apply qn) | exact Bw4.out)) : p := h
theorem zq {p : Prop} (h : p := by (with_reducible repeat (first | refine qi ?_ _ | refine qj ?_ | refine qk ?_ _)); exact BK165.out) : p := h
theorem zr {p : Prop} (h : p := by repeat (first | (with_reducible first | exact HB.out | apply ql | apply qm | apply qn | refine qt ?_ GE127.out | refine qt ?_ GE135.out) | exact HB.out)) : p := h
theorem zs {p : Prop} (h : p := by (with_reducible repeat (first | apply Kd.R_alloc | apply Kd.R_drewN | apply Kd.R_drew)); exact HO_3.out) : p := h
theorem zt {p : Prop} (h : p := by repeat (first | (with_reducible first | exact Bw1.out | apply qm | apply qn) | exact Bw1.out)) : p := h
theorem zu {p : Prop} (h : p := by (with_reducible repeat (first | refine qi ?_ _ | refine qj ?_ | refine qk ?_ _)); refine blk_put (cs := #[.int .i64 0, .int .i64 0, .int .i64 0, .slice none 0 0]) ?_ 3 _ rfl; (with_reducible repeat (first | refine qi ?_ _ | refine qj ?_ | refine qk ?_ _)); refine blk_put (cs := #[.int .i64 0, .int .i64 0, .int .i64 0, .slice none 0 0]) ?_ 2 _ rfl; (with_reducible repeat (first | refine qi ?_ _ | refine qj ?_ | refine qk ?_ _)); refine blk_put (cs := #[.int .i64 0, .int .i64 0, .int .i64 0, .slice none 0 0]) ?_ 1 _ rfl; (with_reducible repeat (first | refine qi ?_ _ | refine qj ?_ | refine qk ?_ _)); refine blk_put (cs := #[.int .i64 0, .int .i64 0, .int .i64 0, .slice none 0 0]) ?_ 0 _ rfl; (with_reducible repeat (first | refine qi ?_ _ | refine qj ?_ | refine qk ?_ _)); exact BK165.out) : p := h
theorem zv {p : Prop} (h : p := by (with_reducible repeat (first | refine qi ?_ _ | refine qj ?_ | refine qk ?_ _)); exact BK299.out) : p := h
theorem zw {p : Prop} (h : p := by repeat (first | (with_reducible first | exact HI302.out | apply IsS63.alloc | apply IsS63.drewN | apply IsS63.drew | apply IsS63.set_0 | apply IsS63.set_1 | apply IsS63.set_2 | apply IsS63.far (hne := NB302_299.out) | apply IsS63.far (hne := NB302_307.out)) | apply IsS63.far (hne := NB302_299.out) | apply IsS63.far (hne := NB302_307.out) | exact HI302.out)) : p := h
theorem zx {p : Prop} (h : p := by repeat (first | (with_reducible first | exact HB.out | apply ql | apply qm | apply qn | refine qt ?_ GE286.out) | exact HB.out)) : p := h
theorem zy {p : Prop} (h : p := by (with_reducible repeat (first | refine qi ?_ _ | refine qj ?_ | refine qk ?_ _)); exact BK261.out) : p := h
theorem zz {p : Prop} (h : p := by repeat (first | (with_reducible first | exact HI302.out | apply IsS63.alloc | apply IsS63.drewN | apply IsS63.drew | apply IsS63.set_0 | apply IsS63.set_1 | apply IsS63.set_2 | apply IsS63.far (hne := NB302_299.out) | apply IsS63.far (hne := NB302_307.out) | apply IsS63.far (hne := NB302_326.out)) | apply IsS63.far (hne := NB302_299.out) | apply IsS63.far (hne := NB302_307.out) | apply IsS63.far (hne := NB302_326.out) | exact HI302.out)) : p := h
theorem z0 {p : Prop} (h : p := by repeat (first | (with_reducible first | exact HB.out | apply ql | apply qm | apply qn | refine qt ?_ GE261.out) | exact HB.out)) : p := h
theorem z1 {p : Prop} (h : p := by repeat (first | (with_reducible first | exact HB.out | apply ql | apply qm | apply qn | refine qt ?_ GE127.out) | exact HB.out)) : p := h
theorem z2 {p : Prop} (h : p := by (with_reducible repeat (first | refine qi ?_ _ | refine qj ?_ | refine qk ?_ _)); exact BK286.out) : p := h
theorem z3 {p : Prop} (h : p := by (with_reducible repeat (first | refine qi ?_ _ | refine qj ?_ | refine qk ?_ _)); exact BK127.out) : p := h
theorem z4 {p : Prop} (h : p := by (with_reducible repeat (first | refine qi ?_ _ | refine qj ?_ | refine qk ?_ _)); exact BK173.out) : p := h
theorem z5 {p : Prop} (h : p := by repeat (first | (with_reducible first | exact HK.out | apply Kept.alloc | apply Kept.drewN | apply Kept.drew) | exact HK.out)) : p := h
theorem z6 {p : Prop} (h : p := by (with_reducible repeat (first | refine qi ?_ _ | refine qj ?_ | refine qk ?_ _)); refine blk_put (cs := #[.int .i64 ((rd_T60 l0_3 x4_2).f0), .slice none 0 0]) ?_ 1 _ rfl; (with_reducible repeat (first | refine qi ?_ _ | refine qj ?_ | refine qk ?_ _)); refine blk_put (cs := #[.int .i64 0, .slice none 0 0]) ?_ 0 _ rfl; (with_reducible repeat (first | refine qi ?_ _ | refine qj ?_ | refine qk ?_ _)); exact BK135.out) : p := h
theorem z7 {p : Prop} (h : p := by repeat (first | (with_reducible first | exact HB.out | apply ql | apply qm | apply qn | refine qt ?_ (IsS63.ge HI302.out) | refine qt ?_ GE299.out | refine qt ?_ GE307.out | refine qt ?_ GE326.out) | exact HB.out)) : p := h
theorem z8 {p : Prop} (h : p := by (with_reducible repeat (first | refine qi ?_ _ | refine qj ?_ | refine qk ?_ _)); exact BK142.out) : p := h
theorem z9 {p : Prop} (h : p := by repeat (first | (with_reducible first | exact HB.out | apply ql | apply qm | apply qn | refine qt ?_ GE253.out | refine qt ?_ GE254.out) | exact HB.out)) : p := h
theorem zaa {p : Prop} (h : p := by repeat (first | (with_reducible first | exact BW3.out | apply qm | apply qn) | exact BW3.out)) : p := h
theorem zab {p : Prop} (h : p := by (with_reducible repeat (first | refine qi ?_ _ | refine qj ?_ | refine qk ?_ _)); exact BK307.out) : p := h
theorem zac {p : Prop} (h : p := by repeat (first | (with_reducible first | exact Bw2.out | apply qm | apply qn) | exact Bw2.out)) : p := h
theorem zad {p : Prop} (h : p := by (with_reducible repeat (first | refine qi ?_ _ | refine qj ?_ | refine qk ?_ _)); refine blk_far ?_ NB127_135.out _; (with_reducible repeat (first | refine qi ?_ _ | refine qj ?_ | refine qk ?_ _)); refine blk_far ?_ NB127_135.out _; (with_reducible repeat (first | refine qi ?_ _ | refine qj ?_ | refine qk ?_ _)); exact BK127.out) : p := h
theorem zae {p : Prop} (h : p := by rfl) : p := h
theorem zaf {p : Prop} (h : p := by repeat (first | (with_reducible first | exact HK.out | apply KeepBut.set_ | apply keep_drewN | apply keep_drew | apply keep_alloc) | exact HK.out)) : p := h
theorem zag {p : Prop} (h : p := by first | (rw [add_block]; exact hn137_0) | (show (Addr.add _ _).block ≠ _; rw [add_block]; exact hn137_0) | exact hn137_0) : p := h
theorem zah {p : Prop} (h : p := by first | (rw [add_block]; exact hn137_1) | (show (Addr.add _ _).block ≠ _; rw [add_block]; exact hn137_1) | exact hn137_1) : p := h
theorem zai {p : Prop} (h : p := by (with_reducible repeat (first | refine qi ?_ _ | refine qj ?_ | refine qk ?_ _)); refine blk_put (cs := #[.int .i64 ((rd_T60 l0_3 x44_2).f0), .slice none 0 0]) ?_ 1 _ rfl; (with_reducible repeat (first | refine qi ?_ _ | refine qj ?_ | refine qk ?_ _)); refine blk_put (cs := #[.int .i64 0, .slice none 0 0]) ?_ 0 _ rfl; (with_reducible repeat (first | refine qi ?_ _ | refine qj ?_ | refine qk ?_ _)); exact BK269.out) : p := h
theorem zaj {p : Prop} (h : p := by repeat (first | (with_reducible first | exact HB.out | apply ql | apply qm | apply qn | refine qt ?_ GE286.out | refine qt ?_ GE293.out) | exact HB.out)) : p := h
theorem zak {p : Prop} (h : p := by repeat (first | (with_reducible first | exact HB.out | apply ql | apply qm | apply qn | refine qt ?_ GE233.out | refine qt ?_ GE234.out | refine qt ?_ GE235.out) | exact HB.out)) : p := h
theorem zal {p : Prop} (h : p := by (with_reducible repeat (first | refine qi ?_ _ | refine qj ?_ | refine qk ?_ _)); refine blk_far ?_ NB165_173.out _; (with_reducible repeat (first | refine qi ?_ _ | refine qj ?_ | refine qk ?_ _)); exact BK165.out) : p := h
theorem zam {p : Prop} (h : p := by first | exact Kd.S_nil _ _ _ _ _ | exact Kd.N_nil _ _ _ _ _ | exact Kd.V_nil _ _ _ _ _ | exact Kd.Q_nil _ _ _ _ _ | exact Kd.R_nil _ _ _ _ _) : p := h
theorem zan {p : Prop} (h : p := by (with_reducible repeat (first | refine qi ?_ _ | refine qj ?_ | refine qk ?_ _)); refine blk_far ?_ NB261_269.out _; (with_reducible repeat (first | refine qi ?_ _ | refine qj ?_ | refine qk ?_ _)); refine blk_far ?_ NB261_269.out _; (with_reducible repeat (first | refine qi ?_ _ | refine qj ?_ | refine qk ?_ _)); exact BK261.out) : p := h
theorem zao {p : Prop} (h : p := by (try simp only [qd, qe, qf]); first | done | rfl) : p := h
theorem zap {p : Prop} (h : p := by repeat (first | (with_reducible first | exact HB.out | apply ql | apply qm | apply qn | refine qt ?_ GE343.out) | exact HB.out)) : p := h
theorem zaq {p : Prop} (h : p := by repeat (first | (with_reducible first | exact HB.out | apply ql | apply qm | apply qn | refine qt ?_ GE123.out) | exact HB.out)) : p := h
theorem zar {p : Prop} (h : p := by repeat (first | (with_reducible first | exact HI0.out | apply IsS56.alloc | apply IsS56.drewN | apply IsS56.drew | apply IsS56.set_0 | apply IsS56.set_1 | apply IsS56.set_2) | exact HI0.out)) : p := h
theorem zas {p : Prop} (h : p := by (with_reducible repeat (first | apply Kd.S_alloc | apply Kd.S_drewN | apply Kd.S_drew)); exact HO_174003.out) : p := h
theorem zat {p : Prop} (h : p := by have := World.block_lt_of_cell? _ _ hx137_0; first | rwa [add_block] at this | exact this) : p := h
theorem zau {p : Prop} (h : p := by (with_reducible repeat (first | refine qi ?_ _ | refine qj ?_ | refine qk ?_ _)); exact BK253.out) : p := h
theorem zav {p : Prop} (h : p := by (with_reducible repeat (first | refine qi ?_ _ | refine qj ?_ | refine qk ?_ _)); exact BK269.out) : p := h
theorem zaw {p : Prop} (h : p := by (with_reducible repeat (first | refine qi ?_ _ | refine qj ?_ | refine qk ?_ _)); exact BK192.out) : p := h
theorem zax {p : Prop} (h : p := by repeat (first | (with_reducible first | exact HB.out | apply ql | apply qm | apply qn | refine qt ?_ (IsS56.ge HI0.out)) | exact HB.out)) : p := h
theorem zay {p : Prop} (h : p := by (with_reducible repeat (first | apply Kd.R_alloc | apply Kd.R_drewN | apply Kd.R_drew)); exact HO_0.out) : p := h
theorem zaz {p : Prop} (h : p := by (with_reducible repeat (first | refine qi ?_ _ | refine qj ?_ | refine qk ?_ _)); refine blk_put (cs := #[.int .i64 t169, .int .i64 t174, .int .i64 t178, u174003]) ?_ 3 _ rfl; (with_reducible repeat (first | refine qi ?_ _ | refine qj ?_ | refine qk ?_ _)); exact BK173.out) : p := h
theorem za0 {p : Prop} (h : p := by repeat (first | (with_reducible exact Bw.out) | (with_reducible refine qt ?_ Gg2_w.out) | (with_reducible refine qt ?_ Ggb_w.out))) : p := h
theorem za1 {p : Prop} (h : p := by (with_reducible repeat (first | apply Kd.S_alloc | apply Kd.S_drewN | apply Kd.S_drew)); exact HO_308003.out) : p := h
theorem za2 {p : Prop} (h : p := by repeat (first | (with_reducible first | exact HB.out | apply ql | apply qm | apply qn | refine qt ?_ GE213.out) | exact HB.out)) : p := h
theorem za3 {p : Prop} (h : p := by repeat (first | (with_reducible first | exact HB.out | apply ql | apply qm | apply qn | refine qt ?_ GE299.out) | exact HB.out)) : p := h
theorem za4 {p : Prop} (h : p := by repeat (first | (with_reducible first | exact HB.out | apply ql | apply qm | apply qn | refine qt ?_ GE165.out) | exact HB.out)) : p := h
theorem za5 {p : Prop} (h : p := by (with_reducible repeat (first | refine qi ?_ _ | refine qj ?_ | refine qk ?_ _)); exact BK233.out) : p := h
theorem za6 {p : Prop} (h : p := by (with_reducible repeat (first | refine qi ?_ _ | refine qj ?_ | refine qk ?_ _)); exact BK135.out) : p := h
theorem za7 {p : Prop} (h : p := by decide) : p := h
theorem za8 {p : Prop} (h : p := by repeat (first | (with_reducible first | exact Bw6.out | apply qm | apply qn) | exact Bw6.out)) : p := h
theorem za9 {p : Prop} (h : p := by repeat (first | (with_reducible first | exact HB.out | apply ql | apply qm | apply qn | refine qt ?_ GE355.out | refine qt ?_ GE356.out) | exact HB.out)) : p := h
theorem zba {p : Prop} (h : p := by (with_reducible repeat (first | refine qi ?_ _ | refine qj ?_ | refine qk ?_ _)); refine blk_far ?_ NB299_307.out _; (with_reducible repeat (first | refine qi ?_ _ | refine qj ?_ | refine qk ?_ _)); exact BK299.out) : p := h
theorem zbb {p : Prop} (h : p := by repeat (first | (with_reducible first | exact HI0.out | apply IsS63.alloc | apply IsS63.drewN | apply IsS63.drew | apply IsS63.set_0 | apply IsS63.set_1 | apply IsS63.set_2) | exact HI0.out)) : p := h
theorem zbc {p : Prop} (h : p := by (with_reducible repeat (first | refine qi ?_ _ | refine qj ?_ | refine qk ?_ _)); exact BK223.out) : p := h
theorem zbd {p : Prop} (h : p := by (with_reducible repeat (first | refine qi ?_ _ | refine qj ?_ | refine qk ?_ _)); exact BK254.out) : p := h
theorem zbe {p : Prop} (h : p := by repeat (first | (with_reducible first | exact Bw15.out | apply qm | apply qn) | exact Bw15.out)) : p := h
theorem zbf {p : Prop} (h : p := by repeat (first | (with_reducible first | exact HB.out | apply ql | apply qm | apply qn | refine qt ?_ (IsS63.ge HI0.out)) | exact HB.out)) : p := h
theorem zbg {p : Prop} (h : p := by (try simp only [List.map_toArray, List.map_cons, List.map_nil]); first | done | (simp only [hji4]; rfl) | rfl | (simp only [List.length_drop, List.length_take]; rfl)) : p := h
theorem zbh {p : Prop} (h : p := by simp) : p := h
theorem zbi {p : Prop} (h : p := by repeat (first | (with_reducible first | exact HB.out | apply ql | apply qm | apply qn | refine qt ?_ (IsS63.ge HI302.out) | refine qt ?_ GE299.out) | exact HB.out)) : p := h
theorem zbj {p : Prop} (h : p := by repeat (first | (with_reducible first | exact HB.out | apply ql | apply qm | apply qn | refine qt ?_ (IsS56.ge HI168.out) | refine qt ?_ GE165.out) | exact HB.out)) : p := h
theorem zbk {p : Prop} (h : p := by repeat (first | (with_reducible first | exact HB.out | apply ql | apply qm | apply qn | refine qt ?_ GE223.out | refine qt ?_ GE224.out) | exact HB.out)) : p := h
theorem zbl {p : Prop} (h : p := by repeat (first | (with_reducible first | exact HB.out | apply ql | apply qm | apply qn | refine qt ?_ GE233.out | refine qt ?_ GE234.out) | exact HB.out)) : p := h
theorem zbm {p : Prop} (h : p := by (with_reducible repeat (first | refine qi ?_ _ | refine qj ?_ | refine qk ?_ _)); exact BK293.out) : p := h
theorem zbn {p : Prop} (h : p := by (with_reducible repeat (first | refine qi ?_ _ | refine qj ?_ | refine qk ?_ _)); exact BK326.out) : p := h
theorem zbo {p : Prop} (h : p := by repeat (first | (with_reducible exact Kept.refl _ _) | refine Kept.setCell ?_ (.inl (.inl rfl)) _ | refine Kept.setCell ?_ (.inl (.inr rfl)) _)) : p := h
theorem zbp {p : Prop} (h : p := by have := HK1.out; first | omega | exact Nat.le_refl _) : p := h
theorem zbq {p : Prop} (h : p := by repeat (first | (with_reducible first | exact BW5.out | apply qm | apply qn) | exact BW5.out)) : p := h
theorem zbr {p : Prop} (h : p := by repeat (first | (with_reducible first | exact Bw8.out | apply qm | apply qn) | exact Bw8.out)) : p := h
theorem zbs {p : Prop} (h : p := by first | rfl | (simp; done) | (simp only [← hji8, ← hji12, ← hji14] <;> (first | rfl | simp)) | (simp [*]; done)) : p := h
theorem zbt {p : Prop} (h : p := by first | (rintro ⟨h_, _⟩; cases h_; done) | exact fun h_ => h_.2.elim (fun h_ => by cases h_) (fun h_ => by have := HGE.out; omega)) : p := h
theorem zbu {p : Prop} (h : p := by repeat (first | (with_reducible first | exact HK.out | apply Kept.alloc | apply Kept.drewN | apply Kept.drew | refine Kept.setCell ?_ (.inr GW367.out) _) | exact HK.out)) : p := h
theorem zbv {p : Prop} (h : p := by repeat (first | (with_reducible first | exact HB.out | apply ql | apply qm | apply qn | refine qt ?_ GE103.out) | exact HB.out)) : p := h
theorem zbw {p : Prop} (h : p := by repeat (first | (with_reducible first | exact HB.out | apply ql | apply qm | apply qn | refine qt ?_ GE109.out) | exact HB.out)) : p := h
theorem zbx {p : Prop} (h : p := by repeat (first | (with_reducible first | exact HB.out | apply ql | apply qm | apply qn | refine qt ?_ GE223.out) | exact HB.out)) : p := h
theorem zby {p : Prop} (h : p := by repeat (first | (with_reducible first | exact HB.out | apply ql | apply qm | apply qn | refine qt ?_ GE233.out) | exact HB.out)) : p := h
theorem zbz {p : Prop} (h : p := by repeat (first | (with_reducible first | exact HB.out | apply ql | apply qm | apply qn | refine qt ?_ GE253.out) | exact HB.out)) : p := h
theorem zb0 {p : Prop} (h : p := by repeat (first | (with_reducible first | exact HB.out | apply ql | apply qm | apply qn | refine qt ?_ GE350.out) | exact HB.out)) : p := h
theorem zb1 {p : Prop} (h : p := by repeat (first | (with_reducible first | exact HB.out | apply ql | apply qm | apply qn | refine qt ?_ GE355.out) | exact HB.out)) : p := h
theorem zb2 {p : Prop} (h : p := by have := HJ1.out; have := HK2.out; first | omega | exact Nat.le_refl _) : p := h
theorem zb3 {p : Prop} (h : p := by (with_reducible repeat (first | apply Kd.S_alloc | apply Kd.S_drewN | apply Kd.S_drew)); exact Kd.S_mono HO_174003.out (fun k_ hk => ⟨hk.2, fun e_ => hk.1 e_⟩)) : p := h
theorem zb4 {p : Prop} (h : p := by (with_reducible repeat (first | refine qi ?_ _ | refine qj ?_ | refine qk ?_ _)); exact BK109.out) : p := h
theorem zb5 {p : Prop} (h : p := by (with_reducible repeat (first | refine qi ?_ _ | refine qj ?_ | refine qk ?_ _)); exact BK234.out) : p := h
theorem zb6 {p : Prop} (h : p := by have := HK1.out; have := HK2.out; omega) : p := h
theorem zb7 {p : Prop} (h : p := by (with_reducible repeat (first | refine qi ?_ _ | refine qj ?_ | refine qk ?_ _)); exact BK343.out) : p := h
theorem zb8 {p : Prop} (h : p := by (with_reducible repeat (first | refine qi ?_ _ | refine qj ?_ | refine qk ?_ _)); exact BK355.out) : p := h
theorem zb9 {p : Prop} (h : p := by have := HK1.out; omega) : p := h
theorem zca {p : Prop} (h : p := by repeat (first | (with_reducible first | exact Bw7.out | apply qm | apply qn) | exact Bw7.out)) : p := h
theorem zcb {p : Prop} (h : p := by have := HJ1.out; have := HK2.out; have := HJ21.out; have := HK4.out; first | omega | exact Nat.le_refl _) : p := h
theorem zcc {p : Prop} (h : p := by (with_reducible repeat (first | refine qi ?_ _ | refine qj ?_ | refine qk ?_ _)); exact BK103.out) : p := h
theorem zcd {p : Prop} (h : p := by (with_reducible repeat (first | refine qi ?_ _ | refine qj ?_ | refine qk ?_ _)); exact BK224.out) : p := h
theorem zce {p : Prop} (h : p := by (with_reducible repeat (first | refine qi ?_ _ | refine qj ?_ | refine qk ?_ _)); exact BK350.out) : p := h
theorem zcf {p : Prop} (h : p := by first | omega | exact Nat.le_refl _) : p := h
theorem zcg {p : Prop} (h : p := by repeat (first | (with_reducible first | exact Bw18.out | apply qm | apply qn) | exact Bw18.out)) : p := h
theorem zch {p : Prop} (h : p := by repeat (first | (with_reducible first | exact BW6.out | apply qm | apply qn) | exact BW6.out)) : p := h
theorem zci {p : Prop} (h : p := by (with_reducible repeat (first | apply Kd.R_alloc | apply Kd.R_drewN | apply Kd.R_drew)); exact HO0.out) : p := h
theorem zcj {p : Prop} (h : p := by have := HK1.out; have := HJ19.out; have := HK3.out; omega) : p := h
theorem zck {p : Prop} (h : p := by omega) : p := h
theorem zcl {p : Prop} (h : p := by rw [hw]; exact qt (HB.out) GB5.out) : p := h
theorem zcm {p : Prop} (h : p := by (try simp only [qd, qe, qf]); first | done | rfl | (simp only [qg, qh]; rfl)) : p := h
theorem zcn {p : Prop} (h : p := by rw [hg]; exact (qp za)) : p := h
theorem zco {p : Prop} (h : p := by (with_reducible repeat (first | apply Kd.R_alloc | apply Kd.R_drewN | apply Kd.R_drew)); exact Kd.R_mono (Kd.R_far (p := ⟨gb135, 1, none⟩) (Kd.R_far (p := ⟨gb135, 0, none⟩) (Kd.R_types HO_3.out BK135.out za7) (fun _ hk => hk.2) (.int .i64 ((rd_T60 l0_3 x4_2).f0))) (fun _ hk => hk.2) (.slice A134_1 ((rd_T60 l0_3 x4_2).f1).length c134_1)) (fun _ hk => trivial)) : p := h
theorem zcp {p : Prop} (h : p := by (with_reducible repeat (first | apply Kd.R_alloc | apply Kd.R_drewN | apply Kd.R_drew)); exact Kd.R_mono (Kd.R_far (p := ⟨gb269, 1, none⟩) (Kd.R_far (p := ⟨gb269, 0, none⟩) (Kd.R_types HO_3.out BK269.out za7) (fun _ hk => hk.2) (.int .i64 ((rd_T60 l0_3 x44_2).f0))) (fun _ hk => hk.2) (.slice A268_1 ((rd_T60 l0_3 x44_2).f1).length c268_1)) (fun _ hk => trivial)) : p := h
theorem zcq {p : Prop} (h : p := by rw [hg]; exact (qp zf)) : p := h
theorem zcr {p : Prop} (h : p := by rw [hg]; exact Nat.ne_of_lt (blk_lt (g := gb299) (o := .cells #[.int .i64 0, .int .i64 0, .int .i64 0, .slice none 0 0] 24 (0, 0)) zv)) : p := h
theorem zcs {p : Prop} (h : p := by rw [hg]; exact Nat.ne_of_gt (blk_lt (g := gb299) (o := .cells #[.int .i64 0, .int .i64 0, .int .i64 0, .slice none 0 0] 24 (0, 0)) zv)) : p := h
theorem zct {p : Prop} (h : p := by rw [hg]; exact Nat.ne_of_lt (blk_lt (g := gb165) (o := .cells #[.int .i64 0, .int .i64 0, .int .i64 0, .slice none 0 0] 24 (0, 0)) zq)) : p := h
theorem zcu {p : Prop} (h : p := by rw [hg]; exact Nat.ne_of_gt (blk_lt (g := gb165) (o := .cells #[.int .i64 0, .int .i64 0, .int .i64 0, .slice none 0 0] 24 (0, 0)) zq)) : p := h
theorem zcv {p : Prop} (h : p := by rw [hW]; exact zf) : p := h
theorem zcw {p : Prop} (h : p := by rw [hg]; exact (qp zp)) : p := h
theorem zcx {p : Prop} (h : p := by rw [hW]; exact zt) : p := h
theorem zcy {p : Prop} (h : p := by rw [hW]; exact zp) : p := h
theorem zcz {p : Prop} (h : p := by rw [hg]; exact (qp zt)) : p := h
theorem zc0 {p : Prop} (h : p := by rw [hW]; exact zaa) : p := h
theorem zc1 {p : Prop} (h : p := by rw [hg]; exact (qp zac)) : p := h
theorem zc2 {p : Prop} (h : p := by rw [hW]; exact zac) : p := h



def errW : Option Int → Value
 | none => .nilIface
 | some c => .iface 0 (.int .i64 c)
theorem errW_none : errW none = .nilIface := rfl
theorem errW_some (c : Int) : errW (some c) = .iface 0 (.int .i64 c) := rfl

theorem info3 : (Try.prog.info? 3).map (fun i => (i.zero, i.size, i.bytes)) = some (some (.int .i64 0), 1, 8) := by kernel_rfl
theorem info5 : (Try.prog.info? 5).map (fun i => (i.zero, i.size, i.bytes)) = some (some (.int .u8 0), 1, 1) := by kernel_rfl
theorem info9 : (Try.prog.info? 9).map (fun i => (i.zero, i.size, i.bytes)) = some (some (.string ⟨#[]⟩), 1, 16) := by kernel_rfl
theorem info60 : (Try.prog.info? 60).map (fun i => (i.zero, i.size, i.bytes)) = some (some (.agg #[(.int .i64 0), (.slice none 0 0)]), 2, 32) := by kernel_rfl
theorem info83 : (Try.prog.info? 83).map (fun i => (i.zero, i.size, i.bytes)) = some (some (.agg #[(.int .i64 0), (.string ⟨#[]⟩)]), 2, 24) := by kernel_rfl
-- the values' own types
def rd_L1 (xs : List (List Int)) (i : Int) : (List Int) := xs.getD i.toNat ([] : List Int)
theorem at_L1 {w : World} {A : Option Addr} {n : Nat} {xs : List (List Int)} (h : Kd.C (Kd.slice 3 (Kd.int .i64)) w A n xs) (i : Int) (h0 : 0 ≤ i) (h1 : i < n) : ∃ ad A0 c0, A = some ad ∧ w.cell? (ad.add i.toNat) = some (.slice A0 (rd_L1 xs i).length c0) ∧ (rd_L1 xs i).length ≤ c0 ∧ (Kd.int .i64).C w A0 (rd_L1 xs i).length (rd_L1 xs i) := by
 obtain ⟨ad, c, e, _, hK, hc0⟩ := Kd.C_get h ([] : List Int) i h0 h1
 have hc : ∀ j u, c[j]? = some u → w.cell? (ad.add (i.toNat * 1 + j)) = some u := hc0
 obtain ⟨A0, c0, rfl, l0, g0⟩ := hK
 exact ⟨ad, A0, c0, e, by have hq := hc 0 _ rfl; rwa [Nat.mul_one, Nat.add_zero] at hq, l0, g0⟩

/-! #### struct type 60 -/
structure S60 where
 f0 : Int
 f1 : (List Int)
def z60 : S60 := ⟨(0 : Int), ([] : List Int)⟩
def k60 : Kd S60 := Kd.iso (Kd.pair (Kd.int .i64) (Kd.slice 3 (Kd.int .i64))) (fun x : S60 => (x.f0, x.f1))
theorem k60_open {w : World} {x : S60} {cs : List Value} (h : k60.K w x cs) : ∃ A1 c1, cs = [.int .i64 x.f0, .slice A1 x.f1.length c1] ∧ x.f1.length ≤ c1 ∧ (Kd.int .i64).C w A1 x.f1.length x.f1 := by
 obtain ⟨_, _, rfl, rfl, ⟨A1, c1, rfl, l1, g1⟩⟩ := h
 exact ⟨A1, c1, rfl, l1, g1⟩
theorem k60_openM {w : World} {base : Nat} {ok : Nat → Prop} {x : S60} {cs : List Value} (h : k60.M w base ok x cs) : ∃ v1, cs = [.int .i64 x.f0, v1] ∧ (Kd.int .i64).R 3 w base ok v1 x.f1 := by
 obtain ⟨_, _, rfl, rfl, ⟨v1, rfl, g1⟩⟩ := h
 exact ⟨v1, rfl, g1⟩
theorem k60_mk (w : World) (x : S60) {A1 : Option Addr} {c1 : Nat} (l1 : x.f1.length ≤ c1) (g1 : (Kd.int .i64).C w A1 x.f1.length x.f1) : k60.K w x [.int .i64 x.f0, .slice A1 x.f1.length c1] := ⟨[.int .i64 x.f0], [.slice A1 x.f1.length c1], rfl, rfl, ⟨A1, c1, rfl, l1, g1⟩⟩
theorem k60_mkM (w : World) (base : Nat) (ok : Nat → Prop) (x : S60) {v1 : Value} (g1 : (Kd.int .i64).R 3 w base ok v1 x.f1) : k60.M w base ok x [.int .i64 x.f0, v1] := ⟨[.int .i64 x.f0], [v1], rfl, rfl, ⟨v1, rfl, g1⟩⟩
def rd_T60 (xs : List S60) (i : Int) : S60 := xs.getD i.toNat z60
theorem at_T60 {w : World} {A : Option Addr} {n : Nat} {xs : List S60} (h : Kd.C k60 w A n xs) (i : Int) (h0 : 0 ≤ i) (h1 : i < n) : ∃ ad A1 c1, A = some ad ∧ w.cell? (ad.add (i.toNat * 2)) = some (.int .i64 (rd_T60 xs i).f0) ∧ w.cell? ⟨(ad.add (i.toNat * 2)).block, (ad.add (i.toNat * 2)).off + 1, none⟩ = some (.slice A1 (rd_T60 xs i).f1.length c1) ∧ (rd_T60 xs i).f1.length ≤ c1 ∧ (Kd.int .i64).C w A1 (rd_T60 xs i).f1.length (rd_T60 xs i).f1 := by
 obtain ⟨ad, c, e, _, hK, hc0⟩ := Kd.C_get h z60 i h0 h1
 have hc : ∀ j u, c[j]? = some u → w.cell? (ad.add (i.toNat * 2 + j)) = some u := hc0
 obtain ⟨A1, c1, rfl, l1, g1⟩ := k60_open hK
 exact ⟨ad, A1, c1, e, hc 0 _ rfl, by rw [← add_field _ _ 1 (by omega)]; exact hc 1 _ rfl, l1, g1⟩

/-! #### struct type 96 -/
structure S96 where
 f0 : Int
 f1 : ByteArray
def z96 : S96 := ⟨(0 : Int), (⟨#[]⟩ : ByteArray)⟩
def k96 : Kd S96 := Kd.iso (Kd.pair (Kd.int .i64) Kd.string) (fun x : S96 => (x.f0, x.f1))
theorem k96_open {w : World} {x : S96} {cs : List Value} (h : k96.K w x cs) : cs = [.int .i64 x.f0, .string x.f1] := by
 obtain ⟨_, _, rfl, rfl, rfl⟩ := h
 exact rfl
theorem k96_openM {w : World} {base : Nat} {ok : Nat → Prop} {x : S96} {cs : List Value} (h : k96.M w base ok x cs) : cs = [.int .i64 x.f0, .string x.f1] := by
 obtain ⟨_, _, rfl, rfl, rfl⟩ := h
 exact rfl
theorem k96_mk (w : World) (x : S96)  : k96.K w x [.int .i64 x.f0, .string x.f1] := ⟨[.int .i64 x.f0], [.string x.f1], rfl, rfl, rfl⟩
theorem k96_mkM (w : World) (base : Nat) (ok : Nat → Prop) (x : S96)  : k96.M w base ok x [.int .i64 x.f0, .string x.f1] := ⟨[.int .i64 x.f0], [.string x.f1], rfl, rfl, rfl⟩
def rd_T96 (xs : List S96) (i : Int) : S96 := xs.getD i.toNat z96
theorem at_T96 {w : World} {A : Option Addr} {n : Nat} {xs : List S96} (h : Kd.C k96 w A n xs) (i : Int) (h0 : 0 ≤ i) (h1 : i < n) : ∃ ad , A = some ad ∧ w.cell? (ad.add (i.toNat * 2)) = some (.int .i64 (rd_T96 xs i).f0) ∧ w.cell? ⟨(ad.add (i.toNat * 2)).block, (ad.add (i.toNat * 2)).off + 1, none⟩ = some (.string (rd_T96 xs i).f1) := by
 obtain ⟨ad, c, e, _, hK, hc0⟩ := Kd.C_get h z96 i h0 h1
 have hc : ∀ j u, c[j]? = some u → w.cell? (ad.add (i.toNat * 2 + j)) = some u := hc0
 obtain rfl := k96_open hK
 exact ⟨ad, e, hc 0 _ rfl, by rw [← add_field _ _ 1 (by omega)]; exact hc 1 _ rfl⟩

/-! #### struct type 83 -/
structure S83 where
 f0 : Int
 f1 : ByteArray
def z83 : S83 := ⟨(0 : Int), (⟨#[]⟩ : ByteArray)⟩
def k83 : Kd S83 := Kd.iso (Kd.pair (Kd.int .i64) Kd.string) (fun x : S83 => (x.f0, x.f1))
theorem k83_open {w : World} {x : S83} {cs : List Value} (h : k83.K w x cs) : cs = [.int .i64 x.f0, .string x.f1] := by
 obtain ⟨_, _, rfl, rfl, rfl⟩ := h
 exact rfl
theorem k83_openM {w : World} {base : Nat} {ok : Nat → Prop} {x : S83} {cs : List Value} (h : k83.M w base ok x cs) : cs = [.int .i64 x.f0, .string x.f1] := by
 obtain ⟨_, _, rfl, rfl, rfl⟩ := h
 exact rfl
theorem k83_mk (w : World) (x : S83)  : k83.K w x [.int .i64 x.f0, .string x.f1] := ⟨[.int .i64 x.f0], [.string x.f1], rfl, rfl, rfl⟩
theorem k83_mkM (w : World) (base : Nat) (ok : Nat → Prop) (x : S83)  : k83.M w base ok x [.int .i64 x.f0, .string x.f1] := ⟨[.int .i64 x.f0], [.string x.f1], rfl, rfl, rfl⟩
def rd_T83 (xs : List S83) (i : Int) : S83 := xs.getD i.toNat z83
theorem at_T83 {w : World} {A : Option Addr} {n : Nat} {xs : List S83} (h : Kd.C k83 w A n xs) (i : Int) (h0 : 0 ≤ i) (h1 : i < n) : ∃ ad , A = some ad ∧ w.cell? (ad.add (i.toNat * 2)) = some (.int .i64 (rd_T83 xs i).f0) ∧ w.cell? ⟨(ad.add (i.toNat * 2)).block, (ad.add (i.toNat * 2)).off + 1, none⟩ = some (.string (rd_T83 xs i).f1) := by
 obtain ⟨ad, c, e, _, hK, hc0⟩ := Kd.C_get h z83 i h0 h1
 have hc : ∀ j u, c[j]? = some u → w.cell? (ad.add (i.toNat * 2 + j)) = some u := hc0
 obtain rfl := k83_open hK
 exact ⟨ad, e, hc 0 _ rfl, by rw [← add_field _ _ 1 (by omega)]; exact hc 1 _ rfl⟩

-- zz_short: short names
set_option linter.defProp false
def qi := @blk_drewN
def qj := @blk_drew
def qk := @blk_alloc
def ql := @below_alloc
def qm := @pw_below_drewN
def qn := @below_drew1
def qo := @Aside0.mk
def qp := @below_size
def qq := @below_step
def qr := @blk_below
def qs := @blk_cell
def qt := @below_set
def qu := @blk_frozen
end Go.Proofs.Yteokilffbcbllaa.VFnExactBestMeta
