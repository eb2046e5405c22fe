-- Written by a program of this repo (wip/myprint.py), over the kit's print; functions that the print does not take stand in it by hand-proved contracts.
import Derived.Test.YtbjlpmhhcigkdaaVFnSyncsx0
import Derived.Test.YtbjlpmhhcigkdaaVFnSyncsx4
import Derived.Test.YtbjlpmhhcigkdaaVFnSyncsx6
namespace Go.Proofs.Ytbjlpmhhcigkdaa.VFnSyncs
open Go.RowKit Go.Proofs.YtbjlpmhhcigkdaaW.PrintWords Go.Proofs.YtbjlpmhhcigkdaaW.PrintLast Go.Proofs.YtbjlpmhhcigkdaaW.PrintMore
attribute [local go_sem] max2_int min2_int max_two min_two max_three min_three max_four min_four   -- for this text's walks alone
attribute [local go_sem high] str_leq str_gtr str_geq str_lss
set_option linter.unusedVariables false
set_option linter.unusedSimpArgs false

/-! ### impl_DiskOk: function 25 -/
def impl_DiskOk.f (l0_0 : List ByteArray) (l0_1 : List (S74)) : Option (Bool) :=
  some (decide (4 ≤ (l0_0.length : Int) ∧ (l0_0.length : Int) ≤ 40) && decide ((l0_1.length : Int) ≤ 200) && !(l0_0.any fun s => decide ((s.size : Int) > 240)) && !(l0_1.any fun p => !decide (0 ≤ p.f0 ∧ p.f0 ≤ wrap64 ((l0_0.length : Int) - 1)) || decide ((p.f1.size : Int) > 240)))
theorem impl_DiskOk.idxs_drop (l0 : List ByteArray) (x : Int) (h0 : 0 ≤ x) (h1 : x < (l0.length : Int)) : l0.drop x.toNat = rdOf ByteArray.empty l0 x :: l0.drop (x + 1).toNat := by
  have hl : x.toNat < l0.length := by omega
  rw [List.drop_eq_getElem_cons hl, show (x + 1).toNat = x.toNat + 1 by omega]
  congr 1
  unfold rdOf
  simp [List.getD, hl]
set_option maxHeartbeats 8000000 in
set_option maxRecDepth 100000 in
theorem impl_DiskOk.idxs (p : ByteArray → Bool) (g : Nat) (lb : Array Value) (eg : ∀ args w, (callFunc g args).run Try.prog w = .ok (.enter g args) w) (A0 : Option Addr) (c0 : Nat) (l0 : List ByteArray) (w : World) (hr0 : Kd.C Kd.string w A0 l0.length l0)
    (hp : ∀ (W : World) (x : ByteArray), Below w.heap.size w W → Calls Try.prog g (#[.string x] ++ lb) W fun e w' => e = .returned (.bool (p x)) ∧ Below w.heap.size w w') :
    Calls Try.prog 123 #[.slice A0 l0.length c0, .func (.func g) #[] lb] w fun e w' => e = .returned (.int .i64 (idxP p l0 0)) ∧ Below w.heap.size w w' := by
  have hl : l0.length ≤ 9223372036854775807 := by have := hr0.2.1; exact this
  have HR0 := Aside0.mk hr0
  clear hr0
  have HP := Aside0.mk hp
  clear hp
  have HL := Aside0.mk hl
  clear hl
  go_enter Try.func123, Try.ntmps123
  go_wp2
  go_loopg [5, 8] l0.length (fun gg _ s8 wr => ∃ x8 : Int, s8 = .int .i64 x8 ∧ Aside0 (0 ≤ x8 ∧ x8 ≤ (l0.length : Int) ∧ (l0.length : Int) - x8 ≤ (gg : Int)) ∧ Aside0 (Below w.heap.size w wr) ∧ Aside0 (idxP p l0 0 = idxP p (l0.drop x8.toNat) x8))
  case atStart => exact ⟨0, rfl, ⟨by omega, by omega, by omega⟩, ⟨Below.refl _ w⟩, ⟨rfl⟩⟩
  case round =>
    obtain ⟨x8, rfl, HK, HB, HA⟩ := hrel
    have h0 := HK.out.1
    by_cases c4 : x8 < (l0.length : Int)
    · have hd := impl_DiskOk.idxs_drop l0 x8 h0 c4
      have HD := Aside0.mk hd
      clear hd
      obtain ⟨ad102, e102, hx0⟩ := Kd.at_string HR0.out x8 h0 c4
      have hx0' := pw_cell_below HB.out hx0
      clear hx0
      have hcall := HP.out wr (rdOf ByteArray.empty l0 x8) HB.out
      have c4b0 : decide (x8 < (l0.length : Int)) = true := decide_eq_true c4
      have hw8 : wrap64 (x8 + 1) = x8 + 1 := by have := HL.out; unfold wrap64; omega
      have HW8 := Aside0.mk hw8
      clear hw8
      have C4 := Aside0.mk c4
      clear c4
      have q102 := C4.out
      replace q102 := eq_true q102
      replace h0 := eq_true h0
      cases e102
      cases hq : p (rdOf ByteArray.empty l0 x8) with
      | true =>
        rw [hq] at hcall
        have HQ := Aside0.mk hq
        clear hq
        have HC := Aside0.mk hcall
        clear hcall
        go_wp2_with fail
        refine (HC.out).mono ?_
        rintro e w' ⟨rfl, hb'⟩
        go_wp2
        go_ret
        refine ⟨?_, hb'⟩
        rw [HA.out, HD.out, idxP, if_pos HQ.out]
        rfl
      | false =>
        rw [hq] at hcall
        have HQ := Aside0.mk hq
        clear hq
        have HC := Aside0.mk hcall
        clear hcall
        go_wp2_with fail
        refine (HC.out).mono ?_
        rintro e w' ⟨rfl, hb'⟩
        go_wp2
        go_roundg (gk - 1)
        case measure => have := HK.out; have := C4.out; omega
        case rel => exact ⟨x8 + 1, by rw [HW8.out], ⟨by have := HK.out; omega, by have := C4.out; omega, by have := HK.out; have := C4.out; omega⟩, ⟨hb'⟩, ⟨by rw [HA.out, HD.out, idxP, if_neg (by rw [HQ.out]; decide)]⟩⟩
    · have c4b0 : decide (x8 < (l0.length : Int)) = false := decide_eq_false c4
      have C4 := Aside0.mk c4
      clear c4
      go_wp2
      go_ret
      refine ⟨?_, HB.out⟩
      rw [HA.out, List.drop_eq_nil_of_le (by have := C4.out; omega)]
      rfl
set_option maxHeartbeats 8000000 in
theorem impl_DiskOk.cons (p : ByteArray → Bool) (g : Nat) (lb : Array Value) (eg : ∀ args w, (callFunc g args).run Try.prog w = .ok (.enter g args) w) (A0 : Option Addr) (c0 : Nat) (l0 : List ByteArray) (w : World) (hr0 : Kd.C Kd.string w A0 l0.length l0)
    (hp : ∀ (W : World) (x : ByteArray), Below w.heap.size w W → Calls Try.prog g (#[.string x] ++ lb) W fun e w' => e = .returned (.bool (p x)) ∧ Below w.heap.size w w') :
    Calls Try.prog 77 #[.slice A0 l0.length c0, .func (.func g) #[] lb] w fun e w' => e = .returned (.bool (l0.any p)) ∧ Below w.heap.size w w' := by
  have hcon := impl_DiskOk.idxs p g lb eg A0 c0 l0 w hr0 hp
  rw [← idxP_any]
  generalize idxP p l0 0 = r at hcon ⊢
  have HCON := Aside0.mk hcon
  clear hcon hr0 hp
  go_enter Try.func77, Try.ntmps77
  go_wp2_with fail
  refine HCON.out.mono ?_
  rintro e w' ⟨rfl, hb'⟩
  go_wp2
  go_ret
  exact ⟨rfl, hb'⟩
theorem impl_DiskOk.idxp_drop (l0 : List (S74)) (x : Int) (h0 : 0 ≤ x) (h1 : x < (l0.length : Int)) : l0.drop x.toNat = rd_T74 l0 x :: l0.drop (x + 1).toNat := by
  have hl : x.toNat < l0.length := by omega
  rw [List.drop_eq_getElem_cons hl, show (x + 1).toNat = x.toNat + 1 by omega]
  congr 1
  unfold rd_T74
  simp [List.getD, hl]
set_option maxHeartbeats 8000000 in
set_option maxRecDepth 100000 in
theorem impl_DiskOk.idxp (p : (S74) → Bool) (g : Nat) (lb : Array Value) (eg : ∀ args w, (callFunc g args).run Try.prog w = .ok (.enter g args) w) (A0 : Option Addr) (c0 : Nat) (l0 : List (S74)) (w : World) (hr0 : Kd.C k74 w A0 l0.length l0)
    (hp : ∀ (W : World) (x : (S74)), Below w.heap.size w W → Calls Try.prog g (#[.agg #[.int .i64 x.f0, .string x.f1]] ++ lb) W fun e w' => e = .returned (.bool (p x)) ∧ Below w.heap.size w w') :
    Calls Try.prog 124 #[.slice A0 l0.length c0, .func (.func g) #[] lb] w fun e w' => e = .returned (.int .i64 (idxP p l0 0)) ∧ Below w.heap.size w w' := by
  have hl : l0.length ≤ 9223372036854775807 := by have := hr0.2.1; exact this
  have HR0 := Aside0.mk hr0
  clear hr0
  have HP := Aside0.mk hp
  clear hp
  have HL := Aside0.mk hl
  clear hl
  go_enter Try.func124, Try.ntmps124
  go_wp2
  go_loopg [5, 8] l0.length (fun gg _ s8 wr => ∃ x8 : Int, s8 = .int .i64 x8 ∧ Aside0 (0 ≤ x8 ∧ x8 ≤ (l0.length : Int) ∧ (l0.length : Int) - x8 ≤ (gg : Int)) ∧ Aside0 (Below w.heap.size w wr) ∧ Aside0 (idxP p l0 0 = idxP p (l0.drop x8.toNat) x8))
  case atStart => exact ⟨0, rfl, ⟨by omega, by omega, by omega⟩, ⟨Below.refl _ w⟩, ⟨rfl⟩⟩
  case round =>
    obtain ⟨x8, rfl, HK, HB, HA⟩ := hrel
    have h0 := HK.out.1
    by_cases c4 : x8 < (l0.length : Int)
    · have hd := impl_DiskOk.idxp_drop l0 x8 h0 c4
      have HD := Aside0.mk hd
      clear hd
      obtain ⟨ad102, e102, hx0, hx1⟩ := at_T74 HR0.out x8 h0 c4
      have hx0' := pw_cell_below HB.out hx0
      have hx1' := pw_cell_below HB.out hx1
      clear hx0 hx1
      have hcall := HP.out wr (rd_T74 l0 x8) HB.out
      have c4b0 : decide (x8 < (l0.length : Int)) = true := decide_eq_true c4
      have hw8 : wrap64 (x8 + 1) = x8 + 1 := by have := HL.out; unfold wrap64; omega
      have HW8 := Aside0.mk hw8
      clear hw8
      have C4 := Aside0.mk c4
      clear c4
      have q102 := C4.out
      replace q102 := eq_true q102
      replace h0 := eq_true h0
      cases e102
      cases hq : p (rd_T74 l0 x8) with
      | true =>
        rw [hq] at hcall
        have HQ := Aside0.mk hq
        clear hq
        have HC := Aside0.mk hcall
        clear hcall
        go_wp2_with fail
        refine (HC.out).mono ?_
        rintro e w' ⟨rfl, hb'⟩
        go_wp2
        go_ret
        refine ⟨?_, hb'⟩
        rw [HA.out, HD.out, idxP, if_pos HQ.out]
        rfl
      | false =>
        rw [hq] at hcall
        have HQ := Aside0.mk hq
        clear hq
        have HC := Aside0.mk hcall
        clear hcall
        go_wp2_with fail
        refine (HC.out).mono ?_
        rintro e w' ⟨rfl, hb'⟩
        go_wp2
        go_roundg (gk - 1)
        case measure => have := HK.out; have := C4.out; omega
        case rel => exact ⟨x8 + 1, by rw [HW8.out], ⟨by have := HK.out; omega, by have := C4.out; omega, by have := HK.out; have := C4.out; omega⟩, ⟨hb'⟩, ⟨by rw [HA.out, HD.out, idxP, if_neg (by rw [HQ.out]; decide)]⟩⟩
    · have c4b0 : decide (x8 < (l0.length : Int)) = false := decide_eq_false c4
      have C4 := Aside0.mk c4
      clear c4
      go_wp2
      go_ret
      refine ⟨?_, HB.out⟩
      rw [HA.out, List.drop_eq_nil_of_le (by have := C4.out; omega)]
      rfl
set_option maxHeartbeats 8000000 in
theorem impl_DiskOk.conp (p : (S74) → Bool) (g : Nat) (lb : Array Value) (eg : ∀ args w, (callFunc g args).run Try.prog w = .ok (.enter g args) w) (A0 : Option Addr) (c0 : Nat) (l0 : List (S74)) (w : World) (hr0 : Kd.C k74 w A0 l0.length l0)
    (hp : ∀ (W : World) (x : (S74)), Below w.heap.size w W → Calls Try.prog g (#[.agg #[.int .i64 x.f0, .string x.f1]] ++ lb) W fun e w' => e = .returned (.bool (p x)) ∧ Below w.heap.size w w') :
    Calls Try.prog 79 #[.slice A0 l0.length c0, .func (.func g) #[] lb] w fun e w' => e = .returned (.bool (l0.any p)) ∧ Below w.heap.size w w' := by
  have hcon := impl_DiskOk.idxp p g lb eg A0 c0 l0 w hr0 hp
  rw [← idxP_any]
  generalize idxP p l0 0 = r at hcon ⊢
  have HCON := Aside0.mk hcon
  clear hcon hr0 hp
  go_enter Try.func79, Try.ntmps79
  go_wp2_with fail
  refine HCON.out.mono ?_
  rintro e w' ⟨rfl, hb'⟩
  go_wp2
  go_ret
  exact ⟨rfl, hb'⟩
set_option maxHeartbeats 8000000 in
theorem impl_DiskOk.pred1 (w : World) (W : World) (x : ByteArray) (hb : Below w.heap.size w W) :
    Calls Try.prog 78 (#[.string x] ++ #[]) W fun e w' => e = .returned (.bool (decide ((x.size : Int) > 240))) ∧ Below w.heap.size w w' := by
  show Calls Try.prog 78 #[.string x] W _
  go_enter Try.func78, Try.ntmps78
  go_wp2
  go_ret
  exact ⟨rfl, hb⟩
theorem impl_DiskOk.isPage (l0_0 : List ByteArray) (l0_1 : List (S74)) (x : Int) : impl_isPage.f l0_0 l0_1 x = some (decide (0 ≤ x ∧ x ≤ wrap64 ((l0_0.length : Int) - 1))) := by
  unfold impl_isPage.f impl_in.f
  by_cases c : x ≥ 0
  · rw [if_pos c, Option.bind_some]
    congr 1
    by_cases c2 : x ≤ wrap64 ((l0_0.length : Int) - 1)
    · rw [decide_eq_true c2, decide_eq_true ⟨c, c2⟩]
    · rw [decide_eq_false c2, decide_eq_false (fun h => c2 h.2)]
  · rw [if_neg c, Option.bind_some, decide_eq_false (fun h => c h.1)]
set_option maxHeartbeats 8000000 in
set_option maxRecDepth 100000 in
theorem impl_DiskOk.pred2 (A0 : Option Addr) (c0 : Nat) (l0_0 : List ByteArray) (A1 : Option Addr) (c1 : Nat) (l0_1 : List (S74)) (B : Nat) (w : World) (hr0 : Kd.C Kd.string w A0 l0_0.length l0_0) (hc0 : l0_0.length ≤ c0) (hr1 : Kd.C k74 w A1 l0_1.length l0_1) (hc1 : l0_1.length ≤ c1)
    (hB : B < w.heap.size) (hcell0 : w.cell? ⟨B, 0, none⟩ = some (.slice A0 l0_0.length c0)) (hcell1 : w.cell? ⟨B, 1, none⟩ = some (.slice A1 l0_1.length c1)) (W : World) (x : S74) (hb : Below w.heap.size w W) :
    Calls Try.prog 80 (#[.agg #[.int .i64 x.f0, .string x.f1]] ++ #[.pointer (some ⟨B, 0, none⟩)]) W fun e w' => e = .returned (.bool (!decide (0 ≤ x.f0 ∧ x.f0 ≤ wrap64 ((l0_0.length : Int) - 1)) || decide ((x.f1.size : Int) > 240))) ∧ Below w.heap.size w w' := by
  have hx0 : W.cell? ⟨B, 0, none⟩ = some (.slice A0 l0_0.length c0) := (hb.cell (p := ⟨B, 0, none⟩) hB).trans hcell0
  have hx1 : W.cell? ⟨B, 1, none⟩ = some (.slice A1 l0_1.length c1) := (hb.cell (p := ⟨B, 1, none⟩) hB).trans hcell1
  have hBW : B < W.heap.size := Nat.lt_of_lt_of_le hB hb.size
  have hne : B ≠ W.heap.size := by omega
  have HB := Aside0.mk hb
  have H0 := Aside0.mk (Kd.C_below hr0 hb)
  have H1 := Aside0.mk (Kd.C_below hr1 hb)
  have HC0 := Aside0.mk hc0
  have HC1 := Aside0.mk hc1
  have HP := Aside0.mk (impl_DiskOk.isPage l0_0 l0_1 x.f0)
  clear hr0 hr1 hc0 hc1 hcell0 hcell1 hb
  show Calls Try.prog 80 #[.agg #[.int .i64 x.f0, .string x.f1], .pointer (some ⟨B, 0, none⟩)] W _
  generalize decide (0 ≤ x.f0 ∧ x.f0 ≤ wrap64 ((l0_0.length : Int) - 1)) = b at HP ⊢
  go_enter Try.func80, Try.ntmps80
  go_wp2_with fail
  refine (impl_isPage.calls A0 c0 l0_0 A1 c1 l0_1 x.f0 b _ (Kd.C_alloc H0.out _) HC0.out (Kd.C_alloc H1.out _) HC1.out HP.out).mono ?_
  rintro e w' ⟨rfl, hb'⟩
  have HBW := Aside0.mk hb'
  have hz1 : w'.cell? ⟨W.heap.size, 1, none⟩ = some (.string x.f1) := pw_cell_below hb' (by simp)
  have HF := Aside0.mk (((HB.out).alloc (HB.out).size _).trans (HBW.out.mono (by have := HB.out.size; simp; omega)))
  clear hb' hx0 hx1
  cases b with
  | false =>
    go_wp2
    go_ret
    exact ⟨rfl, HF.out⟩
  | true =>
    go_wp2
    go_ret
    exact ⟨by simp, HF.out⟩
theorem impl_DiskOk.inRange (x : Int) : impl_in.f x 4 40 = some (decide (4 ≤ x ∧ x ≤ 40)) := by
  unfold impl_in.f
  by_cases c : x ≥ 4
  · rw [if_pos c]
    congr 1
    by_cases c2 : x ≤ 40
    · rw [decide_eq_true c2, decide_eq_true ⟨c, c2⟩]
    · rw [decide_eq_false c2, decide_eq_false (fun h => c2 h.2)]
  · rw [if_neg c, decide_eq_false (fun h => c h.1)]
set_option maxHeartbeats 8000000 in
set_option maxRecDepth 100000 in
theorem impl_DiskOk.calls (A0_0 : Option Addr) (c0_0 : Nat) (l0_0 : List ByteArray) (A0_1 : Option Addr) (c0_1 : Nat) (l0_1 : List (S74)) (r : Bool) (w : World) (hr0_0 : Kd.C Kd.string w A0_0 l0_0.length l0_0) (hc0_0 : l0_0.length ≤ c0_0) (hr0_1 : Kd.C k74 w A0_1 l0_1.length l0_1) (hc0_1 : l0_1.length ≤ c0_1) (h : impl_DiskOk.f l0_0 l0_1 = some r) :
    Calls Try.prog 25 #[.agg #[.slice A0_0 l0_0.length c0_0, .slice A0_1 l0_1.length c0_1]] w fun e w' => e = .returned (.bool r) ∧ Below w.heap.size w w' := by
  unfold impl_DiskOk.f at h
  have H := Option.some.inj h
  clear h
  have HR := Aside0.mk H
  clear H
  have e1 : ∀ args w, (callFunc 78 args).run Try.prog w = .ok (.enter 78 args) w := enters_of Try.func78 (by kernel_rfl) rfl
  have e2 : ∀ args w, (callFunc 80 args).run Try.prog w = .ok (.enter 80 args) w := enters_of Try.func80 (by kernel_rfl) rfl
  have E1 := Aside0.mk e1
  have E2 := Aside0.mk e2
  clear e1 e2
  have H0 := Aside0.mk hr0_0
  have H1 := Aside0.mk hr0_1
  have HC0 := Aside0.mk hc0_0
  have HC1 := Aside0.mk hc0_1
  clear hr0_0 hr0_1 hc0_0 hc0_1
  have HI := Aside0.mk (impl_DiskOk.inRange (l0_0.length : Int))
  by_cases c1 : 4 ≤ (l0_0.length : Int) ∧ (l0_0.length : Int) ≤ 40
  · by_cases c2 : (l0_1.length : Int) ≤ 200
    · have C1 := Aside0.mk c1
      have C2 := Aside0.mk c2
      have g2 : decide (200 < (l0_1.length : Int)) = false := decide_eq_false (by omega)
      have g2' : ¬ (200 < l0_1.length) := by omega
      have c1' : decide (4 ≤ (l0_0.length : Int) ∧ (l0_0.length : Int) ≤ 40) = true := decide_eq_true c1
      have C1' := Aside0.mk c1'
      have C2' := Aside0.mk (decide_eq_true c2)
      clear c1 c2 c1'
      go_enter Try.func25, Try.ntmps25
      go_wp2_with fail
      refine (impl_in.calls _ 4 40 true _ (by rw [HI.out, C1'.out])).mono ?_
      rintro e w1 ⟨rfl, ⟨n1, rfl⟩⟩
      go_wp2_with fail
      refine (impl_DiskOk.cons (fun s => decide ((s.size : Int) > 240)) 78 #[] E1.out A0_0 c0_0 l0_0 _ (Kd.C_drewN (Kd.C_alloc H0.out _) _) (fun W x hb => impl_DiskOk.pred1 _ W x hb)).mono ?_
      rintro e w2 ⟨rfl, hb2⟩
      have hx0 : w2.cell? ⟨w.heap.size, 0, none⟩ = some (.slice A0_0 l0_0.length c0_0) := pw_cell_below hb2 (by simp)
      have hx1 : w2.cell? ⟨w.heap.size, 1, none⟩ = some (.slice A0_1 l0_1.length c0_1) := pw_cell_below hb2 (by simp)
      have hB : Below w.heap.size w w2 := (pw_below_drewN ((Below.refl _ w).alloc (Nat.le_refl _) (.cells #[.slice A0_0 l0_0.length c0_0, .slice A0_1 l0_1.length c0_1] 36)) n1).trans (hb2.mono (by simp))
      have hS : w.heap.size < w2.heap.size := by have := hb2.size; simp at this; omega
      have HB2 := Aside0.mk hb2
      clear hb2
      have HB := Aside0.mk hB
      clear hB
      have HS := Aside0.mk hS
      clear hS
      cases h3 : l0_0.any (fun s => decide ((s.size : Int) > 240)) with
      | true =>
        have HR3 := Aside0.mk h3
        clear h3
        go_wp2
        go_ret
        refine ⟨?_, HB.out⟩
        rw [← HR.out, C1'.out, C2'.out, HR3.out]
        rfl
      | false =>
        have HR3 := Aside0.mk h3
        clear h3
        have HX0 := Aside0.mk hx0
        have HX1 := Aside0.mk hx1
        go_wp2_with fail
        refine (impl_DiskOk.conp (fun p => !decide (0 ≤ p.f0 ∧ p.f0 ≤ wrap64 ((l0_0.length : Int) - 1)) || decide ((p.f1.size : Int) > 240)) 80 #[.pointer (some ⟨w.heap.size, 0, none⟩)] E2.out A0_1 c0_1 l0_1 w2 (Kd.C_below H1.out HB.out) (fun W x hb => impl_DiskOk.pred2 A0_0 c0_0 l0_0 A0_1 c0_1 l0_1 w.heap.size w2 (Kd.C_below H0.out HB.out) HC0.out (Kd.C_below H1.out HB.out) HC1.out HS.out HX0.out HX1.out W x hb)).mono ?_
        rintro e w3 ⟨rfl, hb3⟩
        have HF := Aside0.mk (HB.out.trans (hb3.mono (by have := HS.out; omega)))
        clear hb3 hx0 hx1
        generalize hz : l0_1.any (fun p => !decide (0 ≤ p.f0 ∧ p.f0 ≤ wrap64 ((l0_0.length : Int) - 1)) || decide ((p.f1.size : Int) > 240)) = b4 at HR ⊢
        have HZ := Aside0.mk hz
        clear hz
        go_wp2
        go_ret
        refine ⟨?_, HF.out⟩
        rw [← HR.out, C1'.out, C2'.out, HR3.out]
        rfl
    · have C1' := Aside0.mk (decide_eq_true c1)
      have C2' := Aside0.mk (decide_eq_false c2)
      have g2 : decide (200 < (l0_1.length : Int)) = true := decide_eq_true (by omega)
      have g2' : 200 < l0_1.length := by omega
      clear c1 c2
      go_enter Try.func25, Try.ntmps25
      go_wp2_with fail
      refine (impl_in.calls _ 4 40 true _ (by rw [HI.out, C1'.out])).mono ?_
      rintro e w1 ⟨rfl, ⟨n1, rfl⟩⟩
      go_wp2
      go_ret
      refine ⟨?_, pw_below_drewN ((Below.refl _ w).alloc (Nat.le_refl _) (.cells #[.slice A0_0 l0_0.length c0_0, .slice A0_1 l0_1.length c0_1] 36)) n1⟩
      rw [← HR.out, C1'.out, C2'.out]
      rfl
  · have C1' := Aside0.mk (decide_eq_false c1)
    clear c1
    go_enter Try.func25, Try.ntmps25
    go_wp2_with fail
    refine (impl_in.calls _ 4 40 false _ (by rw [HI.out, C1'.out])).mono ?_
    rintro e w1 ⟨rfl, ⟨n1, rfl⟩⟩
    go_wp2
    go_ret
    refine ⟨?_, pw_below_drewN ((Below.refl _ w).alloc (Nat.le_refl _) (.cells #[.slice A0_0 l0_0.length c0_0, .slice A0_1 l0_1.length c0_1] 36)) n1⟩
    rw [← HR.out, C1'.out]
    rfl

/-! ### spec_l01PickInt: function 101 -/
def spec_l01PickInt.f (s0_0 : List Int) (s0_1 : Int) (s0_2 : Int) (l1 : List Int) : Option (Int × Int × Int) := (spec_l01Below.f s0_0 s0_1 s0_2 (l1.length : Int)).bind fun bt266 => (if 0 ≤ bt266.1 then (if bt266.1 < (l1.length : Int) then (some (rd l1 bt266.1, bt266.2.1, bt266.2.2)) else (none)) else (none))
set_option maxHeartbeats 8000000 in
set_option maxRecDepth 100000 in
theorem spec_l01PickInt.calls (g : Nat) (s0_0 : List Int) (s0_1 : Int) (s0_2 : Int) (A1 : Option Addr) (c1 : Nat) (l1 : List Int) (r1 : Int) (r2 : Int) (r3 : Int) (w0 w : World) (hI : IsS146 w0 w g s0_0 s0_1 s0_2) (hB : Below w0.heap.size w0 w) (hr1 : Kd.C (Kd.int .i64) w A1 l1.length l1) (hc1 : l1.length ≤ c1) (hf1 : ∀ ad, A1 = some ad → 0 < l1.length → ad.block ≠ g) (h : spec_l01PickInt.f s0_0 s0_1 s0_2 l1 = some (r1, r2, r3)) :
    Calls Try.prog 101 #[.pointer (some ⟨g, 0, none⟩), .slice A1 l1.length c1] w fun e w' => e = .returned (.int .i64 r1) ∧ IsS146 w0 w' g s0_0 r2 r3 ∧ Below w0.heap.size w0 w' ∧ KeepBut w w' g none := by
  have HR1 := Aside0.mk hr1
  have HC1 := Aside0.mk hc1
  clear hr1 hc1
  have HI0 := Aside0.mk hI
  have HK := Aside0.mk (KeepBut.refl w g none)
  have HL := Aside0.mk hB.size
  clear hI
  have HW0 := Aside0.mk hB.size
  have HB := Aside0.mk hB
  clear hB
  have H : ((spec_l01Below.f s0_0 s0_1 s0_2 (l1.length : Int)).bind fun bt266 => (if 0 ≤ bt266.1 then (if bt266.1 < (l1.length : Int) then (some (rd l1 bt266.1, bt266.2.1, bt266.2.2)) else (none)) else (none))) = some (r1, r2, r3) := h
  clear h
  replace H := Option.bind_eq_some_iff.mp H
  obtain ⟨⟨t266, t267, t268⟩, A30, H⟩ := H
  replace H : (if 0 ≤ t266 then (if t266 < (l1.length : Int) then (some (rd l1 t266, t267, t268)) else (none)) else (none)) = some (r1, r2, r3) := H
  have A3 := Aside0.mk A30
  clear A30
  by_cases c4 : 0 ≤ t266
  · rw [if_pos c4] at H
    have c4b0 : decide (0 ≤ t266) = true := decide_eq_true c4
    clear c4
    by_cases c5 : t266 < (l1.length : Int)
    · rw [if_pos c5] at H
      have c5b0 : decide (t266 < (l1.length : Int)) = true := decide_eq_true c5
      clear c5
      simp only [Option.some.injEq, Prod.mk.injEq] at H
      obtain ⟨rfl, rfl, rfl⟩ := H
      go_enter Try.func101, Try.ntmps101
      go_wp2_with (first | ((with_reducible refine gate_callee (f := 74) rfl ?_); refine goesL_ (some 9) rfl rfl Try.func74 (by kernel_rfl) rfl #[.pointer (some ⟨g, 0, none⟩), .int .i64 (l1.length : Int)] rfl (by (try simp only [List.map_toArray, List.map_cons, List.map_nil]); first | done | rfl | (simp only [List.length_drop, List.length_take]; rfl)) ?_; (with_reducible refine (spec_l01Below.calls g s0_0 s0_1 s0_2 (l1.length : Int) t266 t267 t268 w0 _ ?side1 ?side2 A3.out).mono ?_); (case side1 => repeat (first | (with_reducible first | exact HI0.out | apply IsS146.alloc | apply IsS146.drewN | apply IsS146.drew | apply IsS146.set_1 | apply IsS146.set_2) | exact HI0.out)); (case side2 => repeat (first | (with_reducible first | exact HB.out | apply below_alloc | apply pw_below_drewN | apply below_drew1 | refine below_set ?_ (IsS146.ge HI0.out)) | exact HB.out)); rintro e w6 ⟨rfl, hi, hb, hk⟩; refine ⟨_, rfl, ?_⟩; have n0_ := Aside0.mk (KeepBut.trans (by repeat (first | (with_reducible first | exact HK.out | apply KeepBut.set_ | apply keep_drewN | apply keep_drew | apply keep_alloc) | exact HK.out)) hk (.inl rfl)); have n1_ := Aside0.mk (hb); have n2_ := Aside0.mk (hi); clear HK; clear HB; clear HI0; have HK := n0_; have HB := n1_; have HI0 := n2_; clear n0_ n1_ n2_; (try clear hb); (try clear hb2); (try clear hk); (try clear hi); have p269 : 0 ≤ (t266 : Int) := of_decide_eq_true (by first | (with_reducible assumption) | assumption); have q269 : t266 < (l1.length : Int) := of_decide_eq_true (by first | (with_reducible assumption) | assumption); obtain ⟨ad269, e269, hx269_0⟩ := Kd.at_int HR1.out t266 p269 q269; cases e269; replace hx269_0 := keep_cell HK.out hx269_0 (by first | (rw [add_block]; exact hf1 _ rfl (by omega)) | exact hf1 _ rfl (by omega) | exact hf1 ad269 rfl (by omega)); replace p269 := eq_true p269; replace q269 := eq_true q269))
      go_ret
      exact ⟨by first | rfl | (simp [errW_none, errW_some] <;> rfl) | (simp [*, errW_none, errW_some] <;> rfl), by repeat (first | (with_reducible first | exact HI0.out | apply IsS146.alloc | apply IsS146.drewN | apply IsS146.drew | apply IsS146.set_1 | apply IsS146.set_2) | exact HI0.out), by repeat (first | (with_reducible first | exact HB.out | apply below_alloc | apply pw_below_drewN | apply below_drew1 | refine below_set ?_ (IsS146.ge HI0.out)) | exact HB.out), by repeat (first | (with_reducible first | exact HK.out | apply KeepBut.set_ | apply keep_drewN | apply keep_drew | apply keep_alloc) | exact HK.out)⟩
    · rw [if_neg c5] at H
      exact absurd H (by simp)
  · rw [if_neg c4] at H
    exact absurd H (by simp)

/-! ### spec_l01Long: function 136 -/
def spec_l01Long.l0 : Nat → Int → Int → List Int → Int → Option (ByteArray)
  | 0, _, _, _, _ => none
  | k + 1, x0, x1, x5, x6 => if x6 < x0 then (if 0 ≤ x6 then (if x6 < (x5.length : Int) then (spec_l01Long.l0 k x0 x1 (x5.set (x6 : Int).toNat x1) (wrap64 (x6 + 1))) else (none)) else (none)) else (some (strOfNums x5))
def spec_l01Long.f (k : Nat) (a0 : Int) (a1 : Int) : Option (ByteArray) := if 0 ≤ a0 then (if (a0 : Int).toNat ≤ 281474976710656 then (spec_l01Long.l0 k a0 a1 (List.replicate (a0 : Int).toNat 0) 0) else (none)) else (none)
theorem spec_l01Long.mono_l : ∀ k, (∀ y0 y1 y2 y3, LeO (spec_l01Long.l0 k y0 y1 y2 y3) (spec_l01Long.l0 (k + 1) y0 y1 y2 y3))
  | 0 => fun _ _ _ _ r h => by simp [spec_l01Long.l0] at h
  | k + 1 => by
    have ih0 := spec_l01Long.mono_l k
    · intro y0 y1 y2 y3
      unfold spec_l01Long.l0
      repeat' first
      | (with_reducible exact ih0 _ _ _ _)
      | (with_reducible exact LeO.refl _)
      | (with_reducible exact LeO.none _)
      | (with_reducible refine LeO.ite ?_ ?_)
      | (with_reducible refine LeO.bind ?_ (fun _ => ?_))
      | exact ih0 _ _ _ _
      | exact LeO.none _
      | refine LeO.ite ?_ ?_
      | refine LeO.bind ?_ (fun _ => ?_)
theorem spec_l01Long.mono : ∀ a0 a1 k, LeO (spec_l01Long.f k a0 a1) (spec_l01Long.f (k + 1) a0 a1) := by
  intro a0 a1 k
  have ih0 := spec_l01Long.mono_l k
  unfold spec_l01Long.f
  repeat' first
      | (with_reducible exact ih0 _ _ _ _)
      | (with_reducible exact LeO.refl _)
      | (with_reducible exact LeO.none _)
      | (with_reducible refine LeO.ite ?_ ?_)
      | (with_reducible refine LeO.bind ?_ (fun _ => ?_))
      | exact ih0 _ _ _ _
      | exact LeO.none _
      | refine LeO.ite ?_ ?_
      | refine LeO.bind ?_ (fun _ => ?_)
set_option maxHeartbeats 8000000 in
set_option maxRecDepth 100000 in
theorem spec_l01Long.calls (k : Nat) (a0 : Int) (a1 : Int) (r : ByteArray) (w : World) (h : spec_l01Long.f k a0 a1 = some r) :
    Calls Try.prog 136 #[.int .i64 a0, .int .u8 a1] w fun e w' => e = .returned (.string r) ∧ Below w.heap.size w w' := by
  have HB := Aside0.mk (Below.refl w.heap.size w)
  have H : (if 0 ≤ a0 then (if (a0 : Int).toNat ≤ 281474976710656 then (spec_l01Long.l0 k a0 a1 (List.replicate (a0 : Int).toNat 0) 0) else (none)) else (none)) = some r := h
  clear h
  by_cases c3 : 0 ≤ a0
  · rw [if_pos c3] at H
    have c3b0 := eq_true c3
    have c3b1 : decide (0 ≤ a0) = true := decide_eq_true c3
    clear c3
    by_cases c4 : (a0 : Int).toNat ≤ 281474976710656
    · rw [if_pos c4] at H
      have c4b0 := eq_true c4
      have c4b1 : decide ((a0 : Int).toNat ≤ 281474976710656) = true := decide_eq_true c4
      clear c4
      obtain ⟨y270, hy270⟩ : ∃ y_ : List Int, y_ = (List.replicate (a0 : Int).toNat 0) := ⟨_, rfl⟩
      replace H : (spec_l01Long.l0 k a0 a1 y270 0) = some r := by first | (rw [hy270]; with_reducible exact H) | (have H2_ := (Option.bind_some _ _).symm.trans H; rw [hy270]; with_reducible exact H2_) | (have H2_ := (Option.bind_some _ _).symm.trans H; with_reducible exact H2_) | with_reducible exact H | (rw [hy270]; exact H) | exact H
      have Ny270 := Aside0.mk hy270
      clear hy270
      have H' := Aside0.mk H
      clear H
      go_enter Try.func136, Try.ntmps136
      go_wp2_with (first | ((with_reducible refine gate_dst (N := 8) rfl ?_); refine Kd.R_make (Kd.int .u8) _ 5 rfl (N := 8) rfl 32 _ _ rfl a0 rfl rfl Try.underlying32 (.int .u8 0) 1 info5 rfl (by decide) (by omega) 0 (ok := fun _ => True) (okp := fun _ => True) rfl (fun _ hk => hk) trivial (of_decide_eq_true (by first | (with_reducible assumption) | assumption)) (Nat.le_trans (Nat.mul_le_mul_right _ (of_decide_eq_true (by first | (with_reducible assumption) | assumption) : a0.toNat ≤ 281474976710656)) (by omega)) (Below.refl _ _) (Nat.le_refl _) ?_; intro v271 w5 ho6 hb hg_ hnew_; clear hg_ hnew_; (first | rw [← Ny270.out] at ho6 | (simp only [Int.reduceToNat] at ho6; rw [← Ny270.out] at ho6)); have n0_ := Aside0.mk (Kd.R_lower ho6 (below_size (by repeat (first | (with_reducible first | exact HB.out | apply below_alloc | apply pw_below_drewN | apply below_drew1) | exact HB.out)))); have n1_ := Aside0.mk (below_step (by repeat (first | (with_reducible first | exact HB.out | apply below_alloc | apply pw_below_drewN | apply below_drew1) | exact HB.out)) hb); clear HB; have HO272 := n0_; have HB := n1_; clear n0_ n1_; clear hb ho6))
      go_loopg [6] k (fun kq v6 w' => ∃ (x5_1 : List Int) (x6_1 : Int), v6 = .int .i64 x6_1 ∧ Aside0 (spec_l01Long.l0 kq a0 a1 x5_1 x6_1 = some r) ∧ Aside0 (kq ≤ k) ∧ Aside0 (Kd.R (Kd.int .u8) 5 w' w.heap.size (fun _ => True) v271 x5_1) ∧ Aside0 (Below w.heap.size w w'))
      case atStart => exact ⟨(y270), (0), (by first | rfl | (simp; done) | (simp [*]; done)), H', ⟨Nat.le_refl _⟩, ⟨by (with_reducible repeat (first | apply Kd.R_alloc | apply Kd.R_drewN | apply Kd.R_drew)); exact HO272.out⟩, ⟨by repeat (first | (with_reducible first | exact HB.out | apply below_alloc | apply pw_below_drewN | apply below_drew1) | exact HB.out)⟩⟩
      case round =>
        clear H'
        try clear c1
        try clear p2
        try clear c3
        try clear c3b0
        try clear c3b1
        try clear c4
        try clear c4b0
        try clear c4b1
        obtain ⟨x5_1, x6_1, rfl, HA, HK1, HO_5, HB⟩ := hrel
        cases gk with
        | zero => exact absurd HA.out (by simp [spec_l01Long.l0])
        | succ k1 =>
          have H := HA.out
          clear HA
          simp only [spec_l01Long.l0] at H
          by_cases c7 : x6_1 < a0
          · rw [if_pos c7] at H
            have c7b0 : decide (x6_1 < a0) = true := decide_eq_true c7
            clear c7
            by_cases c8 : 0 ≤ x6_1
            · rw [if_pos c8] at H
              have c8b0 : decide (0 ≤ x6_1) = true := decide_eq_true c8
              clear c8
              by_cases c9 : x6_1 < (x5_1.length : Int)
              · rw [if_pos c9] at H
                have c9b0 : decide (x6_1 < (x5_1.length : Int)) = true := decide_eq_true c9
                clear c9
                obtain ⟨y273, hy273⟩ : ∃ y_ : List Int, y_ = (x5_1.set (x6_1 : Int).toNat a1) := ⟨_, rfl⟩
                replace H : (spec_l01Long.l0 k1 a0 a1 y273 (wrap64 (x6_1 + 1))) = some r := by first | (rw [hy273]; with_reducible exact H) | (have H2_ := (Option.bind_some _ _).symm.trans H; rw [hy273]; with_reducible exact H2_) | (have H2_ := (Option.bind_some _ _).symm.trans H; with_reducible exact H2_) | with_reducible exact H | (rw [hy273]; exact H) | exact H
                have Ny273 := Aside0.mk hy273
                clear hy273
                have H' := Aside0.mk H
                clear H
                have p10 : 0 ≤ (x6_1 : Int) := of_decide_eq_true (by first | (with_reducible assumption) | assumption)
                have q10 : (x6_1 : Int) < ((x5_1.length : Int) : Int) := of_decide_eq_true (by first | (with_reducible assumption) | assumption)
                obtain ⟨go10, co10, eo10, gb10, gl10, cl10, HG10⟩ := Kd.R_form HO_5.out (by omega)
                (first | cases eo10 | (injection eo10 with ea_ en_ ec_; (first | subst ea_ | (injection ea_ with ea_; subst ea_)); subst ec_; clear en_))
                have GB10 := Aside0.mk gb10
                have GG10 := Aside0.mk HG10
                clear gb10 gl10 HG10
                obtain ⟨hx10_0, hf10_0⟩ := Kd.R_celln 0 HO_5.out (x6_1 : Int) p10 q10
                replace p10 := eq_true p10
                replace q10 := eq_true q10
                have HP11 := Kd.R_putg HO_5.out (x6_1 : Int) a1
                go_wp2_with (first | ((with_reducible refine gate_store (t := 5) (p := 17) rfl ?_); refine store_event (t := 5) (p := 17) (v := ?vo_w12) (w1 := (wr.setCell ⟨go10, (x6_1 : Int).toNat, none⟩ (.int .u8 a1))) ?hg ?ho ?hn ?hr ?_; (case ho => rfl); (case hg => rfl); (case hn => rfl); (case hr => first | (go_simp; done) | (go_simp; rfl)); intro w12 hw; have hg : wr.grownBy w12 (some go10) := (by rw [hw]; exact HP11.2); have hp_ : Kd.R (Kd.int .u8) 5 w12 w.heap.size (fun _ => True) (.slice (some ⟨go10, 0, none⟩) x5_1.length co10) y273 := (by rw [hw, Ny273.out]; exact HP11.1); clear HP11; have n0_ := Aside0.mk (hp_); have n1_ := Aside0.mk ((by rw [hw]; exact below_set (HB.out) GB10.out : Below w.heap.size w w12)); clear HO_5; clear HB; have HO_5 := n0_; have HB := n1_; clear n0_ n1_; clear hg hw hp_))
                go_roundg k1
                case measure => have := HK1.out; omega
                case rel => exact ⟨(y273), (wrap64 (x6_1 + 1)), (by first | rfl | (simp; done) | (simp [*]; done)), H', ⟨by have := HK1.out; omega⟩, ⟨by (with_reducible repeat (first | apply Kd.R_alloc | apply Kd.R_drewN | apply Kd.R_drew)); exact HO_5.out⟩, ⟨by repeat (first | (with_reducible first | exact HB.out | apply below_alloc | apply pw_below_drewN | apply below_drew1) | exact HB.out)⟩⟩
              · rw [if_neg c9] at H
                exact absurd H (by simp)
            · rw [if_neg c8] at H
              exact absurd H (by simp)
          · rw [if_neg c7] at H
            have c7b0 : decide (x6_1 < a0) = false := decide_eq_false c7
            clear c7
            obtain rfl := Option.some.inj H
            have hcv13 := own_string (P := Try.prog) Try.underlying32 Try.underlying5 Try.underlying9 (Kd.own_of_R HO_5.out)
            go_wp2
            go_ret
            exact ⟨by first | rfl | (simp [errW_none, errW_some] <;> rfl) | (simp [*, errW_none, errW_some] <;> rfl), by repeat (first | (with_reducible first | exact HB.out | apply below_alloc | apply pw_below_drewN | apply below_drew1) | exact HB.out)⟩
    · rw [if_neg c4] at H
      exact absurd H (by simp)
  · rw [if_neg c3] at H
    exact absurd H (by simp)

end Go.Proofs.Ytbjlpmhhcigkdaa.VFnSyncs
