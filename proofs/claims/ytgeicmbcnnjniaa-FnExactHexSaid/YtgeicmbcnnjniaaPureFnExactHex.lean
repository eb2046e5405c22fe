/- The printed form of FnExactHex answers true at every input that its bounds let in; no other conditions. -/
import Derived.Test.YtgeicmbcnnjniaaPFnExactHexx1
import Derived.Test.YtgeicmbcnnjniaaM
namespace Go.Proofs.Ytgeicmbcnnjniaa.PFnExactHex
open Go Go.RowKit Go.Proofs.YtgeicmbcnnjniaaW.PrintWords Go.Proofs.YtgeicmbcnnjniaaW.PrintLast Go.Proofs.YtgeicmbcnnjniaaW.PrintMore
theorem spec_l01Figure_eq (x : Int) (h0 : 0 ≤ x) (h : x < 16) : spec_l01Figure.f x = some (fig x) := by
  unfold spec_l01Figure.f fig
  by_cases c : x < 10
  · rw [if_pos c, if_pos c, w64 (by omega) (by omega), show (48 + x) % 256 = 48 + x by omega]
  · rw [if_neg c, if_neg c, w64 (n := 97 + x) (by omega) (by omega), w64 (by omega) (by omega), show (97 + x - 10) % 256 = 87 + x by omega]
theorem spec_Hex_loop (s : ByteArray) (hs : s.size ≤ 20000) : ∀ (d : Nat) (acc : List Int) (i : Nat), i + d = s.size → acc.length = 2 * i → Ev (fun k => spec_Hex.l0 k s acc (i : Int)) (strOfNums (acc ++ hexL ((bytesOf s).drop i)), true) := by
  intro d
  induction d with
  | zero =>
    intro acc i hi hl
    refine ev_end fun k => ?_
    rw [spec_Hex.l0, if_neg (by omega), List.drop_eq_nil_of_le (by rw [bytesOf_length]; omega)]
    unfold hexL
    rw [List.append_nil]
  | succ d ih =>
    intro acc i hi hl
    have hb := bt_lo s i
    have hb' := bt_hi s i
    rw [bytesOf_drop s i (by omega)]
    have hn := ih (acc ++ [fig (bt s i / 16), fig (bt s i % 16)]) (i + 1) (by omega) (by simp; omega)
    rw [hexL, show acc ++ fig (bt s i / 16) :: fig (bt s i % 16) :: hexL (List.drop (i + 1) (bytesOf s)) = (acc ++ [fig (bt s i / 16), fig (bt s i % 16)]) ++ hexL (List.drop (i + 1) (bytesOf s)) by simp]
    refine ev_go hn fun k => ?_
    rw [spec_Hex.l0, if_pos (by omega), if_pos (by omega), w64 (n := bt s i) (by omega) (by omega), Int.tdiv_eq_ediv_of_nonneg hb, Int.tmod_eq_emod_of_nonneg hb, w64 (n := bt s i / 16) (by omega) (by omega), spec_l01Figure_eq _ (by omega) (by omega), Option.bind_some, spec_l01Figure_eq _ (by omega) (by omega), Option.bind_some, Option.bind_some, if_pos (by simp; omega), w64 (n := (i : Int) + 1) (by omega) (by omega)]
    rfl
theorem spec_Hex_fev (s : ByteArray) : Ev (fun k => spec_Hex.f k s) (hexR s) := by
  unfold hexR
  by_cases c : (s.size : Int) > 20000
  · rw [if_pos c]
    exact ev_some fun k => by unfold spec_Hex.f; rw [if_pos c]
  · rw [if_neg c]
    refine Ev.congr (fun k => ?_) (spec_Hex_loop s (by omega) s.size [] 0 (by omega) rfl)
    unfold spec_Hex.f
    rw [if_neg c]
    rfl
theorem impl_Hex_loop (s : ByteArray) (hs : s.size ≤ 20000) : ∀ (d : Nat) (acc : List Int) (i : Nat), i + d = s.size → acc.length = 2 * i → Ev (fun k => impl_Hex.l0 k s acc (s.size : Int) (i : Int)) (strOfNums (acc ++ hexL ((bytesOf s).drop i)), true) := by
  intro d
  induction d with
  | zero =>
    intro acc i hi hl
    refine ev_end fun k => ?_
    rw [impl_Hex.l0, if_neg (by omega), List.drop_eq_nil_of_le (by rw [bytesOf_length]; omega)]
    unfold hexL
    rw [List.append_nil]
  | succ d ih =>
    intro acc i hi hl
    have hb := bt_lo s i
    have hb' := bt_hi s i
    rw [bytesOf_drop s i (by omega)]
    have hn := ih (acc ++ [fig (bt s i / 16), fig (bt s i % 16)]) (i + 1) (by omega) (by simp; omega)
    rw [hexL, show acc ++ fig (bt s i / 16) :: fig (bt s i % 16) :: hexL (List.drop (i + 1) (bytesOf s)) = (acc ++ [fig (bt s i / 16), fig (bt s i % 16)]) ++ hexL (List.drop (i + 1) (bytesOf s)) by simp]
    refine ev_go hn fun k => ?_
    rw [impl_Hex.l0, if_pos (by omega), if_pos (by omega), if_pos (by omega), Go.u8_and15 _ hb (by omega), if_pos (by omega), if_pos (by omega), if_pos (by omega), if_pos (by omega), bt_figs _ (by omega) (by omega), bt_figs _ (by omega) (by omega), Option.bind_some, if_pos (by simp; omega), w64 (n := (i : Int) + 1) (by omega) (by omega)]
    rfl
theorem impl_Hex_fev (s : ByteArray) : Ev (fun k => impl_Hex.f k s) (hexR s) := by
  unfold hexR
  by_cases c : (s.size : Int) > 20000
  · rw [if_pos c]
    exact ev_some fun k => by unfold impl_Hex.f; rw [if_pos c]
  · rw [if_neg c]
    refine Ev.congr (fun k => ?_) (impl_Hex_loop s (by omega) s.size [] 0 (by omega) rfl)
    unfold impl_Hex.f
    rw [if_neg c]
    rfl
end Go.Proofs.Ytgeicmbcnnjniaa.PFnExactHex
namespace Go.Proofs.Ytgeicmbcnnjniaa.Pure
open Go.Proofs.Ytgeicmbcnnjniaa.PFnExactHex
open Go Go.RowKit Go.Proofs.YtgeicmbcnnjniaaW.PrintWords Go.Proofs.YtgeicmbcnnjniaaW.PrintLast Go.Proofs.YtgeicmbcnnjniaaW.PrintMore
theorem FnExactHex : laws_FnExactHex.Pure := by
  intro s _
  obtain ⟨k, h1, h2⟩ := ev_pair (spec_Hex_fev s) (impl_Hex_fev s)
  refine ⟨k, ?_⟩
  unfold laws_FnExactHex.f
  rw [h1, h2]
  simp
end Go.Proofs.Ytgeicmbcnnjniaa.Pure
