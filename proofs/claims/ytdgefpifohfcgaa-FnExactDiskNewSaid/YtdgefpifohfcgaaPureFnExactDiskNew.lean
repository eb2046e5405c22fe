/- The printed form of FnExactDiskNew answers true at every input that its bounds let in; no other conditions. -/
import Derived.Test.YtdgefpifohfcgaaPFnExactDiskNewx4
import Derived.Test.YtdgefpifohfcgaaM
namespace Go.Proofs.Ytdgefpifohfcgaa.PFnExactDiskNew
open Go Go.RowKit Go.Proofs.YtdgefpifohfcgaaW.PrintWords Go.Proofs.YtdgefpifohfcgaaW.PrintLast Go.Proofs.YtdgefpifohfcgaaW.PrintMore
/-- The text that was written last to a page, among the first n that are late. -/
def rpL (page : Int) (base : ByteArray) (late : List S113) : Nat → ByteArray
  | 0 => base
  | n + 1 => if (rd_T113 late (n : Int)).f0 = page then (rd_T113 late (n : Int)).f1 else rpL page base late n
def rpR (pages : List ByteArray) (late : List S113) (page : Int) : ByteArray :=
  if 0 ≤ page ∧ page < (pages.length : Int) then rpL page (rdOf ByteArray.empty pages page) late late.length else ⟨#[]⟩
def marksPut (k : Int) : Nat → List S113
  | 0 => []
  | n + 1 => ⟨k, mtR (k + 1)⟩ :: marksPut (k + 2) n
theorem marksPut_length (n : Nat) : ∀ k, (marksPut k n).length = n := by
  induction n with
  | zero => intro k; rfl
  | succ n ih => intro k; unfold marksPut; rw [List.length_cons, ih]
def dnR (n : Int) : List ByteArray × List S113 × Bool := if 4 ≤ n ∧ n ≤ 40 then (List.replicate n.toNat ⟨#[]⟩, [], true) else ([], [], false)
theorem dnR_lengths (n : Int) : (dnR n).1.length ≤ 40 ∧ (dnR n).2.1.length = 0 := by
  unfold dnR
  split <;> simp
  omega
theorem spec_DiskNew_eq (n : Int) : spec_DiskNew.f n = some (dnR n) := by
  unfold spec_DiskNew.f spec_l01In.f dnR
  by_cases c : 4 ≤ n ∧ n ≤ 40
  · rw [if_pos c, if_pos c.1, Option.bind_some, decide_eq_true c.2, if_pos rfl, if_pos (by omega), if_pos (by omega)]
  · rw [if_neg c]
    by_cases c1 : n ≥ 4
    · rw [if_pos c1, Option.bind_some, decide_eq_false (by omega), if_neg (by decide)]
    · rw [if_neg c1, Option.bind_some, if_neg (by decide)]
theorem impl_DiskNew_eq (n : Int) : impl_DiskNew.f n = some (dnR n) := by
  unfold impl_DiskNew.f impl_in.f dnR
  by_cases c : 4 ≤ n ∧ n ≤ 40
  · rw [if_pos c, if_pos c.1, Option.bind_some, decide_eq_true c.2, if_pos rfl, if_pos (by omega), if_pos (by omega)]
  · rw [if_neg c]
    by_cases c1 : n ≥ 4
    · rw [if_pos c1, Option.bind_some, decide_eq_false (by omega), if_neg (by decide)]
    · rw [if_neg c1, Option.bind_some, if_neg (by decide)]
theorem laws_eqStringS_loop (a : List ByteArray) (hb : a.length ≤ 9223372036854775807) : ∀ (d i : Nat), i + d = a.length → Ev (fun k => laws_eqStringS.l0 k a a (i : Int)) true := by
  intro d
  induction d with
  | zero =>
    intro i hi
    refine ev_end fun k => ?_
    rw [laws_eqStringS.l0, if_neg (by omega)]
  | succ d ih =>
    intro i hi
    refine ev_go (ih (i + 1) (by omega)) fun k => ?_
    rw [laws_eqStringS.l0, if_pos (by omega), if_pos (by omega), if_pos (by omega), if_pos rfl, w64 (by omega) (by omega)]
    rfl
theorem laws_eqStringS_same (a : List ByteArray) (hb : a.length ≤ 9223372036854775807) : Ev (fun k => laws_eqStringS.f k a a) true := by
  refine Ev.congr (fun k => ?_) (laws_eqStringS_loop a hb a.length 0 (by omega))
  unfold laws_eqStringS.f
  rw [if_pos rfl]
  rfl
theorem laws_eqPut_same (a : Int) (b : ByteArray) : laws_eqPut.f a b a b = some true := by
  unfold laws_eqPut.f
  rw [if_pos rfl, if_pos rfl]
theorem laws_eqPutS_loop (a : List S113) (hb : a.length ≤ 9223372036854775807) : ∀ (d i : Nat), i + d = a.length → Ev (fun k => laws_eqPutS.l0 k a a (i : Int)) true := by
  intro d
  induction d with
  | zero =>
    intro i hi
    refine ev_end fun k => ?_
    rw [laws_eqPutS.l0, if_neg (by omega)]
  | succ d ih =>
    intro i hi
    refine ev_go (ih (i + 1) (by omega)) fun k => ?_
    rw [laws_eqPutS.l0, if_pos (by omega), if_pos (by omega), if_pos (by omega), laws_eqPut_same, Option.bind_some, if_pos rfl, w64 (by omega) (by omega)]
    rfl
theorem laws_eqPutS_same (a : List S113) (hb : a.length ≤ 9223372036854775807) : Ev (fun k => laws_eqPutS.f k a a) true := by
  refine Ev.congr (fun k => ?_) (laws_eqPutS_loop a hb a.length 0 (by omega))
  unfold laws_eqPutS.f
  rw [if_pos rfl]
  rfl
theorem laws_eqDisk_same (a : List ByteArray) (b : List S113) (ha : a.length ≤ 9223372036854775807) (hb : b.length ≤ 9223372036854775807) : Ev (fun k => laws_eqDisk.f k a b a b) true :=
  ev_call (laws_eqStringS_same a ha) (ev_call (laws_eqPutS_same b hb) (ev_some fun _ => by rw [if_pos rfl]) (fun _ => if_pos rfl)) (fun _ => rfl)
theorem laws_markText_loop : ∀ (n : Nat) (acc : ByteArray), acc.size + n ≤ 4611686018427387904 → Ev (fun k => laws_markText.l0 k (n : Int) acc) (mtB n acc) := by
  intro n
  induction n using Nat.strongRecOn with
  | ind n ih =>
    intro acc h
    by_cases c : n = 0
    · subst c
      rw [mtB_zero]
      refine ev_end fun k => ?_
      rw [laws_markText.l0, if_neg (by omega), if_pos (by omega)]
    · rw [mtB_pos c]
      have hsz : (strOfNums [(48 + (n : Int) % 10) % 256]).size = 1 := by rw [strOfNums_size]; rfl
      refine ev_go (ih (n / 10) (by omega) (strOfNums [(48 + (n : Int) % 10) % 256] ++ acc) (by rw [ByteArray.size_append]; omega)) fun k => ?_
      have e1 : wrap64 (Int.tdiv (n : Int) 10) = ((n / 10 : Nat) : Int) := by rw [Int.tdiv_eq_ediv_of_nonneg (by omega), w64 (by omega) (by omega)]; omega
      have e2 : wrap64 (48 + Int.tmod (n : Int) 10) = 48 + (n : Int) % 10 := by rw [Int.tmod_eq_emod_of_nonneg (by omega), w64 (by omega) (by omega)]
      rw [laws_markText.l0, if_pos (by omega), Option.bind_some, e1, e2, if_pos (by rw [hsz]; omega)]
theorem laws_markText_fev (k : Int) (h : k ≤ 4611686018427387904) : Ev (fun f => laws_markText.f f k) (mtR k) := by
  unfold mtR
  by_cases c : k ≤ 0
  · rw [if_pos c]
    exact ev_some fun f => by unfold laws_markText.f; rw [if_pos c]
  · rw [if_neg c]
    have := laws_markText_loop k.toNat ⟨#[]⟩ (by have : (⟨#[]⟩ : ByteArray).size = 0 := rfl; omega)
    rw [Int.toNat_of_nonneg (by omega)] at this
    refine Ev.congr (fun f => ?_) this
    unfold laws_markText.f
    rw [if_neg c]
theorem laws_markStringS_loop : ∀ (d i : Nat) (pre rest : List ByteArray) (k : Int), pre.length = i → rest.length = d → i + d ≤ 1048576 → 0 ≤ k → k + d ≤ 4611686018427387904 → Ev (fun f => laws_markStringS.l0 f (pre ++ rest) k (i : Int)) (k + d, pre ++ marksS k d) := by
  intro d
  induction d with
  | zero =>
    intro i pre rest k hp hr hl h0 h1
    refine ev_end fun f => ?_
    rw [List.eq_nil_of_length_eq_zero hr, laws_markStringS.l0, if_neg (by rw [List.append_nil]; omega)]
    simp [marksS]
  | succ d ih =>
    intro i pre rest k hp hr hl h0 h1
    obtain ⟨x, t, rfl⟩ : ∃ x t, rest = x :: t := by
      cases rest with
      | nil => simp at hr
      | cons x t => exact ⟨x, t, rfl⟩
    have hn := ih (i + 1) (pre ++ [mtR k]) t (k + 1) (by simp; omega) (by simp at hr; omega) (by omega) (by omega) (by omega)
    rw [List.append_assoc, List.singleton_append, List.append_assoc, List.singleton_append, show k + 1 + (d : Int) = k + ((d + 1 : Nat) : Int) by omega] at hn
    refine ev_go_call (laws_markText_fev k (by omega)) (c := fun f t125 => (if (0 : Int) ≤ (i : Int) then (laws_markStringS.l0 f ((pre ++ x :: t).set ((i : Int)).toNat t125) (wrap64 (k + 1)) (wrap64 ((i : Int) + 1))) else (none))) ?_ (fun f => ?_)
    · refine Ev.congr (fun f => ?_) hn
      rw [if_pos (by omega), Int.toNat_natCast, set_mid pre t x _ i hp, w64 (by omega) (by omega), w64 (by omega) (by omega)]
      rfl
    · rw [laws_markStringS.l0, if_pos (by rw [List.length_append, List.length_cons]; omega)]
theorem laws_markStringS_fev (l : List ByteArray) (k : Int) (hl : l.length ≤ 1048576) (h0 : 0 ≤ k) (h1 : k ≤ 1099511627776) : Ev (fun f => laws_markStringS.f f l k) (k + l.length, marksS k l.length) :=
  laws_markStringS_loop l.length 0 [] l k rfl rfl (by omega) h0 (by omega)
theorem laws_markPutS_loop : ∀ (d i : Nat) (pre rest : List S113) (k : Int), pre.length = i → rest.length = d → i + d ≤ 1048576 → 0 ≤ k → k + 2 * d ≤ 4611686018427387904 → Ev (fun f => laws_markPutS.l0 f (pre ++ rest) k (i : Int)) (k + 2 * d, pre ++ marksPut k d) := by
  intro d
  induction d with
  | zero =>
    intro i pre rest k hp hr hl h0 h1
    refine ev_end fun f => ?_
    rw [List.eq_nil_of_length_eq_zero hr, laws_markPutS.l0, if_neg (by rw [List.append_nil]; omega)]
    simp [marksPut]
  | succ d ih =>
    intro i pre rest k hp hr hl h0 h1
    obtain ⟨x, t, rfl⟩ : ∃ x t, rest = x :: t := by
      cases rest with
      | nil => simp at hr
      | cons x t => exact ⟨x, t, rfl⟩
    have hn := ih (i + 1) (pre ++ [⟨k, mtR (k + 1)⟩]) t (k + 2) (by simp; omega) (by simp at hr; omega) (by omega) (by omega) (by omega)
    rw [List.append_assoc, List.singleton_append, List.append_assoc, List.singleton_append, show k + 2 + 2 * (d : Int) = k + 2 * ((d + 1 : Nat) : Int) by omega] at hn
    obtain ⟨K1, e1⟩ := laws_markText_fev (k + 1) (by omega)
    obtain ⟨K2, e2⟩ := hn
    dsimp only at e1 e2
    refine ev_succ ⟨K1 + K2, fun f hf => ?_⟩
    rw [laws_markPutS.l0, if_pos (by rw [List.length_append, List.length_cons]; omega), if_pos (by omega), Option.bind_some, w64 (n := k + 1) (by omega) (by omega), e1 f (by omega), Option.bind_some, Int.toNat_natCast, set_mid pre t x _ i hp, set_mid pre t _ _ i hp, w64 (n := k + 1 + 1) (by omega) (by omega), w64 (n := (i : Int) + 1) (by omega) (by omega)]
    have e3 : (rd_T113 (pre ++ (⟨k, (rd_T113 (pre ++ x :: t) (i : Int)).f1⟩ : S113) :: t) (i : Int)).f0 = k := congrArg S113.f0 (rdOf_mid z113 pre t _ i hp)
    rw [e3, show k + 1 + 1 = k + 2 by omega]
    exact e2 f (by omega)
theorem laws_markPutS_fev (l : List S113) (k : Int) (hl : l.length ≤ 1048576) (h0 : 0 ≤ k) (h1 : k ≤ 1099511627776) : Ev (fun f => laws_markPutS.f f l k) (k + 2 * l.length, marksPut k l.length) :=
  laws_markPutS_loop l.length 0 [] l k rfl rfl (by omega) h0 (by omega)
theorem laws_markDisk_fev (a : List ByteArray) (b : List S113) (k : Int) (ha : a.length ≤ 1048576) (hb : b.length ≤ 1048576) (h0 : 0 ≤ k) (h1 : k ≤ 1073741824) : Ev (fun f => laws_markDisk.f f a b k) (k + a.length + 2 * b.length, marksS k a.length, marksPut (k + a.length) b.length) := by
  obtain ⟨K1, e1⟩ := laws_markStringS_fev a k ha h0 (by omega)
  obtain ⟨K2, e2⟩ := laws_markPutS_fev b (k + a.length) hb (by omega) (by omega)
  dsimp only at e1 e2
  refine ⟨K1 + K2, fun f hf => ?_⟩
  dsimp only
  unfold laws_markDisk.f
  rw [e1 f (by omega), Option.bind_some, e2 f (by omega), Option.bind_some]
theorem laws_heldStringS_loop (l : List ByteArray) (hl : l.length ≤ 1048576) : ∀ (d i : Nat) (k : Int), i + d = l.length → l.drop i = marksS k d → 0 ≤ k → k + d ≤ 4611686018427387904 → Ev (fun f => laws_heldStringS.l0 f l k (i : Int)) (k + d) := by
  intro d
  induction d with
  | zero =>
    intro i k hi hd h0 h1
    refine ev_end fun f => ?_
    rw [laws_heldStringS.l0, if_neg (by omega)]
    simp
  | succ d ih =>
    intro i k hi hd h0 h1
    rw [drop_rdOf ByteArray.empty l i (by omega)] at hd
    unfold marksS at hd
    obtain ⟨hx, ht⟩ := List.cons.inj hd
    have hn := ih (i + 1) (k + 1) (by omega) ht (by omega) (by omega)
    rw [show k + 1 + (d : Int) = k + ((d + 1 : Nat) : Int) by omega] at hn
    refine ev_go_call (laws_markText_fev k (by omega)) (c := fun f t136 => (if (rdOf ByteArray.empty l (i : Int)).toList = t136.toList then (laws_heldStringS.l0 f l (wrap64 (k + 1)) (wrap64 ((i : Int) + 1))) else (some (-1)))) ?_ (fun f => ?_)
    · refine Ev.congr (fun f => ?_) hn
      rw [if_pos (by rw [hx]), w64 (by omega) (by omega), w64 (by omega) (by omega)]
      rfl
    · rw [laws_heldStringS.l0, if_pos (by omega), if_pos (by omega)]
theorem laws_heldStringS_fev (n : Nat) (k : Int) (hn : n ≤ 1048576) (h0 : 0 ≤ k) (h1 : k ≤ 1099511627776) : Ev (fun f => laws_heldStringS.f f (marksS k n) k) (k + n) :=
  laws_heldStringS_loop (marksS k n) (by rw [marksS_length]; exact hn) n 0 k (by rw [marksS_length]; omega) rfl h0 (by omega)
theorem laws_heldPutS_loop (l : List S113) (hl : l.length ≤ 1048576) : ∀ (d i : Nat) (k : Int), i + d = l.length → l.drop i = marksPut k d → 0 ≤ k → k + 2 * d ≤ 4611686018427387904 → Ev (fun f => laws_heldPutS.l0 f l k (i : Int)) (k + 2 * d) := by
  intro d
  induction d with
  | zero =>
    intro i k hi hd h0 h1
    refine ev_end fun f => ?_
    rw [laws_heldPutS.l0, if_neg (by omega)]
    simp
  | succ d ih =>
    intro i k hi hd h0 h1
    rw [drop_rdOf z113 l i (by omega)] at hd
    unfold marksPut at hd
    obtain ⟨hx, ht⟩ := List.cons.inj hd
    change rd_T113 l (i : Int) = _ at hx
    have hn := ih (i + 1) (k + 2) (by omega) ht (by omega) (by omega)
    rw [show k + 2 + 2 * (d : Int) = k + 2 * ((d + 1 : Nat) : Int) by omega] at hn
    obtain ⟨K1, e1⟩ := laws_markText_fev (k + 1) (by omega)
    obtain ⟨K2, e2⟩ := hn
    dsimp only at e1 e2
    refine ev_succ ⟨K1 + K2, fun f hf => ?_⟩
    rw [laws_heldPutS.l0, if_pos (by omega), if_pos (by omega), hx, if_pos rfl, w64 (n := k + 1) (by omega) (by omega), e1 f (by omega), Option.bind_some, if_pos rfl, w64 (n := k + 1 + 1) (by omega) (by omega), w64 (n := (i : Int) + 1) (by omega) (by omega), show k + 1 + 1 = k + 2 by omega]
    exact e2 f (by omega)
theorem laws_heldPutS_fev (n : Nat) (k : Int) (hn : n ≤ 1048576) (h0 : 0 ≤ k) (h1 : k ≤ 1099511627776) : Ev (fun f => laws_heldPutS.f f (marksPut k n) k) (k + 2 * n) :=
  laws_heldPutS_loop (marksPut k n) (by rw [marksPut_length]; exact hn) n 0 k (by rw [marksPut_length]; omega) rfl h0 (by omega)
theorem laws_heldDisk_fev (m n : Nat) (k : Int) (hm : m ≤ 1048576) (hn : n ≤ 1048576) (h0 : 0 ≤ k) (h1 : k ≤ 1073741824) : Ev (fun f => laws_heldDisk.f f (marksS k m) (marksPut (k + m) n) k) (k + m + 2 * n) := by
  obtain ⟨K1, e1⟩ := laws_heldStringS_fev m k hm h0 (by omega)
  obtain ⟨K2, e2⟩ := laws_heldPutS_fev n (k + m) hn (by omega) (by omega)
  dsimp only at e1 e2
  refine ⟨K1 + K2, fun f hf => ?_⟩
  dsimp only
  unfold laws_heldDisk.f
  rw [e1 f (by omega), Option.bind_some, if_neg (by omega), e2 f (by omega), Option.bind_some, if_neg (by omega)]
end Go.Proofs.Ytdgefpifohfcgaa.PFnExactDiskNew
namespace Go.Proofs.Ytdgefpifohfcgaa.Pure
open Go.Proofs.Ytdgefpifohfcgaa.PFnExactDiskNew
open Go Go.RowKit Go.Proofs.YtdgefpifohfcgaaW.PrintWords Go.Proofs.YtdgefpifohfcgaaW.PrintLast Go.Proofs.YtdgefpifohfcgaaW.PrintMore
theorem FnExactDiskNew : laws_FnExactDiskNew.Pure := by
  intro n _
  have hl := dnR_lengths n
  obtain ⟨K1, e1⟩ := laws_eqDisk_same (dnR n).1 (dnR n).2.1 (by omega) (by omega)
  obtain ⟨K2, e2⟩ := laws_markDisk_fev (dnR n).1 (dnR n).2.1 1 (by omega) (by omega) (by omega) (by omega)
  obtain ⟨K3, e3⟩ := laws_heldDisk_fev (dnR n).1.length (dnR n).2.1.length 1 (by omega) (by omega) (by omega) (by omega)
  dsimp only at e1 e2 e3
  refine ⟨K1 + K2 + K3 + 2, ?_⟩
  unfold laws_FnExactDiskNew.f
  rw [spec_DiskNew_eq, Option.bind_some, impl_DiskNew_eq, Option.bind_some, e1 _ (by omega), Option.bind_some, if_pos rfl, bne_self_eq_false, laws_FnExactDiskNew.j0, if_neg (by decide), e2 _ (by omega), Option.bind_some, e3 _ (by omega), Option.bind_some, if_neg (by omega), if_pos rfl, impl_DiskNew_eq, Option.bind_some, e1 _ (by omega), Option.bind_some, if_pos rfl, bne_self_eq_false, laws_FnExactDiskNew.j1, if_neg (by decide), e3 _ (by omega), Option.bind_some, if_neg (by omega), if_pos rfl]
end Go.Proofs.Ytdgefpifohfcgaa.Pure
