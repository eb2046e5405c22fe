/- The printed form of FnExactReadPage answers true at every input that its bounds let in; no other conditions. -/
import Derived.Test.YtdgefpifohfcgaaVFnExactReadPagex3
import Derived.Test.YtdgefpifohfcgaaM
namespace Go.Proofs.Ytdgefpifohfcgaa.VFnExactReadPage
set_option linter.unusedVariables false
set_option linter.unusedSimpArgs false
open Go Go.RowKit Go.Proofs.YtdgefpifohfcgaaW.PrintWords Go.Proofs.YtdgefpifohfcgaaW.PrintLast Go.Proofs.YtdgefpifohfcgaaW.PrintMore
/-- The text that was written last to a page, among the first n that are late. -/
def rpL (page : Int) (base : ByteArray) (late : List S113) : Nat → ByteArray
  | 0 => base
  | n + 1 => if (rd_T113 late (n : Int)).f0 = page then (rd_T113 late (n : Int)).f1 else rpL page base late n
def rpR (pages : List ByteArray) (late : List S113) (page : Int) : ByteArray :=
  if 0 ≤ page ∧ page < (pages.length : Int) then rpL page (rdOf ByteArray.empty pages page) late late.length else ⟨#[]⟩
def marksPut (k : Int) : Nat → List S113
  | 0 => []
  | n + 1 => ⟨k, mtR (k + 1)⟩ :: marksPut (k + 2) n
theorem marksPut_length (n : Nat) : ∀ k, (marksPut k n).length = n := by
  induction n with
  | zero => intro k; rfl
  | succ n ih => intro k; unfold marksPut; rw [List.length_cons, ih]
theorem laws_eqStringS_loop (a : List ByteArray) (hb : a.length ≤ 9223372036854775807) : ∀ (d i : Nat), i + d = a.length → Ev (fun k => laws_eqStringS.l0 k a a (i : Int)) true := by
  intro d
  induction d with
  | zero =>
    intro i hi
    refine ev_end fun k => ?_
    rw [laws_eqStringS.l0, if_neg (by omega)]
  | succ d ih =>
    intro i hi
    refine ev_go (ih (i + 1) (by omega)) fun k => ?_
    rw [laws_eqStringS.l0, if_pos (by omega), if_pos (by omega), if_pos (by omega), if_pos rfl, w64 (by omega) (by omega)]
    rfl
theorem laws_eqStringS_same (a : List ByteArray) (hb : a.length ≤ 9223372036854775807) : Ev (fun k => laws_eqStringS.f k a a) true := by
  refine Ev.congr (fun k => ?_) (laws_eqStringS_loop a hb a.length 0 (by omega))
  unfold laws_eqStringS.f
  rw [if_pos rfl]
  rfl
theorem laws_eqPut_same (a : Int) (b : ByteArray) : laws_eqPut.f a b a b = some true := by
  unfold laws_eqPut.f
  rw [if_pos rfl, if_pos rfl]
theorem laws_eqPutS_loop (a : List S113) (hb : a.length ≤ 9223372036854775807) : ∀ (d i : Nat), i + d = a.length → Ev (fun k => laws_eqPutS.l0 k a a (i : Int)) true := by
  intro d
  induction d with
  | zero =>
    intro i hi
    refine ev_end fun k => ?_
    rw [laws_eqPutS.l0, if_neg (by omega)]
  | succ d ih =>
    intro i hi
    refine ev_go (ih (i + 1) (by omega)) fun k => ?_
    rw [laws_eqPutS.l0, if_pos (by omega), if_pos (by omega), if_pos (by omega), laws_eqPut_same, Option.bind_some, if_pos rfl, w64 (by omega) (by omega)]
    rfl
theorem laws_eqPutS_same (a : List S113) (hb : a.length ≤ 9223372036854775807) : Ev (fun k => laws_eqPutS.f k a a) true := by
  refine Ev.congr (fun k => ?_) (laws_eqPutS_loop a hb a.length 0 (by omega))
  unfold laws_eqPutS.f
  rw [if_pos rfl]
  rfl
theorem laws_eqDisk_same (a : List ByteArray) (b : List S113) (ha : a.length ≤ 9223372036854775807) (hb : b.length ≤ 9223372036854775807) : Ev (fun k => laws_eqDisk.f k a b a b) true :=
  ev_call (laws_eqStringS_same a ha) (ev_call (laws_eqPutS_same b hb) (ev_some fun _ => by rw [if_pos rfl]) (fun _ => if_pos rfl)) (fun _ => rfl)
theorem laws_szStringS_loop (l : List ByteArray) (hb : l.length ≤ 9223372036854775807) (hw : ∀ x ∈ l, 0 ≤ bwt x ∧ bwt x ≤ 9223372036854775807) : ∀ (d i : Nat) (left : Int), i + d = l.length → 0 ≤ left → left ≤ 9223372036854775807 → Ev (fun k => laws_szStringS.l0 k l left (i : Int)) (szL bwt (l.drop i) left) := by
  intro d
  induction d with
  | zero =>
    intro i left hi h0 h1
    refine ev_end fun k => ?_
    rw [laws_szStringS.l0, if_neg (by omega), List.drop_eq_nil_of_le (by omega)]
    rfl
  | succ d ih =>
    intro i left hi h0 h1
    have hx := hw _ (rdOf_mem ByteArray.empty l i (by omega))
    rw [drop_rdOf ByteArray.empty l i (by omega)]
    unfold szL
    have hu : bwt (rdOf ByteArray.empty l (i : Int)) = ((rdOf ByteArray.empty l (i : Int)).size : Int) := rfl
    by_cases c : left - bwt (rdOf ByteArray.empty l (i : Int)) < 0
    · rw [if_pos c]
      refine ev_end fun k => ?_
      rw [hu] at c hx
      rw [laws_szStringS.l0, if_pos (by omega), if_pos (by omega), w64 (by omega) (by omega), if_pos c]
    · rw [if_neg c]
      rw [hu] at c hx ⊢
      refine ev_go (ih (i + 1) _ (by omega) (by omega) (by omega)) fun k => ?_
      rw [laws_szStringS.l0, if_pos (by omega), if_pos (by omega), w64 (n := left - _) (by omega) (by omega), if_neg c, w64 (n := (i : Int) + 1) (by omega) (by omega)]
      rfl
theorem laws_szStringS_fev (l : List ByteArray) (hb : l.length ≤ 9223372036854775807) (hw : ∀ x ∈ l, 0 ≤ bwt x ∧ bwt x ≤ 9223372036854775807) (left : Int) (h0 : 0 ≤ left) (h1 : left ≤ 9223372036854775807) : Ev (fun k => laws_szStringS.f k l left) (szR bwt l left) := by
  unfold szR
  by_cases c : left - (l.length : Int) < 0
  · rw [if_pos c]
    refine ev_some fun k => ?_
    unfold laws_szStringS.f
    rw [w64 (by omega) (by omega), if_pos c]
  · rw [if_neg c]
    refine Ev.congr (fun k => ?_) (laws_szStringS_loop l hb hw l.length 0 (left - (l.length : Int)) (by omega) (by omega) (by omega))
    unfold laws_szStringS.f
    rw [w64 (by omega) (by omega), if_neg c]
    rfl
theorem laws_szPut_eq (a : Int) (b : ByteArray) (left : Int) (h0 : 0 ≤ left) (h1 : left ≤ 9223372036854775807) (hs : (b.size : Int) ≤ 9223372036854775807) : laws_szPut.f a b left = some (if left - (b.size : Int) < 0 then -1 else left - (b.size : Int)) := by
  unfold laws_szPut.f
  rw [w64 (by omega) (by omega)]
  split <;> rfl
def wPut (x : S129) : Int := (x.f1.size : Int)
theorem laws_szPutS_loop (l : List S129) (hb : l.length ≤ 9223372036854775807) (hw : ∀ x ∈ l, 0 ≤ wPut x ∧ wPut x ≤ 9223372036854775807) : ∀ (d i : Nat) (left : Int), i + d = l.length → 0 ≤ left → left ≤ 9223372036854775807 → Ev (fun k => laws_szPutS.l0 k l left (i : Int)) (szL wPut (l.drop i) left) := by
  intro d
  induction d with
  | zero =>
    intro i left hi h0 h1
    refine ev_end fun k => ?_
    rw [laws_szPutS.l0, if_neg (by omega), List.drop_eq_nil_of_le (by omega)]
    rfl
  | succ d ih =>
    intro i left hi h0 h1
    have hx := hw _ (rdOf_mem z129 l i (by omega))
    rw [drop_rdOf z129 l i (by omega)]
    unfold szL
    have hu : wPut (rdOf z129 l (i : Int)) = ((rd_T129 l (i : Int)).f1.size : Int) := rfl
    by_cases c : left - wPut (rdOf z129 l (i : Int)) < 0
    · rw [if_pos c]
      refine ev_end fun k => ?_
      rw [hu] at c hx
      rw [laws_szPutS.l0, if_pos (by omega), if_pos (by omega), laws_szPut_eq _ _ _ h0 h1 hx.2, Option.bind_some, if_pos c, if_pos (by decide)]
    · rw [if_neg c]
      rw [hu] at c hx ⊢
      refine ev_go (ih (i + 1) _ (by omega) (by omega) (by omega)) fun k => ?_
      rw [laws_szPutS.l0, if_pos (by omega), if_pos (by omega), laws_szPut_eq _ _ _ h0 h1 hx.2, Option.bind_some, if_neg c, if_neg c, w64 (n := (i : Int) + 1) (by omega) (by omega)]
      rfl
theorem laws_szPutS_fev (l : List S129) (hb : l.length ≤ 9223372036854775807) (hw : ∀ x ∈ l, 0 ≤ wPut x ∧ wPut x ≤ 9223372036854775807) (left : Int) (h0 : 0 ≤ left) (h1 : left ≤ 9223372036854775807) : Ev (fun k => laws_szPutS.f k l left) (szR wPut l left) := by
  unfold szR
  by_cases c : left - (l.length : Int) < 0
  · rw [if_pos c]
    refine ev_some fun k => ?_
    unfold laws_szPutS.f
    rw [w64 (by omega) (by omega), if_pos c]
  · rw [if_neg c]
    refine Ev.congr (fun k => ?_) (laws_szPutS_loop l hb hw l.length 0 (left - (l.length : Int)) (by omega) (by omega) (by omega))
    unfold laws_szPutS.f
    rw [w64 (by omega) (by omega), if_neg c]
    rfl
def szDiskR (a : List ByteArray) (b : List S129) (left : Int) : Int := if szR bwt a left < 0 then -1 else if szR wPut b (szR bwt a left) < 0 then -1 else szR wPut b (szR bwt a left)
theorem laws_szDisk_fev (a : List ByteArray) (b : List S129) (ha : a.length ≤ 9223372036854775807) (hb : b.length ≤ 9223372036854775807) (ha' : ∀ x ∈ a, x.size ≤ 9223372036854775807) (hb' : ∀ x ∈ b, x.f1.size ≤ 9223372036854775807) (left : Int) (h0 : 0 ≤ left) (h1 : left ≤ 9223372036854775807) : Ev (fun k => laws_szDisk.f k a b left) (szDiskR a b left) := by
  have w1 : ∀ x ∈ a, 0 ≤ bwt x ∧ bwt x ≤ 9223372036854775807 := fun x hx => ⟨bwt_nonneg x, by have := ha' x hx; unfold bwt; omega⟩
  have w2 : ∀ x ∈ b, 0 ≤ wPut x ∧ wPut x ≤ 9223372036854775807 := fun x hx => ⟨Int.natCast_nonneg _, Int.ofNat_le.2 (hb' x hx)⟩
  unfold szDiskR
  refine ev_call (laws_szStringS_fev a ha w1 left h0 h1) ?_ (fun k => rfl)
  by_cases c : szR bwt a left < 0
  · rw [if_pos c]
    exact ev_some fun k => by rw [if_pos c]
  · rw [if_neg c]
    have hle := szR_le bwt a (fun x hx => (w1 x hx).1) left (by omega)
    refine ev_call (laws_szPutS_fev b hb w2 _ (by omega) (by omega)) ?_ (fun k => if_neg c)
    refine ev_some fun k => ?_
    split <;> rfl
theorem szDiskR_tells (a : List ByteArray) (b : List S129) (left : Int) (h : 0 ≤ szDiskR a b left) : (a.length : Int) + sumW bwt a + (b.length : Int) + sumW wPut b ≤ left ∧ 0 ≤ sumW bwt a ∧ 0 ≤ sumW wPut b := by
  unfold szDiskR at h
  by_cases c : szR bwt a left < 0
  · rw [if_pos c] at h; omega
  · rw [if_neg c] at h
    have h1 := szR_tells bwt a (fun x _ => bwt_nonneg x) left (by omega)
    by_cases c2 : szR wPut b (szR bwt a left) < 0
    · rw [if_pos c2] at h; omega
    · rw [if_neg c2] at h
      have h2 := szR_tells wPut b (fun x _ => Int.natCast_nonneg _) _ (by omega : 0 ≤ szR wPut b (szR bwt a left))
      omega
theorem spec_ReadPage_loop (pages : List ByteArray) (late : List S113) (page : Int) (hp : 0 ≤ page ∧ page < (pages.length : Int)) (hl : late.length ≤ 1048576) : ∀ n : Nat, n ≤ late.length → Ev (fun k => spec_ReadPage.l0 k page ((n : Int) - 1) pages late) (rpL page (rdOf ByteArray.empty pages page) late n) := by
  intro n
  induction n with
  | zero =>
    intro hn
    refine ev_end fun k => ?_
    rw [spec_ReadPage.l0, if_neg (by omega), if_pos hp.1, if_pos hp.2]
    rfl
  | succ n ih =>
    intro hn
    unfold rpL
    rw [show (((n + 1 : Nat) : Int) - 1) = (n : Int) by omega]
    by_cases c : (rd_T113 late (n : Int)).f0 = page
    · rw [if_pos c]
      refine ev_end fun k => ?_
      rw [spec_ReadPage.l0, if_pos (by omega), if_pos (by omega), if_pos (by omega), if_pos c]
    · rw [if_neg c]
      refine ev_go (ih (by omega)) fun k => ?_
      rw [spec_ReadPage.l0, if_pos (by omega), if_pos (by omega), if_pos (by omega), if_neg c, w64 (by omega) (by omega)]
theorem spec_ReadPage_fev (pages : List ByteArray) (late : List S113) (page : Int) (hpg : pages.length ≤ 1048576) (hl : late.length ≤ 1048576) : Ev (fun k => spec_ReadPage.f k pages late page) (rpR pages late page) := by
  unfold rpR
  have e1 : wrap64 ((pages.length : Int) - 1) = (pages.length : Int) - 1 := w64 (by omega) (by omega)
  have e2 : wrap64 ((late.length : Int) - 1) = (late.length : Int) - 1 := w64 (by omega) (by omega)
  by_cases c : 0 ≤ page ∧ page < (pages.length : Int)
  · rw [if_pos c]
    refine Ev.congr (fun k => ?_) (spec_ReadPage_loop pages late page c hl late.length (Nat.le_refl _))
    unfold spec_ReadPage.f spec_l01In.f
    rw [e1, e2, if_pos (by omega), Option.bind_some, decide_eq_true (by omega), if_pos rfl]
  · rw [if_neg c]
    refine ev_some fun k => ?_
    unfold spec_ReadPage.f spec_l01In.f
    rw [e1]
    by_cases c1 : page ≥ 0
    · rw [if_pos c1, Option.bind_some, decide_eq_false (by omega), if_neg (by decide)]
    · rw [if_neg c1, Option.bind_some, if_neg (by decide)]
theorem laws_toStringS_loop (l : List ByteArray) (hb : l.length ≤ 1048576) : ∀ (d i : Nat) (pre rest : List ByteArray), i + d = l.length → pre.length = i → rest.length = d → Ev (fun k => laws_toStringS.l0 k l (pre ++ rest) (i : Int)) (pre ++ (l.drop i).map (fun x => x)) := by
  intro d
  induction d with
  | zero =>
    intro i pre rest hi hp hr
    refine ev_end fun k => ?_
    rw [laws_toStringS.l0, if_neg (by omega), List.drop_eq_nil_of_le (by omega), List.eq_nil_of_length_eq_zero hr]
    rfl
  | succ d ih =>
    intro i pre rest hi hp hr
    obtain ⟨x, t, rfl⟩ : ∃ x t, rest = x :: t := by
      cases rest with
      | nil => simp at hr
      | cons x t => exact ⟨x, t, rfl⟩
    rw [drop_rdOf ByteArray.empty l i (by omega), List.map_cons]
    have hn := ih (i + 1) (pre ++ [(fun x => x) (rdOf ByteArray.empty l (i : Int))]) t (by omega) (by simp; omega) (by simp at hr; omega)
    rw [List.append_assoc, List.singleton_append, List.append_assoc, List.singleton_append] at hn
    refine ev_go hn fun k => ?_
    rw [laws_toStringS.l0, if_pos (by omega), if_pos (by omega), if_pos (by rw [List.length_append, List.length_cons]; rw [List.length_cons] at hr; omega), Int.toNat_natCast, set_mid pre t x _ i hp, w64 (by omega) (by omega)]
    rfl
theorem laws_toStringS_fev (l : List ByteArray) (hb : l.length ≤ 1048576) : Ev (fun k => laws_toStringS.f k l) (l.map (fun x => x)) := by
  have := laws_toStringS_loop l hb l.length 0 [] (List.replicate l.length (⟨#[]⟩ : ByteArray)) (by omega) rfl (by simp)
  refine Ev.congr (fun k => ?_) this
  unfold laws_toStringS.f
  rw [if_pos (by omega), if_pos (by omega)]
  rfl
def convPut (x : S129) : S113 := ⟨x.f0, x.f1⟩
theorem laws_toPut_eq (a : Int) (b : ByteArray) : laws_toPut.f a b = some (a, b) := rfl
theorem laws_toPutS_loop (l : List S129) (hb : l.length ≤ 1048576) : ∀ (d i : Nat) (pre rest : List S113), i + d = l.length → pre.length = i → rest.length = d → Ev (fun k => laws_toPutS.l0 k l (pre ++ rest) (i : Int)) (pre ++ (l.drop i).map convPut) := by
  intro d
  induction d with
  | zero =>
    intro i pre rest hi hp hr
    refine ev_end fun k => ?_
    rw [laws_toPutS.l0, if_neg (by omega), List.drop_eq_nil_of_le (by omega), List.eq_nil_of_length_eq_zero hr]
    rfl
  | succ d ih =>
    intro i pre rest hi hp hr
    obtain ⟨x, t, rfl⟩ : ∃ x t, rest = x :: t := by
      cases rest with
      | nil => simp at hr
      | cons x t => exact ⟨x, t, rfl⟩
    rw [drop_rdOf z129 l i (by omega), List.map_cons]
    have hn := ih (i + 1) (pre ++ [convPut (rdOf z129 l (i : Int))]) t (by omega) (by simp; omega) (by simp at hr; omega)
    rw [List.append_assoc, List.singleton_append, List.append_assoc, List.singleton_append] at hn
    refine ev_go hn fun k => ?_
    rw [laws_toPutS.l0, if_pos (by omega), if_pos (by omega), laws_toPut_eq, Option.bind_some, if_pos (by rw [List.length_append, List.length_cons]; rw [List.length_cons] at hr; omega), Int.toNat_natCast, set_mid pre t x _ i hp, w64 (by omega) (by omega)]
    rfl
theorem laws_toPutS_fev (l : List S129) (hb : l.length ≤ 1048576) : Ev (fun k => laws_toPutS.f k l) (l.map convPut) := by
  have := laws_toPutS_loop l hb l.length 0 [] (List.replicate l.length z113) (by omega) rfl (by simp)
  refine Ev.congr (fun k => ?_) this
  unfold laws_toPutS.f
  rw [if_pos (by omega), if_pos (by omega)]
  rfl
theorem laws_toDisk_fev (a : List ByteArray) (b : List S129) (ha : a.length ≤ 1048576) (hb : b.length ≤ 1048576) : Ev (fun k => laws_toDisk.f k a b) (a, b.map convPut) := by
  have h := laws_toStringS_fev a ha
  rw [List.map_id'] at h
  exact ev_call h (ev_call (laws_toPutS_fev b hb) (c := fun _ t => some (a, t)) (Ev.now _) (fun _ => rfl)) (fun _ => rfl)
theorem impl_ReadPage_loop (pages : List ByteArray) (late : List S113) (page : Int) (hp : 0 ≤ page ∧ page < (pages.length : Int)) (hl : late.length ≤ 1048576) : ∀ n : Nat, n ≤ late.length → Ev (fun k => impl_ReadPage.l0 k page ((n : Int) - 1) pages late) (rpL page (rdOf ByteArray.empty pages page) late n) := by
  intro n
  induction n with
  | zero =>
    intro hn
    refine ev_end fun k => ?_
    rw [impl_ReadPage.l0, if_neg (by omega), if_pos hp.1, if_pos hp.2]
    rfl
  | succ n ih =>
    intro hn
    unfold rpL
    rw [show (((n + 1 : Nat) : Int) - 1) = (n : Int) by omega]
    by_cases c : (rd_T113 late (n : Int)).f0 = page
    · rw [if_pos c]
      refine ev_end fun k => ?_
      rw [impl_ReadPage.l0, if_pos (by omega), if_pos (by omega), if_pos (by omega), if_pos c]
    · rw [if_neg c]
      refine ev_go (ih (by omega)) fun k => ?_
      rw [impl_ReadPage.l0, if_pos (by omega), if_pos (by omega), if_pos (by omega), if_neg c, w64 (by omega) (by omega)]
theorem impl_ReadPage_fev (pages : List ByteArray) (late : List S113) (page : Int) (hpg : pages.length ≤ 1048576) (hl : late.length ≤ 1048576) : Ev (fun k => impl_ReadPage.f k pages late page) (rpR pages late page) := by
  unfold rpR
  have e1 : wrap64 ((pages.length : Int) - 1) = (pages.length : Int) - 1 := w64 (by omega) (by omega)
  have e2 : wrap64 ((late.length : Int) - 1) = (late.length : Int) - 1 := w64 (by omega) (by omega)
  by_cases c : 0 ≤ page ∧ page < (pages.length : Int)
  · rw [if_pos c]
    refine Ev.congr (fun k => ?_) (impl_ReadPage_loop pages late page c hl late.length (Nat.le_refl _))
    unfold impl_ReadPage.f impl_isPage.f impl_in.f
    rw [e1, e2, if_pos (by omega), Option.bind_some, Option.bind_some, decide_eq_true (by omega), if_pos rfl]
  · rw [if_neg c]
    refine ev_some fun k => ?_
    unfold impl_ReadPage.f impl_isPage.f impl_in.f
    rw [e1]
    by_cases c1 : page ≥ 0
    · rw [if_pos c1, Option.bind_some, Option.bind_some, decide_eq_false (by omega), if_neg (by decide)]
    · rw [if_neg c1, Option.bind_some, Option.bind_some, if_neg (by decide)]
end Go.Proofs.Ytdgefpifohfcgaa.VFnExactReadPage
namespace Go.Proofs.Ytdgefpifohfcgaa.Pure
open Go.Proofs.Ytdgefpifohfcgaa.VFnExactReadPage
set_option linter.unusedVariables false
set_option linter.unusedSimpArgs false
open Go Go.RowKit Go.Proofs.YtdgefpifohfcgaaW.PrintWords Go.Proofs.YtdgefpifohfcgaaW.PrintLast Go.Proofs.YtdgefpifohfcgaaW.PrintMore
theorem FnExactReadPage (pages : List ByteArray) (late : List S129) (page : Int) (h1 : pages.length ≤ 9223372036854775807) (h3 : ∀ x ∈ pages, x.size ≤ 9223372036854775807) (h2 : late.length ≤ 9223372036854775807) (h4 : ∀ x ∈ late, (Lit.int .i64 x.f0).wf = true ∧ x.f1.size ≤ 9223372036854775807) (_ : (Lit.int .i64 page).wf = true) : ∃ k, laws_FnExactReadPage.f k pages late page = some true := by
  obtain ⟨K1, e1⟩ := laws_szDisk_fev pages late h1 h2 h3 (fun x hx => (h4 x hx).2) 1048576 (by omega) (by omega)
  dsimp only at e1
  by_cases c : szDiskR pages late 1048576 < 0
  · refine ⟨K1, ?_⟩
    unfold laws_FnExactReadPage.f
    rw [e1 _ (Nat.le_refl _), Option.bind_some, if_pos c]
  · have ht := szDiskR_tells pages late 1048576 (by omega)
    obtain ⟨K2, e2⟩ := laws_toDisk_fev pages late (by omega) (by omega)
    have hm : (late.map convPut).length = late.length := by simp
    obtain ⟨K3, e3⟩ := spec_ReadPage_fev pages (late.map convPut) page (by omega) (by omega)
    obtain ⟨K4, e4⟩ := impl_ReadPage_fev pages (late.map convPut) page (by omega) (by omega)
    obtain ⟨K5, e5⟩ := laws_eqDisk_same pages (late.map convPut) (by omega) (by omega)
    dsimp only at e2 e3 e4 e5
    refine ⟨K1 + K2 + K3 + K4 + K5, ?_⟩
    unfold laws_FnExactReadPage.f
    rw [e1 _ (by omega), Option.bind_some, if_neg c, e2 _ (by omega), Option.bind_some, e3 _ (by omega), Option.bind_some, Option.bind_some, e4 _ (by omega), Option.bind_some, if_pos rfl, Option.bind_some, e5 _ (by omega), Option.bind_some, if_pos rfl]
end Go.Proofs.Ytdgefpifohfcgaa.Pure
