/- The printed form of FnExactFieldAt answers true at every input that its bounds let in; no other conditions. -/
import Derived.Test.YtdgefpifohfcgaaVFnExactFieldAtx2
import Derived.Test.YtdgefpifohfcgaaM
namespace Go.Proofs.Ytdgefpifohfcgaa.VFnExactFieldAt
set_option linter.unusedVariables false
set_option linter.unusedSimpArgs false
open Go Go.RowKit Go.Proofs.YtdgefpifohfcgaaW.PrintWords Go.Proofs.YtdgefpifohfcgaaW.PrintLast Go.Proofs.YtdgefpifohfcgaaW.PrintMore
def faR (l : List S90) (name : ByteArray) : Int := idxP (fun x : S90 => x.f0.toList == name.toList) l 0
/-- A field that is right but for the others. -/
def fieldOkR (x : S90) : Bool := wordR x.f0 4 && decide (1 ≤ x.f1 ∧ x.f1 ≤ 2)
def soL (n : Int) : List S90 → List S90 → Bool
  | _, [] => decide (1 ≤ n ∧ n ≤ 3)
  | pre, x :: t => if fieldOkR x = true then (if pre.any (fun y => y.f0.toList == x.f0.toList) = true then false else soL n (pre ++ [x]) t) else false
def soR (l : List S90) : Bool := soL (l.length : Int) [] l
theorem soL_tells (n : Int) (rest : List S90) : ∀ pre, soL n pre rest = true → 1 ≤ n ∧ n ≤ 3 ∧ ∀ x ∈ rest, fieldOkR x = true := by
  induction rest with
  | nil => intro pre h; unfold soL at h; have := of_decide_eq_true h; exact ⟨this.1, this.2, fun x hx => by cases hx⟩
  | cons x t ih =>
    intro pre h
    unfold soL at h
    split at h
    · rename_i c
      split at h
      · cases h
      · obtain ⟨h1, h2, h3⟩ := ih _ h
        refine ⟨h1, h2, fun y hy => ?_⟩
        rcases List.mem_cons.1 hy with rfl | hy
        · exact c
        · exact h3 y hy
    · cases h
theorem soR_tells (l : List S90) (h : soR l = true) : 1 ≤ l.length ∧ l.length ≤ 3 ∧ ∀ x ∈ l, fieldOkR x = true := by
  obtain ⟨h1, h2, h3⟩ := soL_tells _ l [] h
  exact ⟨by omega, by omega, h3⟩
theorem fieldOkR_tells (x : S90) (h : fieldOkR x = true) : 1 ≤ x.f0.size ∧ x.f0.size ≤ 4 ∧ 1 ≤ x.f1 ∧ x.f1 ≤ 2 := by
  unfold fieldOkR wordR at h
  simp only [Bool.and_eq_true, decide_eq_true_eq] at h
  omega
def schemaB : List S90 → ByteArray
  | [] => ⟨#[]⟩
  | x :: t => (strOfNums [x.f1 % 256] ++ shortB x.f0) ++ schemaB t
def schemaTextR (l : List S90) : ByteArray × Bool := if soR l = true then (schemaB l, true) else (⟨#[]⟩, false)
theorem shortB_size_le (s : ByteArray) (h : s.size ≤ 140737488351232) : (shortB s).size ≤ 10 + s.size := by
  unfold shortB
  rw [ByteArray.size_append]
  have := varB_size_le s.size (by omega)
  omega
theorem laws_szField_eq (a : ByteArray) (b : Int) (left : Int) (h0 : 0 ≤ left) (h1 : left ≤ 9223372036854775807) (hs : (a.size : Int) ≤ 9223372036854775807) : laws_szField.f a b left = some (if left - (a.size : Int) < 0 then -1 else left - (a.size : Int)) := by
  unfold laws_szField.f
  rw [w64 (by omega) (by omega)]
  split <;> rfl
def wField (x : S89) : Int := (x.f0.size : Int)
theorem laws_szFieldS_loop (l : List S89) (hb : l.length ≤ 9223372036854775807) (hw : ∀ x ∈ l, 0 ≤ wField x ∧ wField x ≤ 9223372036854775807) : ∀ (d i : Nat) (left : Int), i + d = l.length → 0 ≤ left → left ≤ 9223372036854775807 → Ev (fun k => laws_szFieldS.l0 k l left (i : Int)) (szL wField (l.drop i) left) := by
  intro d
  induction d with
  | zero =>
    intro i left hi h0 h1
    refine ev_end fun k => ?_
    rw [laws_szFieldS.l0, if_neg (by omega), List.drop_eq_nil_of_le (by omega)]
    rfl
  | succ d ih =>
    intro i left hi h0 h1
    have hx := hw _ (rdOf_mem z89 l i (by omega))
    rw [drop_rdOf z89 l i (by omega)]
    unfold szL
    have hu : wField (rdOf z89 l (i : Int)) = ((rd_T89 l (i : Int)).f0.size : Int) := rfl
    by_cases c : left - wField (rdOf z89 l (i : Int)) < 0
    · rw [if_pos c]
      refine ev_end fun k => ?_
      rw [hu] at c hx
      rw [laws_szFieldS.l0, if_pos (by omega), if_pos (by omega), laws_szField_eq _ _ _ h0 h1 hx.2, Option.bind_some, if_pos c, if_pos (by decide)]
    · rw [if_neg c]
      rw [hu] at c hx ⊢
      refine ev_go (ih (i + 1) _ (by omega) (by omega) (by omega)) fun k => ?_
      rw [laws_szFieldS.l0, if_pos (by omega), if_pos (by omega), laws_szField_eq _ _ _ h0 h1 hx.2, Option.bind_some, if_neg c, if_neg c, w64 (n := (i : Int) + 1) (by omega) (by omega)]
      rfl
theorem laws_szFieldS_fev (l : List S89) (hb : l.length ≤ 9223372036854775807) (hw : ∀ x ∈ l, 0 ≤ wField x ∧ wField x ≤ 9223372036854775807) (left : Int) (h0 : 0 ≤ left) (h1 : left ≤ 9223372036854775807) : Ev (fun k => laws_szFieldS.f k l left) (szR wField l left) := by
  unfold szR
  by_cases c : left - (l.length : Int) < 0
  · rw [if_pos c]
    refine ev_some fun k => ?_
    unfold laws_szFieldS.f
    rw [w64 (by omega) (by omega), if_pos c]
  · rw [if_neg c]
    refine Ev.congr (fun k => ?_) (laws_szFieldS_loop l hb hw l.length 0 (left - (l.length : Int)) (by omega) (by omega) (by omega))
    unfold laws_szFieldS.f
    rw [w64 (by omega) (by omega), if_neg c]
    rfl
theorem spec_FieldAt_loop (l : List S90) (hl : l.length ≤ 9223372036854775807) (name : ByteArray) : ∀ (d i : Nat), i + d = l.length → Ev (fun k => spec_FieldAt.l0 k l name (i : Int)) (idxP (fun x : S90 => x.f0.toList == name.toList) (l.drop i) (i : Int)) := by
  intro d
  induction d with
  | zero =>
    intro i hi
    refine ev_end fun k => ?_
    rw [spec_FieldAt.l0, if_neg (by omega), List.drop_eq_nil_of_le (by omega)]
    rfl
  | succ d ih =>
    intro i hi
    have hd : l.drop i = rd_T90 l (i : Int) :: l.drop (i + 1) := drop_rdOf z90 l i (by omega)
    rw [hd, idxP_step]
    by_cases c : ((rd_T90 l (i : Int)).f0).toList = name.toList
    · rw [if_pos (beq_iff_eq.2 c)]
      refine ev_end fun k => ?_
      rw [spec_FieldAt.l0, if_pos (by omega), if_pos (by omega), if_pos c]
    · rw [if_neg (fun h => c (beq_iff_eq.1 h))]
      refine ev_go (ih (i + 1) (by omega)) fun k => ?_
      rw [spec_FieldAt.l0, if_pos (by omega), if_pos (by omega), if_neg c, w64 (by omega) (by omega)]
      rfl
theorem spec_FieldAt_fev (l : List S90) (hl : l.length ≤ 9223372036854775807) (name : ByteArray) : Ev (fun k => spec_FieldAt.f k l name) (faR l name) :=
  spec_FieldAt_loop l hl name l.length 0 (by omega)
theorem laws_toField_eq (a : ByteArray) (b : Int) : laws_toField.f a b = some (a, b) := rfl
def convField (x : S89) : S90 := ⟨x.f0, x.f1⟩
theorem laws_toFieldS_loop (l : List S89) (hb : l.length ≤ 1048576) : ∀ (d i : Nat) (pre rest : List S90), i + d = l.length → pre.length = i → rest.length = d → Ev (fun k => laws_toFieldS.l0 k l (pre ++ rest) (i : Int)) (pre ++ (l.drop i).map convField) := by
  intro d
  induction d with
  | zero =>
    intro i pre rest hi hp hr
    refine ev_end fun k => ?_
    rw [laws_toFieldS.l0, if_neg (by omega), List.drop_eq_nil_of_le (by omega), List.eq_nil_of_length_eq_zero hr]
    rfl
  | succ d ih =>
    intro i pre rest hi hp hr
    obtain ⟨x, t, rfl⟩ : ∃ x t, rest = x :: t := by
      cases rest with
      | nil => simp at hr
      | cons x t => exact ⟨x, t, rfl⟩
    rw [drop_rdOf z89 l i (by omega), List.map_cons]
    have hn := ih (i + 1) (pre ++ [convField (rdOf z89 l (i : Int))]) t (by omega) (by simp; omega) (by simp at hr; omega)
    rw [List.append_assoc, List.singleton_append, List.append_assoc, List.singleton_append] at hn
    refine ev_go hn fun k => ?_
    rw [laws_toFieldS.l0, if_pos (by omega), if_pos (by omega), laws_toField_eq, Option.bind_some, if_pos (by rw [List.length_append, List.length_cons]; rw [List.length_cons] at hr; omega), Int.toNat_natCast, set_mid pre t x _ i hp, w64 (by omega) (by omega)]
    rfl
theorem laws_toFieldS_fev (l : List S89) (hb : l.length ≤ 1048576) : Ev (fun k => laws_toFieldS.f k l) (l.map convField) := by
  have := laws_toFieldS_loop l hb l.length 0 [] (List.replicate l.length z90) (by omega) rfl (by simp)
  refine Ev.congr (fun k => ?_) this
  unfold laws_toFieldS.f
  rw [if_pos (by omega), if_pos (by omega)]
  rfl
theorem impl_FieldAt_eq (l : List S90) (name : ByteArray) : impl_FieldAt.f l name = some (faR l name) := rfl
theorem laws_eqField_same (b : ByteArray) (a : Int) : laws_eqField.f b a b a = some true := by
  unfold laws_eqField.f
  rw [if_pos rfl, if_pos rfl]
theorem laws_eqFieldS_loop (a : List S90) (hb : a.length ≤ 9223372036854775807) : ∀ (d i : Nat), i + d = a.length → Ev (fun k => laws_eqFieldS.l0 k a a (i : Int)) true := by
  intro d
  induction d with
  | zero =>
    intro i hi
    refine ev_end fun k => ?_
    rw [laws_eqFieldS.l0, if_neg (by omega)]
  | succ d ih =>
    intro i hi
    refine ev_go (ih (i + 1) (by omega)) fun k => ?_
    rw [laws_eqFieldS.l0, if_pos (by omega), if_pos (by omega), if_pos (by omega), laws_eqField_same, Option.bind_some, if_pos rfl, w64 (by omega) (by omega)]
    rfl
theorem laws_eqFieldS_same (a : List S90) (hb : a.length ≤ 9223372036854775807) : Ev (fun k => laws_eqFieldS.f k a a) true := by
  refine Ev.congr (fun k => ?_) (laws_eqFieldS_loop a hb a.length 0 (by omega))
  unfold laws_eqFieldS.f
  rw [if_pos rfl]
  rfl
end Go.Proofs.Ytdgefpifohfcgaa.VFnExactFieldAt
namespace Go.Proofs.Ytdgefpifohfcgaa.Pure
open Go.Proofs.Ytdgefpifohfcgaa.VFnExactFieldAt
set_option linter.unusedVariables false
set_option linter.unusedSimpArgs false
open Go Go.RowKit Go.Proofs.YtdgefpifohfcgaaW.PrintWords Go.Proofs.YtdgefpifohfcgaaW.PrintLast Go.Proofs.YtdgefpifohfcgaaW.PrintMore
theorem FnExactFieldAt (l : List S89) (name : ByteArray) (h1 : l.length ≤ 9223372036854775807) (h2 : ∀ x ∈ l, x.f0.size ≤ 9223372036854775807 ∧ (Lit.int .i64 x.f1).wf = true) (_ : name.size ≤ 140737488351232) : ∃ k, laws_FnExactFieldAt.f k l name = some true := by
  by_cases cs : (name.size : Int) > 1048576
  · exact ⟨0, by unfold laws_FnExactFieldAt.f; rw [if_pos cs]⟩
  · have hw : ∀ x ∈ l, 0 ≤ wField x ∧ wField x ≤ 9223372036854775807 := fun x hx => ⟨Int.natCast_nonneg _, Int.ofNat_le.2 (h2 x hx).1⟩
    obtain ⟨K1, e1⟩ := laws_szFieldS_fev l h1 hw 1048576 (by omega) (by omega)
    dsimp only at e1
    by_cases cc : szR wField l 1048576 < 0
    · refine ⟨K1, ?_⟩
      unfold laws_FnExactFieldAt.f
      rw [if_neg cs, e1 _ (Nat.le_refl _), Option.bind_some, if_pos cc]
    · have ht := szR_tells wField l (fun x hx => (hw x hx).1) 1048576 (by omega)
      obtain ⟨K2, e2⟩ := laws_toFieldS_fev l (by omega)
      have hm : (l.map convField).length = l.length := by simp
      obtain ⟨K3, e3⟩ := spec_FieldAt_fev (l.map convField) (by omega) name
      obtain ⟨K5, e5⟩ := laws_eqFieldS_same (l.map convField) (by omega)
      dsimp only at e2 e3 e5
      refine ⟨K1 + K2 + K3 + K5, ?_⟩
      unfold laws_FnExactFieldAt.f
      rw [if_neg cs, e1 _ (by omega), Option.bind_some, if_neg cc, e2 _ (by omega), Option.bind_some, e3 _ (by omega), Option.bind_some, Option.bind_some, impl_FieldAt_eq, Option.bind_some, if_pos rfl, Option.bind_some, e5 _ (by omega), Option.bind_some, if_pos rfl]
end Go.Proofs.Ytdgefpifohfcgaa.Pure
