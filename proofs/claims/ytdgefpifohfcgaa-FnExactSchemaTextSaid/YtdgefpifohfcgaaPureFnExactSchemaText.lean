/- The printed form of FnExactSchemaText answers true at every input that its bounds let in; no other conditions. -/
import Derived.Test.YtdgefpifohfcgaaVFnExactSchemaTextx4
import Derived.Test.YtdgefpifohfcgaaM
namespace Go.Proofs.Ytdgefpifohfcgaa.VFnExactSchemaText
set_option linter.unusedVariables false
set_option linter.unusedSimpArgs false
open Go Go.RowKit Go.Proofs.YtdgefpifohfcgaaW.PrintWords Go.Proofs.YtdgefpifohfcgaaW.PrintLast Go.Proofs.YtdgefpifohfcgaaW.PrintMore
def faR (l : List S90) (name : ByteArray) : Int := idxP (fun x : S90 => x.f0.toList == name.toList) l 0
/-- A field that is right but for the others. -/
def fieldOkR (x : S90) : Bool := wordR x.f0 4 && decide (1 ≤ x.f1 ∧ x.f1 ≤ 2)
def soL (n : Int) : List S90 → List S90 → Bool
  | _, [] => decide (1 ≤ n ∧ n ≤ 3)
  | pre, x :: t => if fieldOkR x = true then (if pre.any (fun y => y.f0.toList == x.f0.toList) = true then false else soL n (pre ++ [x]) t) else false
def soR (l : List S90) : Bool := soL (l.length : Int) [] l
theorem soL_tells (n : Int) (rest : List S90) : ∀ pre, soL n pre rest = true → 1 ≤ n ∧ n ≤ 3 ∧ ∀ x ∈ rest, fieldOkR x = true := by
  induction rest with
  | nil => intro pre h; unfold soL at h; have := of_decide_eq_true h; exact ⟨this.1, this.2, fun x hx => by cases hx⟩
  | cons x t ih =>
    intro pre h
    unfold soL at h
    split at h
    · rename_i c
      split at h
      · cases h
      · obtain ⟨h1, h2, h3⟩ := ih _ h
        refine ⟨h1, h2, fun y hy => ?_⟩
        rcases List.mem_cons.1 hy with rfl | hy
        · exact c
        · exact h3 y hy
    · cases h
theorem soR_tells (l : List S90) (h : soR l = true) : 1 ≤ l.length ∧ l.length ≤ 3 ∧ ∀ x ∈ l, fieldOkR x = true := by
  obtain ⟨h1, h2, h3⟩ := soL_tells _ l [] h
  exact ⟨by omega, by omega, h3⟩
theorem fieldOkR_tells (x : S90) (h : fieldOkR x = true) : 1 ≤ x.f0.size ∧ x.f0.size ≤ 4 ∧ 1 ≤ x.f1 ∧ x.f1 ≤ 2 := by
  unfold fieldOkR wordR at h
  simp only [Bool.and_eq_true, decide_eq_true_eq] at h
  omega
def schemaB : List S90 → ByteArray
  | [] => ⟨#[]⟩
  | x :: t => (strOfNums [x.f1 % 256] ++ shortB x.f0) ++ schemaB t
def schemaTextR (l : List S90) : ByteArray × Bool := if soR l = true then (schemaB l, true) else (⟨#[]⟩, false)
theorem shortB_size_le (s : ByteArray) (h : s.size ≤ 140737488351232) : (shortB s).size ≤ 10 + s.size := by
  unfold shortB
  rw [ByteArray.size_append]
  have := varB_size_le s.size (by omega)
  omega
theorem laws_szField_eq (a : ByteArray) (b : Int) (left : Int) (h0 : 0 ≤ left) (h1 : left ≤ 9223372036854775807) (hs : (a.size : Int) ≤ 9223372036854775807) : laws_szField.f a b left = some (if left - (a.size : Int) < 0 then -1 else left - (a.size : Int)) := by
  unfold laws_szField.f
  rw [w64 (by omega) (by omega)]
  split <;> rfl
def wField (x : S89) : Int := (x.f0.size : Int)
theorem laws_szFieldS_loop (l : List S89) (hb : l.length ≤ 9223372036854775807) (hw : ∀ x ∈ l, 0 ≤ wField x ∧ wField x ≤ 9223372036854775807) : ∀ (d i : Nat) (left : Int), i + d = l.length → 0 ≤ left → left ≤ 9223372036854775807 → Ev (fun k => laws_szFieldS.l0 k l left (i : Int)) (szL wField (l.drop i) left) := by
  intro d
  induction d with
  | zero =>
    intro i left hi h0 h1
    refine ev_end fun k => ?_
    rw [laws_szFieldS.l0, if_neg (by omega), List.drop_eq_nil_of_le (by omega)]
    rfl
  | succ d ih =>
    intro i left hi h0 h1
    have hx := hw _ (rdOf_mem z89 l i (by omega))
    rw [drop_rdOf z89 l i (by omega)]
    unfold szL
    have hu : wField (rdOf z89 l (i : Int)) = ((rd_T89 l (i : Int)).f0.size : Int) := rfl
    by_cases c : left - wField (rdOf z89 l (i : Int)) < 0
    · rw [if_pos c]
      refine ev_end fun k => ?_
      rw [hu] at c hx
      rw [laws_szFieldS.l0, if_pos (by omega), if_pos (by omega), laws_szField_eq _ _ _ h0 h1 hx.2, Option.bind_some, if_pos c, if_pos (by decide)]
    · rw [if_neg c]
      rw [hu] at c hx ⊢
      refine ev_go (ih (i + 1) _ (by omega) (by omega) (by omega)) fun k => ?_
      rw [laws_szFieldS.l0, if_pos (by omega), if_pos (by omega), laws_szField_eq _ _ _ h0 h1 hx.2, Option.bind_some, if_neg c, if_neg c, w64 (n := (i : Int) + 1) (by omega) (by omega)]
      rfl
theorem laws_szFieldS_fev (l : List S89) (hb : l.length ≤ 9223372036854775807) (hw : ∀ x ∈ l, 0 ≤ wField x ∧ wField x ≤ 9223372036854775807) (left : Int) (h0 : 0 ≤ left) (h1 : left ≤ 9223372036854775807) : Ev (fun k => laws_szFieldS.f k l left) (szR wField l left) := by
  unfold szR
  by_cases c : left - (l.length : Int) < 0
  · rw [if_pos c]
    refine ev_some fun k => ?_
    unfold laws_szFieldS.f
    rw [w64 (by omega) (by omega), if_pos c]
  · rw [if_neg c]
    refine Ev.congr (fun k => ?_) (laws_szFieldS_loop l hb hw l.length 0 (left - (l.length : Int)) (by omega) (by omega) (by omega))
    unfold laws_szFieldS.f
    rw [w64 (by omega) (by omega), if_neg c]
    rfl
theorem laws_toField_eq (a : ByteArray) (b : Int) : laws_toField.f a b = some (a, b) := rfl
def convField (x : S89) : S90 := ⟨x.f0, x.f1⟩
theorem laws_toFieldS_loop (l : List S89) (hb : l.length ≤ 1048576) : ∀ (d i : Nat) (pre rest : List S90), i + d = l.length → pre.length = i → rest.length = d → Ev (fun k => laws_toFieldS.l0 k l (pre ++ rest) (i : Int)) (pre ++ (l.drop i).map convField) := by
  intro d
  induction d with
  | zero =>
    intro i pre rest hi hp hr
    refine ev_end fun k => ?_
    rw [laws_toFieldS.l0, if_neg (by omega), List.drop_eq_nil_of_le (by omega), List.eq_nil_of_length_eq_zero hr]
    rfl
  | succ d ih =>
    intro i pre rest hi hp hr
    obtain ⟨x, t, rfl⟩ : ∃ x t, rest = x :: t := by
      cases rest with
      | nil => simp at hr
      | cons x t => exact ⟨x, t, rfl⟩
    rw [drop_rdOf z89 l i (by omega), List.map_cons]
    have hn := ih (i + 1) (pre ++ [convField (rdOf z89 l (i : Int))]) t (by omega) (by simp; omega) (by simp at hr; omega)
    rw [List.append_assoc, List.singleton_append, List.append_assoc, List.singleton_append] at hn
    refine ev_go hn fun k => ?_
    rw [laws_toFieldS.l0, if_pos (by omega), if_pos (by omega), laws_toField_eq, Option.bind_some, if_pos (by rw [List.length_append, List.length_cons]; rw [List.length_cons] at hr; omega), Int.toNat_natCast, set_mid pre t x _ i hp, w64 (by omega) (by omega)]
    rfl
theorem laws_toFieldS_fev (l : List S89) (hb : l.length ≤ 1048576) : Ev (fun k => laws_toFieldS.f k l) (l.map convField) := by
  have := laws_toFieldS_loop l hb l.length 0 [] (List.replicate l.length z90) (by omega) rfl (by simp)
  refine Ev.congr (fun k => ?_) this
  unfold laws_toFieldS.f
  rw [if_pos (by omega), if_pos (by omega)]
  rfl
theorem laws_eqField_same (b : ByteArray) (a : Int) : laws_eqField.f b a b a = some true := by
  unfold laws_eqField.f
  rw [if_pos rfl, if_pos rfl]
theorem laws_eqFieldS_loop (a : List S90) (hb : a.length ≤ 9223372036854775807) : ∀ (d i : Nat), i + d = a.length → Ev (fun k => laws_eqFieldS.l0 k a a (i : Int)) true := by
  intro d
  induction d with
  | zero =>
    intro i hi
    refine ev_end fun k => ?_
    rw [laws_eqFieldS.l0, if_neg (by omega)]
  | succ d ih =>
    intro i hi
    refine ev_go (ih (i + 1) (by omega)) fun k => ?_
    rw [laws_eqFieldS.l0, if_pos (by omega), if_pos (by omega), if_pos (by omega), laws_eqField_same, Option.bind_some, if_pos rfl, w64 (by omega) (by omega)]
    rfl
theorem laws_eqFieldS_same (a : List S90) (hb : a.length ≤ 9223372036854775807) : Ev (fun k => laws_eqFieldS.f k a a) true := by
  refine Ev.congr (fun k => ?_) (laws_eqFieldS_loop a hb a.length 0 (by omega))
  unfold laws_eqFieldS.f
  rw [if_pos rfl]
  rfl
theorem spec_l01In_eq (x a b : Int) : spec_l01In.f x a b = some (decide (a ≤ x ∧ x ≤ b)) := in_dec x a b
theorem spec_l04Word_loop (s : ByteArray) (hs : s.size ≤ 9223372036854775807) (most : Int) : ∀ (d i : Nat), i + d = s.size → Ev (fun k => spec_l04Word.l0 k s most (i : Int)) (lettersL ((bytesOf s).drop i) && decide (1 ≤ (s.size : Int) ∧ (s.size : Int) ≤ most)) := by
  intro d
  induction d with
  | zero =>
    intro i hi
    refine ev_end fun k => ?_
    rw [spec_l04Word.l0, if_neg (by omega), spec_l01In_eq, Option.bind_some, List.drop_eq_nil_of_le (by rw [bytesOf_length]; omega)]
    rfl
  | succ d ih =>
    intro i hi
    rw [bytesOf_drop s i (by omega), lettersL_cons]
    by_cases c1 : bt s (i : Int) < 97
    · rw [decide_eq_false (by omega)]
      refine ev_end fun k => ?_
      rw [spec_l04Word.l0, if_pos (by omega), if_pos (by omega), if_pos c1]
      rfl
    · by_cases c2 : bt s (i : Int) > 122
      · rw [decide_eq_false (by omega)]
        refine ev_end fun k => ?_
        rw [spec_l04Word.l0, if_pos (by omega), if_pos (by omega), if_neg c1, if_pos c2]
        rfl
      · rw [decide_eq_true (by omega), Bool.true_and]
        refine ev_go (ih (i + 1) (by omega)) fun k => ?_
        rw [spec_l04Word.l0, if_pos (by omega), if_pos (by omega), if_neg c1, if_neg c2, w64 (by omega) (by omega)]
        rfl
theorem spec_l04Word_fev (s : ByteArray) (hs : s.size ≤ 9223372036854775807) (most : Int) : Ev (fun k => spec_l04Word.f k s most) (wordR s most) :=
  spec_l04Word_loop s hs most s.size 0 (by omega)
theorem spec_SchemaOk_inner (l pre t : List S90) (x : S90) (hl : l = pre ++ x :: t) (hn : l.length ≤ 1048576) (r : Bool) (h : Ev (fun k => spec_SchemaOk.l0 k l ((pre.length : Int) + 1)) r) : ∀ (d i : Nat), i + d = pre.length → Ev (fun k => spec_SchemaOk.l1 k l (pre.length : Int) (i : Int)) (if (pre.drop i).any (fun y => y.f0.toList == x.f0.toList) = true then false else r) := by
  have hlen : l.length = pre.length + 1 + t.length := by rw [hl, List.length_append, List.length_cons]; omega
  have hx : rd_T90 l (pre.length : Int) = x := by rw [hl]; exact rdOf_mid z90 pre t x _ rfl
  intro d
  induction d with
  | zero =>
    intro i hi
    rw [List.drop_eq_nil_of_le (by omega)]
    refine ev_go h fun k => ?_
    rw [spec_SchemaOk.l1, if_neg (by omega), w64 (by omega) (by omega)]
  | succ d ih =>
    intro i hi
    have hy : rd_T90 l (i : Int) = pre[i]'(by omega) := by
      show rdOf z90 l (i : Int) = _
      rw [rdOf_get z90 l i (by omega)]
      subst hl
      exact List.getElem_append_left (by omega)
    rw [List.drop_eq_getElem_cons (by omega : i < pre.length), List.any_cons]
    by_cases c : ((pre[i]'(by omega)).f0).toList = x.f0.toList
    · rw [show ((pre[i]'(by omega)).f0.toList == x.f0.toList) = true from beq_iff_eq.2 c]
      refine ev_end fun k => ?_
      rw [spec_SchemaOk.l1, if_pos (by omega), if_pos (by omega), if_pos (by omega), if_pos (by omega), if_pos (by omega), hx, hy, if_pos c]
      rfl
    · rw [show ((pre[i]'(by omega)).f0.toList == x.f0.toList) = false from beq_eq_false_iff_ne.2 c, Bool.false_or]
      refine ev_go (ih (i + 1) (by omega)) fun k => ?_
      rw [spec_SchemaOk.l1, if_pos (by omega), if_pos (by omega), if_pos (by omega), if_pos (by omega), if_pos (by omega), hx, hy, if_neg c, w64 (by omega) (by omega)]
      rfl
theorem spec_SchemaOk_loop (l : List S90) (hn : l.length ≤ 1048576) (hs : ∀ x ∈ l, x.f0.size ≤ 9223372036854775807) : ∀ (rest pre : List S90), l = pre ++ rest → Ev (fun k => spec_SchemaOk.l0 k l (pre.length : Int)) (soL (l.length : Int) pre rest) := by
  intro rest
  induction rest with
  | nil =>
    intro pre hl
    have : l.length = pre.length := by rw [hl, List.append_nil]
    refine ev_end fun k => ?_
    rw [spec_SchemaOk.l0, if_neg (by omega), spec_l01In_eq, Option.bind_some]
    rfl
  | cons x t ih =>
    intro pre hl
    have hlen : l.length = pre.length + 1 + t.length := by rw [hl, List.length_append, List.length_cons]; omega
    have hx : rd_T90 l (pre.length : Int) = x := by rw [hl]; exact rdOf_mid z90 pre t x _ rfl
    have hxs := hs x (by rw [hl]; simp)
    have hn' := ih (pre ++ [x]) (by rw [hl]; simp)
    rw [List.length_append, List.length_singleton, show ((pre.length + 1 : Nat) : Int) = (pre.length : Int) + 1 by omega] at hn'
    have hin := spec_SchemaOk_inner l pre t x hl hn _ hn' pre.length 0 (by omega)
    obtain ⟨K1, e1⟩ := spec_l04Word_fev x.f0 hxs 4
    obtain ⟨K2, e2⟩ := hin
    dsimp only at e1 e2
    unfold soL fieldOkR
    refine ev_succ ⟨K1 + K2 + 1, fun k hk => ?_⟩
    obtain ⟨k, rfl⟩ : ∃ m, k = m + 1 := ⟨k - 1, by omega⟩
    rw [spec_SchemaOk.l0, if_pos (by omega), if_pos (by omega), hx, e1 _ (by omega), Option.bind_some]
    cases h1 : wordR x.f0 4 with
    | false => rw [if_neg (by decide), spec_SchemaOk.j1, if_pos rfl]; rfl
    | true =>
      rw [if_pos rfl, spec_l01In_eq, Option.bind_some, spec_SchemaOk.j1]
      by_cases h2 : 1 ≤ x.f1 ∧ x.f1 ≤ 2
      · rw [decide_eq_true h2, if_neg (by decide)]
        exact e2 k (by omega)
      · rw [decide_eq_false h2, if_pos (by decide)]
        rfl
theorem spec_SchemaOk_fev (l : List S90) (hn : l.length ≤ 1048576) (hs : ∀ x ∈ l, x.f0.size ≤ 9223372036854775807) : Ev (fun k => spec_SchemaOk.f k l) (soR l) :=
  spec_SchemaOk_loop l hn hs l [] rfl
theorem spec_l01Var_ev : ∀ (n : Nat) (acc : List Int), n ≤ 9223372036854775807 → acc.length + n ≤ 140737488355327 → Ev (fun k => spec_l01Var.l0 k (n : Int) acc) (strOfNums (acc ++ varL n)) := by
  intro n
  induction n using Nat.strongRecOn with
  | ind n ih =>
    intro acc hn hl
    by_cases h : n > 127
    · refine ev_go (f := fun k => spec_l01Var.l0 k ((n / 128 : Nat) : Int) (acc ++ [(n : Int) % 128 + 128])) ?_ ?_
      · have := ih (n / 128) (by omega) (acc ++ [(n : Int) % 128 + 128]) (by omega) (by rw [List.length_append, List.length_singleton]; omega)
        rw [List.append_assoc, List.singleton_append, ← varL_big h] at this
        exact this
      · intro k
        have e1 : wrap64 (Int.tdiv (n : Int) 128) = ((n / 128 : Nat) : Int) := by rw [Int.tdiv_eq_ediv_of_nonneg (by omega), w64 (by omega) (by omega)]; omega
        have e2 : (wrap64 (Int.tmod (n : Int) 128 + 128)) % 256 = (n : Int) % 128 + 128 := by rw [Int.tmod_eq_emod_of_nonneg (by omega), w64 (by omega) (by omega)]; omega
        rw [spec_l01Var.l0, if_pos (by omega), if_pos (by omega), e1, e2]
    · refine ev_end fun k => ?_
      rw [spec_l01Var.l0, if_neg (by omega), if_pos (by omega), varL_small h]
      rw [show (n : Int) % 256 = (n : Int) by omega]
theorem spec_l01Var_fev (n : Int) (h0 : 0 ≤ n) (h : n ≤ 140737488355327) : Ev (fun k => spec_l01Var.f k n) (varB n.toNat) := by
  have := spec_l01Var_ev n.toNat [] (by omega) (by simp; omega)
  rw [Int.toNat_of_nonneg h0, List.nil_append] at this
  exact this
theorem spec_l04Short_fev (s : ByteArray) (hs : s.size ≤ 140737488351232) : Ev (fun k => spec_l04Short.f k s) (shortB s) := by
  refine ev_call (spec_l01Var_fev (s.size : Int) (by omega) (by omega)) (ev_some fun k => ?_) fun k => rfl
  have h4 := varB_size_le s.size (by omega)
  rw [Int.toNat_natCast, if_pos (by omega)]
  rfl
theorem spec_SchemaText_loop (l : List S90) (hn : l.length ≤ 3) (hs : ∀ x ∈ l, x.f0.size ≤ 4) : ∀ (d i : Nat) (acc : ByteArray), i + d = l.length → acc.size ≤ 100 * i → Ev (fun k => spec_SchemaText.l0 k l acc (i : Int)) (acc ++ schemaB (l.drop i), true) := by
  intro d
  induction d with
  | zero =>
    intro i acc hi ha
    refine ev_end fun k => ?_
    rw [spec_SchemaText.l0, if_neg (by omega), List.drop_eq_nil_of_le (by omega)]
    unfold schemaB
    rw [show acc ++ (⟨#[]⟩ : ByteArray) = acc from ByteArray.append_empty]
  | succ d ih =>
    intro i acc hi ha
    have hx := hs _ (rdOf_mem z90 l i (by omega))
    change (rd_T90 l (i : Int)).f0.size ≤ 4 at hx
    have hz := shortB_size_le _ (by omega : (rd_T90 l (i : Int)).f0.size ≤ 140737488351232)
    have h1 : (strOfNums [(rd_T90 l (i : Int)).f1 % 256]).size = 1 := by rw [strOfNums_size]; rfl
    obtain ⟨K1, e1⟩ := spec_l04Short_fev _ (by omega : (rd_T90 l (i : Int)).f0.size ≤ 140737488351232)
    obtain ⟨K2, e2⟩ := ih (i + 1) ((acc ++ strOfNums [(rd_T90 l (i : Int)).f1 % 256]) ++ shortB (rd_T90 l (i : Int)).f0) (by omega) (by rw [ByteArray.size_append, ByteArray.size_append]; omega)
    dsimp only at e1 e2
    have hd : l.drop i = rd_T90 l (i : Int) :: l.drop (i + 1) := drop_rdOf z90 l i (by omega)
    rw [hd]
    unfold schemaB
    refine ev_succ ⟨K1 + K2, fun k hk => ?_⟩
    rw [spec_SchemaText.l0, if_pos (by omega), if_pos (by omega), Option.bind_some, if_pos (by omega), e1 k (by omega), Option.bind_some, if_pos (by rw [ByteArray.size_append]; omega), w64 (by omega) (by omega)]
    have := e2 k (by omega)
    rw [ByteArray.append_assoc, ByteArray.append_assoc] at this
    rw [ByteArray.append_assoc, ByteArray.append_assoc]
    exact this
theorem spec_SchemaText_fev (l : List S90) (hn : l.length ≤ 1048576) (hs : ∀ x ∈ l, x.f0.size ≤ 9223372036854775807) : Ev (fun k => spec_SchemaText.f k l) (schemaTextR l) := by
  unfold schemaTextR
  refine ev_call (spec_SchemaOk_fev l hn hs) ?_ (fun k => rfl)
  cases h : soR l with
  | false => exact ev_some fun k => rfl
  | true =>
    obtain ⟨h1, h2, h3⟩ := soR_tells l h
    have := spec_SchemaText_loop l h2 (fun x hx => (fieldOkR_tells x (h3 x hx)).2.1) l.length 0 ⟨#[]⟩ (by omega) (Nat.zero_le _)
    rw [List.drop_zero, show (⟨#[]⟩ : ByteArray) ++ schemaB l = schemaB l from ByteArray.empty_append] at this
    exact this
theorem impl_FieldAt_eq (l : List S90) (name : ByteArray) : impl_FieldAt.f l name = some (faR l name) := rfl
theorem impl_in_eq (x a b : Int) : impl_in.f x a b = some (decide (a ≤ x ∧ x ≤ b)) := in_dec x a b
theorem impl_lettersOk_loop (s : ByteArray) (hs : s.size ≤ 9223372036854775807) (most : Int) : ∀ (d i : Nat), i + d = s.size → Ev (fun k => impl_lettersOk.l0 k s most (s.size : Int) (i : Int)) (lettersL ((bytesOf s).drop i) && decide (1 ≤ (s.size : Int) ∧ (s.size : Int) ≤ most)) := by
  intro d
  induction d with
  | zero =>
    intro i hi
    refine ev_end fun k => ?_
    rw [impl_lettersOk.l0, if_neg (by omega), impl_in_eq, Option.bind_some, List.drop_eq_nil_of_le (by rw [bytesOf_length]; omega)]
    rfl
  | succ d ih =>
    intro i hi
    rw [bytesOf_drop s i (by omega), lettersL_cons]
    by_cases c1 : bt s (i : Int) < 97
    · rw [decide_eq_false (by omega)]
      refine ev_end fun k => ?_
      rw [impl_lettersOk.l0, if_pos (by omega), if_pos (by omega), if_pos (by omega), if_pos c1]
      rfl
    · by_cases c2 : bt s (i : Int) > 122
      · rw [decide_eq_false (by omega)]
        refine ev_end fun k => ?_
        rw [impl_lettersOk.l0, if_pos (by omega), if_pos (by omega), if_pos (by omega), if_neg c1, if_pos c2]
        rfl
      · rw [decide_eq_true (by omega), Bool.true_and]
        refine ev_go (ih (i + 1) (by omega)) fun k => ?_
        rw [impl_lettersOk.l0, if_pos (by omega), if_pos (by omega), if_pos (by omega), if_neg c1, if_neg c2, w64 (by omega) (by omega)]
        rfl
theorem impl_lettersOk_fev (s : ByteArray) (hs : s.size ≤ 9223372036854775807) (most : Int) : Ev (fun k => impl_lettersOk.f k s most) (wordR s most) :=
  impl_lettersOk_loop s hs most s.size 0 (by omega)
theorem impl_SchemaOk_loop (l : List S90) (hn : l.length ≤ 1048576) (hs : ∀ x ∈ l, x.f0.size ≤ 9223372036854775807) : ∀ (rest pre : List S90), l = pre ++ rest → Ev (fun k => impl_SchemaOk.l0 k l l (l.length : Int) (pre.length : Int)) (soL (l.length : Int) pre rest) := by
  intro rest
  induction rest with
  | nil =>
    intro pre hl
    have : l.length = pre.length := by rw [hl, List.append_nil]
    refine ev_end fun k => ?_
    rw [impl_SchemaOk.l0, if_neg (by omega), impl_in_eq, Option.bind_some]
    rfl
  | cons x t ih =>
    intro pre hl
    have hlen : l.length = pre.length + 1 + t.length := by rw [hl, List.length_append, List.length_cons]; omega
    have hx : rd_T90 l (pre.length : Int) = x := by rw [hl]; exact rdOf_mid z90 pre t x _ rfl
    have hxs := hs x (by rw [hl]; simp)
    have hn' := ih (pre ++ [x]) (by rw [hl]; simp)
    rw [List.length_append, List.length_singleton, show ((pre.length + 1 : Nat) : Int) = (pre.length : Int) + 1 by omega] at hn'
    have hown := idxP_own (fun y : S90 => y.f0.toList == x.f0.toList) pre t x (beq_iff_eq.2 rfl)
    rw [← hl] at hown
    obtain ⟨K1, e1⟩ := impl_lettersOk_fev x.f0 hxs 4
    obtain ⟨K2, e2⟩ := hn'
    dsimp only at e1 e2
    unfold soL fieldOkR
    refine ev_succ ⟨K1 + K2, fun k hk => ?_⟩
    rw [impl_SchemaOk.l0, if_pos (by omega), if_pos (by omega), if_pos (by omega), hx, e1 _ (by omega), Option.bind_some]
    cases h1 : wordR x.f0 4 with
    | false => rw [if_neg (by decide)]; rfl
    | true =>
      rw [if_pos rfl, impl_in_eq, Option.bind_some]
      by_cases h2 : 1 ≤ x.f1 ∧ x.f1 ≤ 2
      · rw [decide_eq_true h2, if_pos rfl, impl_FieldAt_eq, Option.bind_some]
        simp only [Bool.and_self, if_true]
        unfold faR
        by_cases h3 : pre.any (fun y => y.f0.toList == x.f0.toList) = true
        · rw [if_neg (fun h => by rw [hown.1 h] at h3; cases h3), if_pos h3]
        · rw [if_pos (hown.2 (by simpa using h3)), if_neg h3, w64 (by omega) (by omega)]
          exact e2 k (by omega)
      · rw [decide_eq_false h2, if_neg (by decide)]
        rfl
theorem impl_SchemaOk_fev (l : List S90) (hn : l.length ≤ 1048576) (hs : ∀ x ∈ l, x.f0.size ≤ 9223372036854775807) : Ev (fun k => impl_SchemaOk.f k l) (soR l) :=
  impl_SchemaOk_loop l hn hs l [] rfl
theorem impl_oneByte_eq (n : Int) : impl_oneByte.f n = some (strOfNums [n % 256]) := rfl
theorem one_size (n : Int) : (strOfNums [n]).size = 1 := by rw [strOfNums_size]; rfl
theorem impl_varText_ev : ∀ (n : Nat) (acc : List Int), n ≤ 9223372036854775807 → acc.length + n ≤ 140737488355327 → Ev (fun k => impl_varText.l0 k (n : Int) acc) (strOfNums (acc ++ varL n)) := by
  intro n
  induction n using Nat.strongRecOn with
  | ind n ih =>
    intro acc hn hl
    by_cases h : n > 127
    · refine ev_go (f := fun k => impl_varText.l0 k ((n / 128 : Nat) : Int) (acc ++ [(n : Int) % 128 + 128])) ?_ ?_
      · have := ih (n / 128) (by omega) (acc ++ [(n : Int) % 128 + 128]) (by omega) (by rw [List.length_append, List.length_singleton]; omega)
        rw [List.append_assoc, List.singleton_append, ← varL_big h] at this
        exact this
      · intro k
        have e1 : (n : Int) / 128 = ((n / 128 : Nat) : Int) := by omega
        have e2 : (Go.bits .or .i64 (Go.bits .and .i64 (n : Int) 127) 128) % 256 = (n : Int) % 128 + 128 := by rw [i64_and127 _ (by omega) (by omega), i64_or128 _ (by omega) (by omega)]; omega
        rw [impl_varText.l0, if_pos (by omega), if_pos (by omega), e1, e2]
    · refine ev_end fun k => ?_
      rw [impl_varText.l0, if_neg (by omega), if_pos (by omega), varL_small h]
      rw [show (n : Int) % 256 = (n : Int) by omega]
theorem impl_varText_fev (n : Int) (h0 : 0 ≤ n) (h : n ≤ 140737488355327) : Ev (fun k => impl_varText.f k n) (varB n.toNat) := by
  have := impl_varText_ev n.toNat [] (by omega) (by simp; omega)
  rw [Int.toNat_of_nonneg h0, List.nil_append] at this
  exact this
theorem impl_shortOf_fev (s : ByteArray) (hs : s.size ≤ 140737488351232) : Ev (fun k => impl_shortOf.f k s) (shortB s) := by
  refine ev_call (impl_varText_fev (s.size : Int) (by omega) (by omega)) (ev_some fun k => ?_) fun k => rfl
  have h4 := varB_size_le s.size (by omega)
  rw [Int.toNat_natCast, if_pos (by omega)]
  rfl
theorem impl_SchemaText_loop (l : List S90) (hn : l.length ≤ 3) (hs : ∀ x ∈ l, x.f0.size ≤ 4) : ∀ (d i : Nat) (acc : ByteArray), i + d = l.length → acc.size ≤ 100 * i → Ev (fun k => impl_SchemaText.l0 k acc l (l.length : Int) (i : Int)) (acc ++ schemaB (l.drop i), true) := by
  intro d
  induction d with
  | zero =>
    intro i acc hi ha
    refine ev_end fun k => ?_
    rw [impl_SchemaText.l0, if_neg (by omega), List.drop_eq_nil_of_le (by omega)]
    unfold schemaB
    rw [show acc ++ (⟨#[]⟩ : ByteArray) = acc from ByteArray.append_empty]
  | succ d ih =>
    intro i acc hi ha
    have hx := hs _ (rdOf_mem z90 l i (by omega))
    change (rd_T90 l (i : Int)).f0.size ≤ 4 at hx
    have hz := shortB_size_le _ (by omega : (rd_T90 l (i : Int)).f0.size ≤ 140737488351232)
    have h1 : (strOfNums [(rd_T90 l (i : Int)).f1 % 256]).size = 1 := by rw [strOfNums_size]; rfl
    obtain ⟨K1, e1⟩ := impl_shortOf_fev _ (by omega : (rd_T90 l (i : Int)).f0.size ≤ 140737488351232)
    obtain ⟨K2, e2⟩ := ih (i + 1) (acc ++ (strOfNums [(rd_T90 l (i : Int)).f1 % 256] ++ shortB (rd_T90 l (i : Int)).f0)) (by omega) (by rw [ByteArray.size_append, ByteArray.size_append]; omega)
    dsimp only at e1 e2
    have hd : l.drop i = rd_T90 l (i : Int) :: l.drop (i + 1) := drop_rdOf z90 l i (by omega)
    rw [hd]
    unfold schemaB
    refine ev_succ ⟨K1 + K2, fun k hk => ?_⟩
    rw [impl_SchemaText.l0, if_pos (by omega), if_pos (by omega), if_pos (by omega), impl_oneByte_eq, Option.bind_some, e1 k (by omega), Option.bind_some, if_pos (by omega), if_pos (by rw [ByteArray.size_append]; omega), w64 (by omega) (by omega)]
    have := e2 k (by omega)
    rw [ByteArray.append_assoc] at this
    exact this
theorem impl_SchemaText_fev (l : List S90) (hn : l.length ≤ 1048576) (hs : ∀ x ∈ l, x.f0.size ≤ 9223372036854775807) : Ev (fun k => impl_SchemaText.f k l) (schemaTextR l) := by
  unfold schemaTextR
  refine ev_call (impl_SchemaOk_fev l hn hs) ?_ (fun k => rfl)
  cases h : soR l with
  | false => exact ev_some fun k => rfl
  | true =>
    obtain ⟨h1, h2, h3⟩ := soR_tells l h
    have := impl_SchemaText_loop l h2 (fun x hx => (fieldOkR_tells x (h3 x hx)).2.1) l.length 0 ⟨#[]⟩ (by omega) (Nat.zero_le _)
    rw [List.drop_zero, show (⟨#[]⟩ : ByteArray) ++ schemaB l = schemaB l from ByteArray.empty_append] at this
    exact this
end Go.Proofs.Ytdgefpifohfcgaa.VFnExactSchemaText
namespace Go.Proofs.Ytdgefpifohfcgaa.Pure
open Go.Proofs.Ytdgefpifohfcgaa.VFnExactSchemaText
set_option linter.unusedVariables false
set_option linter.unusedSimpArgs false
open Go Go.RowKit Go.Proofs.YtdgefpifohfcgaaW.PrintWords Go.Proofs.YtdgefpifohfcgaaW.PrintLast Go.Proofs.YtdgefpifohfcgaaW.PrintMore
theorem FnExactSchemaText (l : List S89) (h1 : l.length ≤ 9223372036854775807) (h2 : ∀ x ∈ l, x.f0.size ≤ 9223372036854775807 ∧ (Lit.int .i64 x.f1).wf = true) : ∃ k, laws_FnExactSchemaText.f k l = some true := by
  have hw : ∀ x ∈ l, 0 ≤ wField x ∧ wField x ≤ 9223372036854775807 := fun x hx => ⟨Int.natCast_nonneg _, Int.ofNat_le.2 (h2 x hx).1⟩
  obtain ⟨K1, e1⟩ := laws_szFieldS_fev l h1 hw 1048576 (by omega) (by omega)
  dsimp only at e1
  by_cases cc : szR wField l 1048576 < 0
  · refine ⟨K1, ?_⟩
    unfold laws_FnExactSchemaText.f
    rw [e1 _ (Nat.le_refl _), Option.bind_some, if_pos cc]
  · have ht := szR_tells wField l (fun x hx => (hw x hx).1) 1048576 (by omega)
    obtain ⟨K2, e2⟩ := laws_toFieldS_fev l (by omega)
    have hm : (l.map convField).length = l.length := by simp
    have hs : ∀ x ∈ l.map convField, x.f0.size ≤ 9223372036854775807 := by
      intro x hx
      obtain ⟨y, hy, rfl⟩ := List.mem_map.1 hx
      exact (h2 y hy).1
    obtain ⟨K3, e3⟩ := spec_SchemaText_fev (l.map convField) (by omega) hs
    obtain ⟨K4, e4⟩ := impl_SchemaText_fev (l.map convField) (by omega) hs
    obtain ⟨K5, e5⟩ := laws_eqFieldS_same (l.map convField) (by omega)
    dsimp only at e2 e3 e4 e5
    refine ⟨K1 + K2 + K3 + K4 + K5 + 1, ?_⟩
    unfold laws_FnExactSchemaText.f
    rw [e1 _ (by omega), Option.bind_some, if_neg cc, e2 _ (by omega), Option.bind_some, e3 _ (by omega), Option.bind_some, Option.bind_some, e4 _ (by omega), Option.bind_some, if_pos rfl, bne_self_eq_false, laws_FnExactSchemaText.j0, if_neg (by decide), e2 _ (by omega), Option.bind_some, e5 _ (by omega), Option.bind_some, if_pos rfl]
end Go.Proofs.Ytdgefpifohfcgaa.Pure
