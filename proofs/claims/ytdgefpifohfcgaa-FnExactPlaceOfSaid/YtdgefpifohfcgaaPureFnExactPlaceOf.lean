/- The printed form of FnExactPlaceOf answers true at every input that its bounds let in; no other conditions. -/
import Derived.Test.YtdgefpifohfcgaaVFnExactPlaceOfx3
import Derived.Test.YtdgefpifohfcgaaM
namespace Go.Proofs.Ytdgefpifohfcgaa.VFnExactPlaceOf
set_option linter.unusedVariables false
set_option linter.unusedSimpArgs false
open Go Go.RowKit Go.Proofs.YtdgefpifohfcgaaW.PrintWords Go.Proofs.YtdgefpifohfcgaaW.PrintLast Go.Proofs.YtdgefpifohfcgaaW.PrintMore
theorem impl_PlaceOf_loop (s : ByteArray) (a : List ByteArray) (ha : a.length ≤ 1048576) : ∀ (d i : Nat) (o : Int), i + d = a.length → Ev (fun k => impl_PlaceOf.l0 k s o a (a.length : Int) (i : Int)) (poL s (a.drop i) (i : Int) o) := by
  intro d
  induction d with
  | zero =>
    intro i o hi
    refine ev_end fun k => ?_
    rw [impl_PlaceOf.l0, if_neg (by omega), List.drop_eq_nil_of_le (by omega)]
    rfl
  | succ d ih =>
    intro i o hi
    rw [drop_rdOf ByteArray.empty a i (by omega)]
    unfold poL
    have hn := fun o' => ih (i + 1) o' (by omega)
    by_cases ce : Op.bytesLess s.toList ((rdOf ByteArray.empty a (i : Int)).toList) = true
    · rw [if_pos ce]
      refine ev_go (hn o) fun k => ?_
      rw [impl_PlaceOf.l0, if_pos (by omega), if_pos (by omega), if_pos (by omega), if_pos ce, w64 (by omega) (by omega)]
      rfl
    · rw [if_neg ce]
      refine ev_go (hn i) fun k => ?_
      rw [impl_PlaceOf.l0, if_pos (by omega), if_pos (by omega), if_pos (by omega), if_neg ce, w64 (by omega) (by omega)]
      rfl
theorem impl_PlaceOf_fev (l : Bool) (a b : List ByteArray) (c : List Int) (s : ByteArray) (ha : a.length ≤ 1048576) : Ev (fun k => impl_PlaceOf.f k l a b c s) (poL s a 0 (-1)) :=
  impl_PlaceOf_loop s a ha a.length 0 (-1) (by omega)
theorem spec_PlaceOf_loop (s : ByteArray) (l : Bool) (a b : List ByteArray) (c : List Int) (ha : a.length ≤ 1048576) : ∀ (d i : Nat) (o : Int), i + d = a.length → Ev (fun k => spec_PlaceOf.l0 k s o (i : Int) l a b c) (poL s (a.drop i) (i : Int) o) := by
  intro d
  induction d with
  | zero =>
    intro i o hi
    refine ev_end fun k => ?_
    rw [spec_PlaceOf.l0, if_neg (by omega), List.drop_eq_nil_of_le (by omega)]
    rfl
  | succ d ih =>
    intro i o hi
    rw [drop_rdOf ByteArray.empty a i (by omega)]
    unfold poL
    have hn := fun o' => ih (i + 1) o' (by omega)
    by_cases ce : Op.bytesLess s.toList ((rdOf ByteArray.empty a (i : Int)).toList) = true
    · rw [if_pos ce]
      refine ev_go (hn o) fun k => ?_
      rw [spec_PlaceOf.l0, if_pos (by omega), if_pos (by omega), if_pos ce, w64 (by omega) (by omega)]
      rfl
    · rw [if_neg ce]
      refine ev_go (hn i) fun k => ?_
      rw [spec_PlaceOf.l0, if_pos (by omega), if_pos (by omega), if_neg ce, w64 (by omega) (by omega)]
      rfl
theorem spec_PlaceOf_fev (l : Bool) (a b : List ByteArray) (c : List Int) (s : ByteArray) (ha : a.length ≤ 1048576) : Ev (fun k => spec_PlaceOf.f k l a b c s) (poL s a 0 (-1)) :=
  spec_PlaceOf_loop s l a b c ha a.length 0 (-1) (by omega)
theorem laws_szStringS_loop (l : List ByteArray) (hb : l.length ≤ 9223372036854775807) (hw : ∀ x ∈ l, 0 ≤ bwt x ∧ bwt x ≤ 9223372036854775807) : ∀ (d i : Nat) (left : Int), i + d = l.length → 0 ≤ left → left ≤ 9223372036854775807 → Ev (fun k => laws_szStringS.l0 k l left (i : Int)) (szL bwt (l.drop i) left) := by
  intro d
  induction d with
  | zero =>
    intro i left hi h0 h1
    refine ev_end fun k => ?_
    rw [laws_szStringS.l0, if_neg (by omega), List.drop_eq_nil_of_le (by omega)]
    rfl
  | succ d ih =>
    intro i left hi h0 h1
    have hx := hw _ (rdOf_mem ByteArray.empty l i (by omega))
    rw [drop_rdOf ByteArray.empty l i (by omega)]
    unfold szL
    have hu : bwt (rdOf ByteArray.empty l (i : Int)) = ((rdOf ByteArray.empty l (i : Int)).size : Int) := rfl
    by_cases c : left - bwt (rdOf ByteArray.empty l (i : Int)) < 0
    · rw [if_pos c]
      refine ev_end fun k => ?_
      rw [hu] at c hx
      rw [laws_szStringS.l0, if_pos (by omega), if_pos (by omega), w64 (by omega) (by omega), if_pos c]
    · rw [if_neg c]
      rw [hu] at c hx ⊢
      refine ev_go (ih (i + 1) _ (by omega) (by omega) (by omega)) fun k => ?_
      rw [laws_szStringS.l0, if_pos (by omega), if_pos (by omega), w64 (n := left - _) (by omega) (by omega), if_neg c, w64 (n := (i : Int) + 1) (by omega) (by omega)]
      rfl
theorem laws_szStringS_fev (l : List ByteArray) (hb : l.length ≤ 9223372036854775807) (hw : ∀ x ∈ l, 0 ≤ bwt x ∧ bwt x ≤ 9223372036854775807) (left : Int) (h0 : 0 ≤ left) (h1 : left ≤ 9223372036854775807) : Ev (fun k => laws_szStringS.f k l left) (szR bwt l left) := by
  unfold szR
  by_cases c : left - (l.length : Int) < 0
  · rw [if_pos c]
    refine ev_some fun k => ?_
    unfold laws_szStringS.f
    rw [w64 (by omega) (by omega), if_pos c]
  · rw [if_neg c]
    refine Ev.congr (fun k => ?_) (laws_szStringS_loop l hb hw l.length 0 (left - (l.length : Int)) (by omega) (by omega) (by omega))
    unfold laws_szStringS.f
    rw [w64 (by omega) (by omega), if_neg c]
    rfl
theorem laws_szIntS_eq (l : List Int) (hb : l.length ≤ 9223372036854775807) (left : Int) (h0 : 0 ≤ left) (h1 : left ≤ 9223372036854775807) : laws_szIntS.f l left = some (if left - (l.length : Int) < 0 then -1 else left - (l.length : Int)) := by
  unfold laws_szIntS.f
  rw [w64 (by omega) (by omega)]
  split <;> rfl
def szNodeR (a b : List ByteArray) (c : List Int) (left : Int) : Int :=
  if szR bwt a left < 0 then -1 else if szR bwt b (szR bwt a left) < 0 then -1 else if szR bwt b (szR bwt a left) - (c.length : Int) < 0 then -1 else szR bwt b (szR bwt a left) - (c.length : Int)
theorem laws_szNode_fev (l : Bool) (a b : List ByteArray) (c : List Int) (ha : a.length ≤ 9223372036854775807) (hb : b.length ≤ 9223372036854775807) (hc : c.length ≤ 9223372036854775807) (ha' : ∀ x ∈ a, x.size ≤ 9223372036854775807) (hb' : ∀ x ∈ b, x.size ≤ 9223372036854775807) (left : Int) (h0 : 0 ≤ left) (h1 : left ≤ 9223372036854775807) : Ev (fun k => laws_szNode.f k l a b c left) (szNodeR a b c left) := by
  have w1 : ∀ x ∈ a, 0 ≤ bwt x ∧ bwt x ≤ 9223372036854775807 := fun x hx => ⟨bwt_nonneg x, Int.ofNat_le.2 (ha' x hx)⟩
  have w2 : ∀ x ∈ b, 0 ≤ bwt x ∧ bwt x ≤ 9223372036854775807 := fun x hx => ⟨bwt_nonneg x, Int.ofNat_le.2 (hb' x hx)⟩
  unfold szNodeR
  refine ev_call (laws_szStringS_fev a ha w1 left h0 h1) ?_ (fun k => rfl)
  by_cases c1 : szR bwt a left < 0
  · rw [if_pos c1]
    exact ev_some fun k => by rw [if_pos c1]
  · rw [if_neg c1]
    have hle := szR_le bwt a (fun x hx => (w1 x hx).1) left (by omega)
    refine ev_call (laws_szStringS_fev b hb w2 _ (by omega) (by omega)) ?_ (fun k => if_neg c1)
    by_cases c2 : szR bwt b (szR bwt a left) < 0
    · rw [if_pos c2]
      exact ev_some fun k => by rw [if_pos c2]
    · rw [if_neg c2]
      have hle2 := szR_le bwt b (fun x hx => (w2 x hx).1) (szR bwt a left) (by omega)
      refine ev_some fun k => ?_
      rw [if_neg c2, laws_szIntS_eq c hc _ (by omega) (by omega), Option.bind_some]
      split <;> rfl
theorem szNodeR_tells (a b : List ByteArray) (c : List Int) (left : Int) (h : 0 ≤ szNodeR a b c left) : (a.length : Int) + sumW bwt a + (b.length : Int) + sumW bwt b + (c.length : Int) ≤ left ∧ 0 ≤ sumW bwt a ∧ 0 ≤ sumW bwt b := by
  unfold szNodeR at h
  by_cases c1 : szR bwt a left < 0
  · rw [if_pos c1] at h; omega
  · rw [if_neg c1] at h
    have h1 := szR_tells bwt a (fun x _ => bwt_nonneg x) left (by omega)
    by_cases c2 : szR bwt b (szR bwt a left) < 0
    · rw [if_pos c2] at h; omega
    · rw [if_neg c2] at h
      have h2 := szR_tells bwt b (fun x _ => bwt_nonneg x) _ (by omega : 0 ≤ szR bwt b (szR bwt a left))
      by_cases c3 : szR bwt b (szR bwt a left) - (c.length : Int) < 0
      · rw [if_pos c3] at h; omega
      · rw [if_neg c3] at h; omega
theorem laws_toStringS_loop (l : List ByteArray) (hb : l.length ≤ 1048576) : ∀ (d i : Nat) (pre rest : List ByteArray), i + d = l.length → pre.length = i → rest.length = d → Ev (fun k => laws_toStringS.l0 k l (pre ++ rest) (i : Int)) (pre ++ (l.drop i).map (fun x => x)) := by
  intro d
  induction d with
  | zero =>
    intro i pre rest hi hp hr
    refine ev_end fun k => ?_
    rw [laws_toStringS.l0, if_neg (by omega), List.drop_eq_nil_of_le (by omega), List.eq_nil_of_length_eq_zero hr]
    rfl
  | succ d ih =>
    intro i pre rest hi hp hr
    obtain ⟨x, t, rfl⟩ : ∃ x t, rest = x :: t := by
      cases rest with
      | nil => simp at hr
      | cons x t => exact ⟨x, t, rfl⟩
    rw [drop_rdOf ByteArray.empty l i (by omega), List.map_cons]
    have hn := ih (i + 1) (pre ++ [(fun x => x) (rdOf ByteArray.empty l (i : Int))]) t (by omega) (by simp; omega) (by simp at hr; omega)
    rw [List.append_assoc, List.singleton_append, List.append_assoc, List.singleton_append] at hn
    refine ev_go hn fun k => ?_
    rw [laws_toStringS.l0, if_pos (by omega), if_pos (by omega), if_pos (by rw [List.length_append, List.length_cons]; rw [List.length_cons] at hr; omega), Int.toNat_natCast, set_mid pre t x _ i hp, w64 (by omega) (by omega)]
    rfl
theorem laws_toStringS_fev (l : List ByteArray) (hb : l.length ≤ 1048576) : Ev (fun k => laws_toStringS.f k l) (l.map (fun x => x)) := by
  have := laws_toStringS_loop l hb l.length 0 [] (List.replicate l.length (⟨#[]⟩ : ByteArray)) (by omega) rfl (by simp)
  refine Ev.congr (fun k => ?_) this
  unfold laws_toStringS.f
  rw [if_pos (by omega), if_pos (by omega)]
  rfl
theorem laws_toIntS_loop (l : List Int) (hb : l.length ≤ 1048576) : ∀ (d i : Nat) (pre rest : List Int), i + d = l.length → pre.length = i → rest.length = d → Ev (fun k => laws_toIntS.l0 k l (pre ++ rest) (i : Int)) (pre ++ (l.drop i).map (fun x => x)) := by
  intro d
  induction d with
  | zero =>
    intro i pre rest hi hp hr
    refine ev_end fun k => ?_
    rw [laws_toIntS.l0, if_neg (by omega), List.drop_eq_nil_of_le (by omega), List.eq_nil_of_length_eq_zero hr]
    rfl
  | succ d ih =>
    intro i pre rest hi hp hr
    obtain ⟨x, t, rfl⟩ : ∃ x t, rest = x :: t := by
      cases rest with
      | nil => simp at hr
      | cons x t => exact ⟨x, t, rfl⟩
    rw [drop_rd l i (by omega), List.map_cons]
    have hn := ih (i + 1) (pre ++ [(fun x => x) (rd l (i : Int))]) t (by omega) (by simp; omega) (by simp at hr; omega)
    rw [List.append_assoc, List.singleton_append, List.append_assoc, List.singleton_append] at hn
    refine ev_go hn fun k => ?_
    rw [laws_toIntS.l0, if_pos (by omega), if_pos (by omega), if_pos (by rw [List.length_append, List.length_cons]; rw [List.length_cons] at hr; omega), Int.toNat_natCast, set_mid pre t x _ i hp, w64 (by omega) (by omega)]
    rfl
theorem laws_toIntS_fev (l : List Int) (hb : l.length ≤ 1048576) : Ev (fun k => laws_toIntS.f k l) (l.map (fun x => x)) := by
  have := laws_toIntS_loop l hb l.length 0 [] (List.replicate l.length (0 : Int)) (by omega) rfl (by simp)
  refine Ev.congr (fun k => ?_) this
  unfold laws_toIntS.f
  rw [if_pos (by omega), if_pos (by omega)]
  rfl
theorem laws_toNode_fev (l : Bool) (a b : List ByteArray) (c : List Int) (ha : a.length ≤ 1048576) (hb : b.length ≤ 1048576) (hc : c.length ≤ 1048576) : Ev (fun k => laws_toNode.f k l a b c) (l, a, b, c) := by
  have h := laws_toStringS_fev a ha
  have h2 := laws_toStringS_fev b hb
  have h3 := laws_toIntS_fev c hc
  rw [List.map_id'] at h h2 h3
  exact ev_call h (ev_call h2 (ev_call h3 (c := fun _ t => some (l, a, b, t)) (Ev.now _) (fun _ => rfl)) (fun _ => rfl)) (fun _ => rfl)
theorem laws_eqStringS_loop (a : List ByteArray) (hb : a.length ≤ 9223372036854775807) : ∀ (d i : Nat), i + d = a.length → Ev (fun k => laws_eqStringS.l0 k a a (i : Int)) true := by
  intro d
  induction d with
  | zero =>
    intro i hi
    refine ev_end fun k => ?_
    rw [laws_eqStringS.l0, if_neg (by omega)]
  | succ d ih =>
    intro i hi
    refine ev_go (ih (i + 1) (by omega)) fun k => ?_
    rw [laws_eqStringS.l0, if_pos (by omega), if_pos (by omega), if_pos (by omega), if_pos rfl, w64 (by omega) (by omega)]
    rfl
theorem laws_eqStringS_same (a : List ByteArray) (hb : a.length ≤ 9223372036854775807) : Ev (fun k => laws_eqStringS.f k a a) true := by
  refine Ev.congr (fun k => ?_) (laws_eqStringS_loop a hb a.length 0 (by omega))
  unfold laws_eqStringS.f
  rw [if_pos rfl]
  rfl
theorem laws_eqIntS_loop (a : List Int) (hb : a.length ≤ 9223372036854775807) : ∀ (d i : Nat), i + d = a.length → Ev (fun k => laws_eqIntS.l0 k a a (i : Int)) true := by
  intro d
  induction d with
  | zero =>
    intro i hi
    refine ev_end fun k => ?_
    rw [laws_eqIntS.l0, if_neg (by omega)]
  | succ d ih =>
    intro i hi
    refine ev_go (ih (i + 1) (by omega)) fun k => ?_
    rw [laws_eqIntS.l0, if_pos (by omega), if_pos (by omega), if_pos (by omega), if_pos rfl, w64 (by omega) (by omega)]
    rfl
theorem laws_eqIntS_same (a : List Int) (hb : a.length ≤ 9223372036854775807) : Ev (fun k => laws_eqIntS.f k a a) true := by
  refine Ev.congr (fun k => ?_) (laws_eqIntS_loop a hb a.length 0 (by omega))
  unfold laws_eqIntS.f
  rw [if_pos rfl]
  rfl
theorem laws_eqNode_same (l : Bool) (a b : List ByteArray) (c : List Int) (ha : a.length ≤ 9223372036854775807) (hb : b.length ≤ 9223372036854775807) (hc : c.length ≤ 9223372036854775807) : Ev (fun k => laws_eqNode.f k l a b c l a b c) true := by
  obtain ⟨K1, h1⟩ := laws_eqStringS_same a ha
  obtain ⟨K2, h2⟩ := laws_eqStringS_same b hb
  obtain ⟨K3, h3⟩ := laws_eqIntS_same c hc
  dsimp only at h1 h2 h3
  refine ⟨K1 + K2 + K3, fun k hk => ?_⟩
  dsimp only
  unfold laws_eqNode.f
  rw [bne_self_eq_false, if_neg (by decide), h1 k (by omega), Option.bind_some, if_pos rfl, h2 k (by omega), Option.bind_some, if_pos rfl, h3 k (by omega), Option.bind_some, if_pos rfl]
end Go.Proofs.Ytdgefpifohfcgaa.VFnExactPlaceOf
namespace Go.Proofs.Ytdgefpifohfcgaa.Pure
open Go.Proofs.Ytdgefpifohfcgaa.VFnExactPlaceOf
set_option linter.unusedVariables false
set_option linter.unusedSimpArgs false
open Go Go.RowKit Go.Proofs.YtdgefpifohfcgaaW.PrintWords Go.Proofs.YtdgefpifohfcgaaW.PrintLast Go.Proofs.YtdgefpifohfcgaaW.PrintMore
theorem FnExactPlaceOf (l : Bool) (a b : List ByteArray) (c : List Int) (s : ByteArray) (h1 : a.length ≤ 9223372036854775807) (h3 : ∀ x ∈ a, x.size ≤ 9223372036854775807) (h2 : b.length ≤ 9223372036854775807) (h4 : ∀ x ∈ b, x.size ≤ 9223372036854775807) (h5 : c.length ≤ 9223372036854775807) (_ : ∀ x ∈ c, (Lit.int .i64 x).wf = true) (_ : s.size ≤ 140737488351232) : ∃ k, laws_FnExactPlaceOf.f k l a b c s = some true := by
  by_cases cs : (s.size : Int) > 1048576
  · exact ⟨0, by unfold laws_FnExactPlaceOf.f; rw [if_pos cs]⟩
  · obtain ⟨K1, e1⟩ := laws_szNode_fev l a b c h1 h2 h5 h3 h4 1048576 (by omega) (by omega)
    dsimp only at e1
    by_cases cc : szNodeR a b c 1048576 < 0
    · refine ⟨K1, ?_⟩
      unfold laws_FnExactPlaceOf.f
      rw [if_neg cs, e1 _ (Nat.le_refl _), Option.bind_some, if_pos cc]
    · have ht := szNodeR_tells a b c 1048576 (by omega)
      obtain ⟨K2, e2⟩ := laws_toNode_fev l a b c (by omega) (by omega) (by omega)
      obtain ⟨K3, e3⟩ := spec_PlaceOf_fev l a b c s (by omega)
      obtain ⟨K4, e4⟩ := impl_PlaceOf_fev l a b c s (by omega)
      obtain ⟨K5, e5⟩ := laws_eqNode_same l a b c (by omega) (by omega) (by omega)
      dsimp only at e2 e3 e4 e5
      refine ⟨K1 + K2 + K3 + K4 + K5, ?_⟩
      unfold laws_FnExactPlaceOf.f
      rw [if_neg cs, e1 _ (by omega), Option.bind_some, if_neg cc, e2 _ (by omega), Option.bind_some, e3 _ (by omega), Option.bind_some, Option.bind_some, e4 _ (by omega), Option.bind_some, if_pos rfl, Option.bind_some, e5 _ (by omega), Option.bind_some, if_pos rfl]
end Go.Proofs.Ytdgefpifohfcgaa.Pure
