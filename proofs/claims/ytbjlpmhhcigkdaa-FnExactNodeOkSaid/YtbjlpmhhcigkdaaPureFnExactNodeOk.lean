/- The printed form of FnExactNodeOk answers true at every input that its bounds let in; no other conditions. -/
import Derived.Test.YtbjlpmhhcigkdaaVFnExactNodeOkx5
import Derived.Test.YtbjlpmhhcigkdaaM
namespace Go.Proofs.Ytbjlpmhhcigkdaa.VFnExactNodeOk
set_option linter.unusedVariables false
set_option linter.unusedSimpArgs false
open Go Go.RowKit Go.Proofs.YtbjlpmhhcigkdaaW.PrintWords Go.Proofs.YtbjlpmhhcigkdaaW.PrintLast Go.Proofs.YtbjlpmhhcigkdaaW.PrintMore
theorem laws_szStringS_loop (l : List ByteArray) (hb : l.length ≤ 9223372036854775807) (hw : ∀ x ∈ l, 0 ≤ bwt x ∧ bwt x ≤ 9223372036854775807) : ∀ (d i : Nat) (left : Int), i + d = l.length → 0 ≤ left → left ≤ 9223372036854775807 → Ev (fun k => laws_szStringS.l0 k l left (i : Int)) (szL bwt (l.drop i) left) := by
  intro d
  induction d with
  | zero =>
    intro i left hi h0 h1
    refine ev_end fun k => ?_
    rw [laws_szStringS.l0, if_neg (by omega), List.drop_eq_nil_of_le (by omega)]
    rfl
  | succ d ih =>
    intro i left hi h0 h1
    have hx := hw _ (rdOf_mem ByteArray.empty l i (by omega))
    rw [drop_rdOf ByteArray.empty l i (by omega)]
    unfold szL
    have hu : bwt (rdOf ByteArray.empty l (i : Int)) = ((rdOf ByteArray.empty l (i : Int)).size : Int) := rfl
    by_cases c : left - bwt (rdOf ByteArray.empty l (i : Int)) < 0
    · rw [if_pos c]
      refine ev_end fun k => ?_
      rw [hu] at c hx
      rw [laws_szStringS.l0, if_pos (by omega), if_pos (by omega), w64 (by omega) (by omega), if_pos c]
    · rw [if_neg c]
      rw [hu] at c hx ⊢
      refine ev_go (ih (i + 1) _ (by omega) (by omega) (by omega)) fun k => ?_
      rw [laws_szStringS.l0, if_pos (by omega), if_pos (by omega), w64 (n := left - _) (by omega) (by omega), if_neg c, w64 (n := (i : Int) + 1) (by omega) (by omega)]
      rfl
theorem laws_szStringS_fev (l : List ByteArray) (hb : l.length ≤ 9223372036854775807) (hw : ∀ x ∈ l, 0 ≤ bwt x ∧ bwt x ≤ 9223372036854775807) (left : Int) (h0 : 0 ≤ left) (h1 : left ≤ 9223372036854775807) : Ev (fun k => laws_szStringS.f k l left) (szR bwt l left) := by
  unfold szR
  by_cases c : left - (l.length : Int) < 0
  · rw [if_pos c]
    refine ev_some fun k => ?_
    unfold laws_szStringS.f
    rw [w64 (by omega) (by omega), if_pos c]
  · rw [if_neg c]
    refine Ev.congr (fun k => ?_) (laws_szStringS_loop l hb hw l.length 0 (left - (l.length : Int)) (by omega) (by omega) (by omega))
    unfold laws_szStringS.f
    rw [w64 (by omega) (by omega), if_neg c]
    rfl
theorem laws_szIntS_eq (l : List Int) (hb : l.length ≤ 9223372036854775807) (left : Int) (h0 : 0 ≤ left) (h1 : left ≤ 9223372036854775807) : laws_szIntS.f l left = some (if left - (l.length : Int) < 0 then -1 else left - (l.length : Int)) := by
  unfold laws_szIntS.f
  rw [w64 (by omega) (by omega)]
  split <;> rfl
def szNodeR (a b : List ByteArray) (c : List Int) (left : Int) : Int :=
  if szR bwt a left < 0 then -1 else if szR bwt b (szR bwt a left) < 0 then -1 else if szR bwt b (szR bwt a left) - (c.length : Int) < 0 then -1 else szR bwt b (szR bwt a left) - (c.length : Int)
theorem laws_szNode_fev (l : Bool) (a b : List ByteArray) (c : List Int) (ha : a.length ≤ 9223372036854775807) (hb : b.length ≤ 9223372036854775807) (hc : c.length ≤ 9223372036854775807) (ha' : ∀ x ∈ a, x.size ≤ 9223372036854775807) (hb' : ∀ x ∈ b, x.size ≤ 9223372036854775807) (left : Int) (h0 : 0 ≤ left) (h1 : left ≤ 9223372036854775807) : Ev (fun k => laws_szNode.f k l a b c left) (szNodeR a b c left) := by
  have w1 : ∀ x ∈ a, 0 ≤ bwt x ∧ bwt x ≤ 9223372036854775807 := fun x hx => ⟨bwt_nonneg x, Int.ofNat_le.2 (ha' x hx)⟩
  have w2 : ∀ x ∈ b, 0 ≤ bwt x ∧ bwt x ≤ 9223372036854775807 := fun x hx => ⟨bwt_nonneg x, Int.ofNat_le.2 (hb' x hx)⟩
  unfold szNodeR
  refine ev_call (laws_szStringS_fev a ha w1 left h0 h1) ?_ (fun k => rfl)
  by_cases c1 : szR bwt a left < 0
  · rw [if_pos c1]
    exact ev_some fun k => by rw [if_pos c1]
  · rw [if_neg c1]
    have hle := szR_le bwt a (fun x hx => (w1 x hx).1) left (by omega)
    refine ev_call (laws_szStringS_fev b hb w2 _ (by omega) (by omega)) ?_ (fun k => if_neg c1)
    by_cases c2 : szR bwt b (szR bwt a left) < 0
    · rw [if_pos c2]
      exact ev_some fun k => by rw [if_pos c2]
    · rw [if_neg c2]
      have hle2 := szR_le bwt b (fun x hx => (w2 x hx).1) (szR bwt a left) (by omega)
      refine ev_some fun k => ?_
      rw [if_neg c2, laws_szIntS_eq c hc _ (by omega) (by omega), Option.bind_some]
      split <;> rfl
theorem szNodeR_tells (a b : List ByteArray) (c : List Int) (left : Int) (h : 0 ≤ szNodeR a b c left) : (a.length : Int) + sumW bwt a + (b.length : Int) + sumW bwt b + (c.length : Int) ≤ left ∧ 0 ≤ sumW bwt a ∧ 0 ≤ sumW bwt b := by
  unfold szNodeR at h
  by_cases c1 : szR bwt a left < 0
  · rw [if_pos c1] at h; omega
  · rw [if_neg c1] at h
    have h1 := szR_tells bwt a (fun x _ => bwt_nonneg x) left (by omega)
    by_cases c2 : szR bwt b (szR bwt a left) < 0
    · rw [if_pos c2] at h; omega
    · rw [if_neg c2] at h
      have h2 := szR_tells bwt b (fun x _ => bwt_nonneg x) _ (by omega : 0 ≤ szR bwt b (szR bwt a left))
      by_cases c3 : szR bwt b (szR bwt a left) - (c.length : Int) < 0
      · rw [if_pos c3] at h; omega
      · rw [if_neg c3] at h; omega
theorem spec_l01In_eq (x a b : Int) : spec_l01In.f x a b = some (decide (a ≤ x ∧ x ≤ b)) := in_dec x a b
def specNodeAt (leaf : Bool) (keys vals : List ByteArray) (kids : List Int) (i : Nat) : Bool := fitAt 24 keys i && (ascAt keys i && (if leaf = true then fitAt 24 vals i else kidAt kids i))
theorem spec_NodeOk_twice (leaf : Bool) (keys vals : List ByteArray) (kids : List Int) (n : Nat) (hn : n = keys.length) (hk : kids.length = n) (hl : n ≤ 1048576) (i : Nat) (hi : i < n) : ∀ (d j : Nat), j + d = i → ((kids.drop j).take d).any (fun x => decide (x = rd kids (i : Int))) = false → ∀ res, Ev (fun k => spec_NodeOk.l0 k (n : Int) ((i + 1 : Nat) : Int) leaf keys vals kids) res → Ev (fun k => spec_NodeOk.l1 k (n : Int) (i : Int) (j : Int) leaf keys vals kids) res := by
  intro d
  induction d with
  | zero =>
    intro j hj _ res hr
    refine ev_go hr fun k => ?_
    rw [spec_NodeOk.l1, if_neg (by omega), w64 (by omega) (by omega)]
    rfl
  | succ d ih =>
    intro j hj ha res hr
    rw [drop_rd kids j (by omega), List.take_succ_cons, List.any_cons, Bool.or_eq_false_iff] at ha
    refine ev_go (ih (j + 1) (by omega) ha.2 res hr) fun k => ?_
    rw [spec_NodeOk.l1, if_pos (by omega), if_pos (by omega), if_pos (by omega), if_pos (by omega), if_pos (by omega), if_neg (of_decide_eq_false ha.1), w64 (by omega) (by omega)]
    rfl
theorem spec_NodeOk_found (leaf : Bool) (keys vals : List ByteArray) (kids : List Int) (n : Nat) (hk : kids.length = n) (hl : n ≤ 1048576) (i : Nat) (hi : i < n) : ∀ (d j : Nat), j + d = i → ((kids.drop j).take d).any (fun x => decide (x = rd kids (i : Int))) = true → Ev (fun k => spec_NodeOk.l1 k (n : Int) (i : Int) (j : Int) leaf keys vals kids) false := by
  intro d
  induction d with
  | zero => intro j hj ha; simp at ha
  | succ d ih =>
    intro j hj ha
    rw [drop_rd kids j (by omega), List.take_succ_cons, List.any_cons] at ha
    by_cases c : rd kids (j : Int) = rd kids (i : Int)
    · refine ev_end fun k => ?_
      rw [spec_NodeOk.l1, if_pos (by omega), if_pos (by omega), if_pos (by omega), if_pos (by omega), if_pos (by omega), if_pos c]
    · rw [decide_eq_false c, Bool.false_or] at ha
      refine ev_go (ih (j + 1) (by omega) ha) fun k => ?_
      rw [spec_NodeOk.l1, if_pos (by omega), if_pos (by omega), if_pos (by omega), if_pos (by omega), if_pos (by omega), if_neg c, w64 (by omega) (by omega)]
      rfl
theorem spec_NodeOk_loop (leaf : Bool) (keys vals : List ByteArray) (kids : List Int) (hl : keys.length ≤ 1048576) (h1 : leaf = true → vals.length = keys.length) (h2 : leaf = false → kids.length = keys.length) : Ev (fun k => spec_NodeOk.l0 k (keys.length : Int) 0 leaf keys vals kids) ((List.range' 0 keys.length).all (specNodeAt leaf keys vals kids)) := by
  rw [← ite_tf ((List.range' 0 keys.length).all (specNodeAt leaf keys vals kids))]
  have j3no : ∀ (i : Nat) (k : Nat), spec_NodeOk.j3 (k + 1) (keys.length : Int) (i : Int) true leaf keys vals kids = some false := fun i k => by rw [spec_NodeOk.j3, if_pos rfl]
  have j2no : ∀ (i : Nat) (k : Nat), spec_NodeOk.j2 (k + 1) (keys.length : Int) (i : Int) true leaf keys vals kids = some false := fun i k => by rw [spec_NodeOk.j2, if_pos rfl]
  -- the key's test
  have l0fit : ∀ (i : Nat), i < keys.length → fitAt 24 keys i = true → ∀ k, spec_NodeOk.l0 (k + 1) (keys.length : Int) (i : Int) leaf keys vals kids = spec_NodeOk.j2 k (keys.length : Int) (i : Int) (!(ascAt keys i)) leaf keys vals kids := by
    intro i hi hf k
    unfold fitAt at hf
    rw [Bool.not_eq_true'] at hf
    have hf' := of_decide_eq_false hf
    rw [spec_NodeOk.l0, if_pos (by omega), if_pos (by omega), if_pos (by omega), if_neg hf']
    unfold ascAt
    by_cases c : i = 0
    · rw [if_neg (by omega), decide_eq_true c]; rfl
    · rw [if_pos (by omega), w64 (by omega) (by omega), if_pos (by omega), if_pos (by omega), decide_eq_false c, Bool.false_or]
  have l0big : ∀ (i : Nat), i < keys.length → fitAt 24 keys i = false → ∀ k, spec_NodeOk.l0 (k + 1) (keys.length : Int) (i : Int) leaf keys vals kids = spec_NodeOk.j2 k (keys.length : Int) (i : Int) true leaf keys vals kids := by
    intro i hi hf k
    unfold fitAt at hf
    rw [Bool.not_eq_false'] at hf
    rw [spec_NodeOk.l0, if_pos (by omega), if_pos (by omega), if_pos (by omega), if_pos (of_decide_eq_true hf)]
  refine ev_every (fun k i => spec_NodeOk.l0 k (keys.length : Int) (i : Int) leaf keys vals kids) (specNodeAt leaf keys vals kids) keys.length ?_ ?_ ?_ keys.length 0 (by omega)
  · refine ev_end fun k => ?_
    rw [spec_NodeOk.l0, if_neg (by omega)]
  · intro i hi hp res hr
    unfold specNodeAt at hp
    rw [Bool.and_eq_true, Bool.and_eq_true] at hp
    obtain ⟨p1, p2, p3⟩ := hp
    refine ev_go (f := fun k => spec_NodeOk.j2 k (keys.length : Int) (i : Int) false leaf keys vals kids) ?_ fun k => by rw [l0fit i hi p1 k, p2]; rfl
    cases leaf with
    | true =>
      rw [if_pos rfl] at p3
      unfold fitAt at p3
      rw [Bool.not_eq_true'] at p3
      refine ev_go (f := fun k => spec_NodeOk.j3 k (keys.length : Int) (i : Int) false true keys vals kids) ?_ fun k => by rw [spec_NodeOk.j2, if_neg (by decide), if_pos rfl, if_pos (by omega), if_pos (by have := h1 rfl; omega), p3]
      refine ev_go hr fun k => ?_
      rw [spec_NodeOk.j3, if_neg (by decide), if_pos rfl, w64 (by omega) (by omega)]
      rfl
    | false =>
      rw [if_neg (by decide)] at p3
      unfold kidAt at p3
      rw [Bool.and_eq_true, decide_eq_true_eq] at p3
      refine ev_go (f := fun k => spec_NodeOk.j3 k (keys.length : Int) (i : Int) false false keys vals kids) ?_ fun k => by rw [spec_NodeOk.j2, if_neg (by decide), if_neg (by decide)]
      have hkl := h2 rfl
      refine ev_go (spec_NodeOk_twice false keys vals kids keys.length rfl hkl hl i hi i 0 (by omega) (by rw [List.drop_zero]; simpa using p3.2) res hr) fun k => ?_
      rw [spec_NodeOk.j3, if_neg (by decide), if_neg (by decide), if_pos (by omega), if_pos (by omega), spec_l01In_eq, Option.bind_some, decide_eq_true p3.1, if_pos rfl]
      rfl
  · intro i hi hp
    unfold specNodeAt at hp
    cases p1 : fitAt 24 keys i with
    | false =>
      refine ev_go (f := fun k => spec_NodeOk.j2 k (keys.length : Int) (i : Int) true leaf keys vals kids) (ev_end fun k => j2no i k) fun k => l0big i hi p1 k
    | true =>
      refine ev_go (f := fun k => spec_NodeOk.j2 k (keys.length : Int) (i : Int) (!(ascAt keys i)) leaf keys vals kids) ?_ fun k => l0fit i hi p1 k
      rw [p1, Bool.true_and] at hp
      cases p2 : ascAt keys i with
      | false => exact ev_end fun k => j2no i k
      | true =>
        rw [p2, Bool.true_and] at hp
        cases leaf with
        | true =>
          rw [if_pos rfl] at hp
          unfold fitAt at hp
          rw [Bool.not_eq_false'] at hp
          refine ev_go (f := fun k => spec_NodeOk.j3 k (keys.length : Int) (i : Int) true true keys vals kids) (ev_end fun k => j3no i k) fun k => by rw [Bool.not_true, spec_NodeOk.j2, if_neg (by decide), if_pos rfl, if_pos (by omega), if_pos (by have := h1 rfl; omega), hp]
        | false =>
          rw [if_neg (by decide)] at hp
          have hkl := h2 rfl
          unfold kidAt at hp
          refine ev_go (f := fun k => spec_NodeOk.j3 k (keys.length : Int) (i : Int) false false keys vals kids) ?_ fun k => by rw [Bool.not_true, spec_NodeOk.j2, if_neg (by decide), if_neg (by decide)]
          by_cases c : 2 ≤ rd kids (i : Int) ∧ rd kids (i : Int) ≤ 39
          · rw [decide_eq_true c, Bool.true_and, Bool.not_eq_false'] at hp
            refine ev_go (spec_NodeOk_found false keys vals kids keys.length hkl hl i hi i 0 (by omega) (by rw [List.drop_zero]; exact hp)) fun k => ?_
            rw [spec_NodeOk.j3, if_neg (by decide), if_neg (by decide), if_pos (by omega), if_pos (by omega), spec_l01In_eq, Option.bind_some, decide_eq_true c, if_pos rfl]
            rfl
          · refine ev_end fun k => ?_
            rw [spec_NodeOk.j3, if_neg (by decide), if_neg (by decide), if_pos (by omega), if_pos (by omega), spec_l01In_eq, Option.bind_some, decide_eq_false c, if_neg (by decide)]
theorem spec_NodeOk_eqR (leaf : Bool) (keys vals : List ByteArray) (kids : List Int) : nodeOkR leaf keys vals kids = (decide (1 ≤ (keys.length : Int) ∧ (keys.length : Int) ≤ 4) && ((if leaf = true then decide (vals.length = keys.length) && decide (kids.length = 0) else decide (kids.length = keys.length) && decide (vals.length = 0)) && (List.range' 0 keys.length).all (specNodeAt leaf keys vals kids))) := by
  unfold nodeOkR
  have e : (List.range' 0 keys.length).all (specNodeAt leaf keys vals kids) = ((List.range' 0 keys.length).all (fitAt 24 keys) && ((List.range' 0 keys.length).all (ascAt keys) && (List.range' 0 keys.length).all (fun i => if leaf = true then fitAt 24 vals i else kidAt kids i))) := by
    unfold specNodeAt
    rw [all_and, all_and]
  rw [e]
  cases leaf with
  | true =>
    simp only [if_true]
    by_cases c : vals.length = keys.length
    · rw [c, decide_eq_true (rfl : keys.length = keys.length)]
      have e2 : (List.range' 0 keys.length).all (fun i => fitAt 24 vals i) = (List.range' 0 keys.length).all (fitAt 24 vals) := rfl
      rw [e2]
      cases decide (1 ≤ (keys.length : Int) ∧ (keys.length : Int) ≤ 4) <;> cases (List.range' 0 keys.length).all (ascAt keys) <;> cases (List.range' 0 keys.length).all (fitAt 24 keys) <;> cases (List.range' 0 keys.length).all (fitAt 24 vals) <;> cases decide (kids.length = 0) <;> rfl
    · rw [decide_eq_false c]
      simp
  | false =>
    simp only [Bool.false_eq_true, if_false]
    by_cases c : kids.length = keys.length
    · rw [c, decide_eq_true (rfl : keys.length = keys.length)]
      have e2 : (List.range' 0 keys.length).all (fun i => kidAt kids i) = (List.range' 0 keys.length).all (kidAt kids) := rfl
      rw [e2]
      cases decide (1 ≤ (keys.length : Int) ∧ (keys.length : Int) ≤ 4) <;> cases (List.range' 0 keys.length).all (ascAt keys) <;> cases (List.range' 0 keys.length).all (fitAt 24 keys) <;> cases (List.range' 0 keys.length).all (kidAt kids) <;> cases decide (vals.length = 0) <;> rfl
    · rw [decide_eq_false c]
      simp
theorem spec_NodeOk_fev (leaf : Bool) (keys vals : List ByteArray) (kids : List Int) (h1 : keys.length ≤ 1048576) (hk : kids.length ≤ 1048576) (hv : vals.length ≤ 1048576) : Ev (fun k => spec_NodeOk.f k leaf keys vals kids) (nodeOkR leaf keys vals kids) := by
  have bad : ∀ k, spec_NodeOk.j0 (k + 1) (keys.length : Int) true leaf keys vals kids = some false := fun k => by rw [spec_NodeOk.j0, if_pos rfl]
  rw [spec_NodeOk_eqR]
  by_cases c1 : 1 ≤ (keys.length : Int) ∧ (keys.length : Int) ≤ 4
  · rw [decide_eq_true c1, Bool.true_and]
    cases leaf with
    | true =>
      simp only [if_true]
      by_cases c2 : vals.length = keys.length
      · by_cases c3 : kids.length = 0
        · rw [decide_eq_true c2, decide_eq_true c3, Bool.true_and, Bool.true_and]
          refine ev_go (spec_NodeOk_loop true keys vals kids h1 (fun _ => c2) (fun h => by cases h)) fun k => ?_
          unfold spec_NodeOk.f
          rw [spec_l01In_eq, Option.bind_some, decide_eq_true c1, if_pos rfl, if_pos rfl, if_pos (by omega), if_pos (by omega), spec_NodeOk.j0, if_neg (by decide)]
        · rw [decide_eq_false c3, Bool.and_false, Bool.false_and]
          refine ev_end fun k => ?_
          unfold spec_NodeOk.f
          rw [spec_l01In_eq, Option.bind_some, decide_eq_true c1, if_pos rfl, if_pos rfl, if_pos (by omega), if_neg (by omega), bad]
      · rw [decide_eq_false c2, Bool.false_and, Bool.false_and]
        refine ev_end fun k => ?_
        unfold spec_NodeOk.f
        rw [spec_l01In_eq, Option.bind_some, decide_eq_true c1, if_pos rfl, if_pos rfl, if_neg (by omega), bad]
    | false =>
      simp only [Bool.false_eq_true, if_false]
      by_cases c2 : kids.length = keys.length
      · by_cases c3 : vals.length = 0
        · rw [decide_eq_true c2, decide_eq_true c3, Bool.true_and, Bool.true_and]
          refine ev_go (spec_NodeOk_loop false keys vals kids h1 (fun h => by cases h) (fun _ => c2)) fun k => ?_
          unfold spec_NodeOk.f
          rw [spec_l01In_eq, Option.bind_some, decide_eq_true c1, if_pos rfl, if_neg (by decide), if_pos (by omega), c3]
          rw [show (((0 : Nat) : Int) != 0) = false from rfl, spec_NodeOk.j0, if_neg (by decide)]
        · rw [decide_eq_false c3, Bool.and_false, Bool.false_and]
          refine ev_end fun k => ?_
          unfold spec_NodeOk.f
          have e : ((vals.length : Int) != 0) = true := by simp only [bne_iff_ne, ne_eq]; omega
          rw [spec_l01In_eq, Option.bind_some, decide_eq_true c1, if_pos rfl, if_neg (by decide), if_pos (by omega), e, bad]
      · rw [decide_eq_false c2, Bool.false_and, Bool.false_and]
        refine ev_end fun k => ?_
        unfold spec_NodeOk.f
        rw [spec_l01In_eq, Option.bind_some, decide_eq_true c1, if_pos rfl, if_neg (by decide), if_neg (by omega), bad]
  · rw [decide_eq_false c1, Bool.false_and]
    refine ev_end fun k => ?_
    unfold spec_NodeOk.f
    rw [spec_l01In_eq, Option.bind_some, decide_eq_false c1, if_neg (by decide), bad]
theorem laws_toStringS_loop (l : List ByteArray) (hb : l.length ≤ 1048576) : ∀ (d i : Nat) (pre rest : List ByteArray), i + d = l.length → pre.length = i → rest.length = d → Ev (fun k => laws_toStringS.l0 k l (pre ++ rest) (i : Int)) (pre ++ (l.drop i).map (fun x => x)) := by
  intro d
  induction d with
  | zero =>
    intro i pre rest hi hp hr
    refine ev_end fun k => ?_
    rw [laws_toStringS.l0, if_neg (by omega), List.drop_eq_nil_of_le (by omega), List.eq_nil_of_length_eq_zero hr]
    rfl
  | succ d ih =>
    intro i pre rest hi hp hr
    obtain ⟨x, t, rfl⟩ : ∃ x t, rest = x :: t := by
      cases rest with
      | nil => simp at hr
      | cons x t => exact ⟨x, t, rfl⟩
    rw [drop_rdOf ByteArray.empty l i (by omega), List.map_cons]
    have hn := ih (i + 1) (pre ++ [(fun x => x) (rdOf ByteArray.empty l (i : Int))]) t (by omega) (by simp; omega) (by simp at hr; omega)
    rw [List.append_assoc, List.singleton_append, List.append_assoc, List.singleton_append] at hn
    refine ev_go hn fun k => ?_
    rw [laws_toStringS.l0, if_pos (by omega), if_pos (by omega), if_pos (by rw [List.length_append, List.length_cons]; rw [List.length_cons] at hr; omega), Int.toNat_natCast, set_mid pre t x _ i hp, w64 (by omega) (by omega)]
    rfl
theorem laws_toStringS_fev (l : List ByteArray) (hb : l.length ≤ 1048576) : Ev (fun k => laws_toStringS.f k l) (l.map (fun x => x)) := by
  have := laws_toStringS_loop l hb l.length 0 [] (List.replicate l.length (⟨#[]⟩ : ByteArray)) (by omega) rfl (by simp)
  refine Ev.congr (fun k => ?_) this
  unfold laws_toStringS.f
  rw [if_pos (by omega), if_pos (by omega)]
  rfl
theorem laws_toIntS_loop (l : List Int) (hb : l.length ≤ 1048576) : ∀ (d i : Nat) (pre rest : List Int), i + d = l.length → pre.length = i → rest.length = d → Ev (fun k => laws_toIntS.l0 k l (pre ++ rest) (i : Int)) (pre ++ (l.drop i).map (fun x => x)) := by
  intro d
  induction d with
  | zero =>
    intro i pre rest hi hp hr
    refine ev_end fun k => ?_
    rw [laws_toIntS.l0, if_neg (by omega), List.drop_eq_nil_of_le (by omega), List.eq_nil_of_length_eq_zero hr]
    rfl
  | succ d ih =>
    intro i pre rest hi hp hr
    obtain ⟨x, t, rfl⟩ : ∃ x t, rest = x :: t := by
      cases rest with
      | nil => simp at hr
      | cons x t => exact ⟨x, t, rfl⟩
    rw [drop_rd l i (by omega), List.map_cons]
    have hn := ih (i + 1) (pre ++ [(fun x => x) (rd l (i : Int))]) t (by omega) (by simp; omega) (by simp at hr; omega)
    rw [List.append_assoc, List.singleton_append, List.append_assoc, List.singleton_append] at hn
    refine ev_go hn fun k => ?_
    rw [laws_toIntS.l0, if_pos (by omega), if_pos (by omega), if_pos (by rw [List.length_append, List.length_cons]; rw [List.length_cons] at hr; omega), Int.toNat_natCast, set_mid pre t x _ i hp, w64 (by omega) (by omega)]
    rfl
theorem laws_toIntS_fev (l : List Int) (hb : l.length ≤ 1048576) : Ev (fun k => laws_toIntS.f k l) (l.map (fun x => x)) := by
  have := laws_toIntS_loop l hb l.length 0 [] (List.replicate l.length (0 : Int)) (by omega) rfl (by simp)
  refine Ev.congr (fun k => ?_) this
  unfold laws_toIntS.f
  rw [if_pos (by omega), if_pos (by omega)]
  rfl
theorem laws_toNode_fev (l : Bool) (a b : List ByteArray) (c : List Int) (ha : a.length ≤ 1048576) (hb : b.length ≤ 1048576) (hc : c.length ≤ 1048576) : Ev (fun k => laws_toNode.f k l a b c) (l, a, b, c) := by
  have h := laws_toStringS_fev a ha
  have h2 := laws_toStringS_fev b hb
  have h3 := laws_toIntS_fev c hc
  rw [List.map_id'] at h h2 h3
  exact ev_call h (ev_call h2 (ev_call h3 (c := fun _ t => some (l, a, b, t)) (Ev.now _) (fun _ => rfl)) (fun _ => rfl)) (fun _ => rfl)
theorem impl_in_eq (x a b : Int) : impl_in.f x a b = some (decide (a ≤ x ∧ x ≤ b)) := in_dec x a b
theorem impl_ascending_fev (l : List ByteArray) (hl : l.length ≤ 9223372036854775806) : Ev (fun k => impl_ascending.f k l) ((List.range' 0 l.length).all (ascAt l)) := by
  rw [← ite_tf ((List.range' 0 l.length).all (ascAt l))]
  refine ev_every (fun k i => impl_ascending.l0 k l (l.length : Int) (i : Int)) (ascAt l) l.length ?_ ?_ ?_ l.length 0 (by omega)
  · refine ev_end fun k => ?_
    rw [impl_ascending.l0, if_neg (by omega)]
  · intro i hi hp res hr
    refine ev_go hr fun k => ?_
    try dsimp only
    unfold ascAt at hp
    rw [impl_ascending.l0, if_pos (by omega), w64 (n := (i : Int) + 1) (by omega) (by omega)]
    by_cases c : i = 0
    · rw [if_neg (by omega)]; rfl
    · rw [decide_eq_false c, Bool.false_or] at hp
      rw [if_pos (by omega), w64 (by omega) (by omega), if_pos (by omega), if_pos (by omega), if_pos (by omega), if_pos (by omega), if_pos hp]
      rfl
  · intro i hi hp
    refine ev_end fun k => ?_
    try dsimp only
    unfold ascAt at hp
    rw [Bool.or_eq_false_iff] at hp
    have c : i ≠ 0 := of_decide_eq_false hp.1
    rw [impl_ascending.l0, if_pos (by omega), if_pos (by omega), w64 (n := (i : Int) - 1) (by omega) (by omega), if_pos (by omega), if_pos (by omega), if_pos (by omega), if_pos (by omega), hp.2, if_neg (by decide)]
theorem impl_longer_eq (l : List ByteArray) (m : Int) : impl_longer.f l m = some (l.any fun s => decide ((s.size : Int) > m)) := rfl
theorem longer_fits (l : List ByteArray) (m : Int) : (List.range' 0 l.length).all (fitAt m l) = !(l.any fun s => decide ((s.size : Int) > m)) := any_places ByteArray.empty (fun s => decide ((s.size : Int) > m)) l
theorem slices_Index_int_int_loop (l : List Int) (v : Int) (hl : l.length ≤ 9223372036854775806) : ∀ d i : Nat, i + d = l.length → Ev (fun k => slices_Index_int_int.l0 k l v (l.length : Int) (i : Int)) (idxP (fun x => decide (x = v)) (l.drop i) (i : Int)) := by
  intro d
  induction d with
  | zero =>
    intro i hi
    refine ev_end fun k => ?_
    rw [slices_Index_int_int.l0, if_neg (by omega), List.drop_eq_nil_of_le (by omega)]
    rfl
  | succ d ih =>
    intro i hi
    rw [drop_rd l i (by omega), idxP_step]
    by_cases c : rd l (i : Int) = v
    · rw [if_pos (decide_eq_true c)]
      refine ev_end fun k => ?_
      rw [slices_Index_int_int.l0, if_pos (by omega), if_pos (by omega), if_pos (by omega), if_pos c.symm]
    · rw [decide_eq_false c, if_neg (by decide)]
      refine ev_go (ih (i + 1) (by omega)) fun k => ?_
      rw [slices_Index_int_int.l0, if_pos (by omega), if_pos (by omega), if_pos (by omega), if_neg (fun h => c h.symm), w64 (by omega) (by omega)]
      rfl
theorem slices_Contains_int_int_fev (l : List Int) (v : Int) (hl : l.length ≤ 9223372036854775806) : Ev (fun k => slices_Contains_int_int.f k l v) (l.any fun x => decide (x = v)) := by
  rw [← idxP_any]
  have h := slices_Index_int_int_loop l v hl l.length 0 (by omega)
  rw [List.drop_zero] at h
  exact ev_call h (c := fun _ t => some (decide (t ≥ 0))) (Ev.now _) fun k => rfl
theorem impl_NodeOk_kids (leaf : Bool) (keys vals : List ByteArray) (kids : List Int) (hl : kids.length ≤ 1048576) : Ev (fun k => impl_NodeOk.l0 k kids (kids.length : Int) 0 leaf keys vals kids) ((List.range' 0 kids.length).all (kidAt kids) && (decide (kids.length = keys.length) && decide (vals.length = 0))) := by
  rw [← ite_ff]
  refine ev_every (fun k i => impl_NodeOk.l0 k kids (kids.length : Int) (i : Int) leaf keys vals kids) (kidAt kids) kids.length ?_ ?_ ?_ kids.length 0 (by omega)
  · refine ev_end fun k => ?_
    rw [impl_NodeOk.l0, if_neg (by omega)]
    by_cases c : kids.length = keys.length
    · rw [if_pos (by omega), decide_eq_true c, Bool.true_and]
      by_cases d : vals.length = 0
      · rw [d]; rfl
      · rw [decide_eq_false d]
        congr 1
        simp only [beq_eq_false_iff_ne]
        omega
    · rw [if_neg (by omega), decide_eq_false c, Bool.false_and]
  · intro i hi hp res hr
    unfold kidAt at hp
    rw [Bool.and_eq_true, decide_eq_true_eq] at hp
    obtain ⟨K1, e1⟩ := slices_Contains_int_int_fev (kids.take i) (rd kids (i : Int)) (by rw [List.length_take]; omega)
    obtain ⟨K2, e2⟩ := hr
    refine ev_succ ⟨K1 + K2, fun k hk => ?_⟩
    have h3 : (kids.take i).any (fun x => decide (x = rd kids (i : Int))) = false := by simpa using hp.2
    have e1' := e1 k (by omega)
    dsimp only at e1'
    rw [h3] at e1'
    try dsimp only
    rw [impl_NodeOk.l0, if_pos (by omega), if_pos (by omega), if_pos (by omega), impl_in_eq, Option.bind_some, decide_eq_true hp.1, if_pos rfl, if_pos (by omega), Int.toNat_natCast, e1', Option.bind_some, if_neg (by decide), w64 (by omega) (by omega)]
    exact e2 k (by omega)
  · intro i hi hp
    unfold kidAt at hp
    by_cases c : 2 ≤ rd kids (i : Int) ∧ rd kids (i : Int) ≤ 39
    · rw [decide_eq_true c, Bool.true_and] at hp
      obtain ⟨K1, e1⟩ := slices_Contains_int_int_fev (kids.take i) (rd kids (i : Int)) (by rw [List.length_take]; omega)
      refine ev_succ ⟨K1, fun k hk => ?_⟩
      have h3 : (kids.take i).any (fun x => decide (x = rd kids (i : Int))) = true := by simpa using hp
      have e1' := e1 k (by omega)
      dsimp only at e1'
      rw [h3] at e1'
      try dsimp only
      rw [impl_NodeOk.l0, if_pos (by omega), if_pos (by omega), if_pos (by omega), impl_in_eq, Option.bind_some, decide_eq_true c, if_pos rfl, if_pos (by omega), Int.toNat_natCast, e1', Option.bind_some, if_pos rfl]
    · refine ev_end fun k => ?_
      try dsimp only
      rw [impl_NodeOk.l0, if_pos (by omega), if_pos (by omega), if_pos (by omega), impl_in_eq, Option.bind_some, decide_eq_false c, if_neg (by decide)]
theorem impl_NodeOk_tail (leaf : Bool) (keys vals : List ByteArray) (kids : List Int) (hk : kids.length ≤ 1048576) : Ev (fun k => impl_NodeOk.j0 k false leaf keys vals kids) (if leaf = true then decide (vals.length = keys.length) && (List.range' 0 vals.length).all (fitAt 24 vals) && decide (kids.length = 0)
  else (List.range' 0 kids.length).all (kidAt kids) && decide (kids.length = keys.length) && decide (vals.length = 0)) := by
  cases leaf with
  | true =>
    rw [if_pos rfl, longer_fits]
    refine ev_end fun k => ?_
    rw [impl_NodeOk.j0, if_neg (by decide), if_pos rfl]
    by_cases c : vals.length = keys.length
    · rw [if_pos (by omega), impl_longer_eq, Option.bind_some, decide_eq_true c, Bool.true_and]
      cases vals.any fun s => decide ((s.size : Int) > 24) with
      | true => rfl
      | false =>
        rw [if_neg (by decide)]
        by_cases d : kids.length = 0
        · rw [d]; rfl
        · rw [decide_eq_false d]
          congr 1
          simp only [Bool.not_false, Bool.true_and, beq_eq_false_iff_ne]
          omega
    · rw [if_neg (by omega), decide_eq_false c, Bool.false_and, Bool.false_and]
  | false =>
    rw [if_neg (by decide), Bool.and_assoc]
    refine ev_go (impl_NodeOk_kids false keys vals kids hk) fun k => ?_
    rw [impl_NodeOk.j0, if_neg (by decide), if_neg (by decide)]
theorem impl_NodeOk_fev (leaf : Bool) (keys vals : List ByteArray) (kids : List Int) (h1 : keys.length ≤ 1048576) (hk : kids.length ≤ 1048576) : Ev (fun k => impl_NodeOk.f k leaf keys vals kids) (nodeOkR leaf keys vals kids) := by
  have bad : ∀ k, impl_NodeOk.j0 (k + 1) true leaf keys vals kids = some false := fun k => by rw [impl_NodeOk.j0, if_pos rfl]
  unfold nodeOkR
  by_cases c1 : 1 ≤ (keys.length : Int) ∧ (keys.length : Int) ≤ 4
  · rw [decide_eq_true c1, Bool.true_and]
    obtain ⟨K1, e1⟩ := impl_ascending_fev keys (by omega)
    cases hA : (List.range' 0 keys.length).all (ascAt keys) with
    | false =>
      rw [hA] at e1
      refine ev_succ ⟨K1, fun k hk => ?_⟩
      dsimp only at e1 ⊢
      rw [impl_NodeOk.f, impl_in_eq, Option.bind_some, decide_eq_true c1, if_pos rfl, e1 (k + 1) (by omega), Option.bind_some, if_neg (by decide), bad]
      rfl
    | true =>
      rw [hA] at e1
      rw [Bool.true_and, longer_fits]
      cases hL : keys.any fun s => decide ((s.size : Int) > 24) with
      | true =>
        refine ev_succ ⟨K1, fun k hk => ?_⟩
        dsimp only at e1 ⊢
        rw [impl_NodeOk.f, impl_in_eq, Option.bind_some, decide_eq_true c1, if_pos rfl, e1 (k + 1) (by omega), Option.bind_some, if_pos rfl, impl_longer_eq, Option.bind_some, hL, bad]
        rfl
      | false =>
        obtain ⟨K2, e2⟩ := impl_NodeOk_tail leaf keys vals kids hk
        refine ⟨K1 + K2, fun k hk => ?_⟩
        dsimp only at e1 e2 ⊢
        rw [impl_NodeOk.f, impl_in_eq, Option.bind_some, decide_eq_true c1, if_pos rfl, e1 k (by omega), Option.bind_some, if_pos rfl, impl_longer_eq, Option.bind_some, hL, e2 k (by omega)]
        rfl
  · refine ev_end fun k => ?_
    try dsimp only
    rw [impl_NodeOk.f, impl_in_eq, Option.bind_some, decide_eq_false c1, if_neg (by decide), bad]
    rfl
theorem laws_eqStringS_loop (a : List ByteArray) (hb : a.length ≤ 9223372036854775807) : ∀ (d i : Nat), i + d = a.length → Ev (fun k => laws_eqStringS.l0 k a a (i : Int)) true := by
  intro d
  induction d with
  | zero =>
    intro i hi
    refine ev_end fun k => ?_
    rw [laws_eqStringS.l0, if_neg (by omega)]
  | succ d ih =>
    intro i hi
    refine ev_go (ih (i + 1) (by omega)) fun k => ?_
    rw [laws_eqStringS.l0, if_pos (by omega), if_pos (by omega), if_pos (by omega), if_pos rfl, w64 (by omega) (by omega)]
    rfl
theorem laws_eqStringS_same (a : List ByteArray) (hb : a.length ≤ 9223372036854775807) : Ev (fun k => laws_eqStringS.f k a a) true := by
  refine Ev.congr (fun k => ?_) (laws_eqStringS_loop a hb a.length 0 (by omega))
  unfold laws_eqStringS.f
  rw [if_pos rfl]
  rfl
theorem laws_eqIntS_loop (a : List Int) (hb : a.length ≤ 9223372036854775807) : ∀ (d i : Nat), i + d = a.length → Ev (fun k => laws_eqIntS.l0 k a a (i : Int)) true := by
  intro d
  induction d with
  | zero =>
    intro i hi
    refine ev_end fun k => ?_
    rw [laws_eqIntS.l0, if_neg (by omega)]
  | succ d ih =>
    intro i hi
    refine ev_go (ih (i + 1) (by omega)) fun k => ?_
    rw [laws_eqIntS.l0, if_pos (by omega), if_pos (by omega), if_pos (by omega), if_pos rfl, w64 (by omega) (by omega)]
    rfl
theorem laws_eqIntS_same (a : List Int) (hb : a.length ≤ 9223372036854775807) : Ev (fun k => laws_eqIntS.f k a a) true := by
  refine Ev.congr (fun k => ?_) (laws_eqIntS_loop a hb a.length 0 (by omega))
  unfold laws_eqIntS.f
  rw [if_pos rfl]
  rfl
theorem laws_eqNode_same (l : Bool) (a b : List ByteArray) (c : List Int) (ha : a.length ≤ 9223372036854775807) (hb : b.length ≤ 9223372036854775807) (hc : c.length ≤ 9223372036854775807) : Ev (fun k => laws_eqNode.f k l a b c l a b c) true := by
  obtain ⟨K1, h1⟩ := laws_eqStringS_same a ha
  obtain ⟨K2, h2⟩ := laws_eqStringS_same b hb
  obtain ⟨K3, h3⟩ := laws_eqIntS_same c hc
  dsimp only at h1 h2 h3
  refine ⟨K1 + K2 + K3, fun k hk => ?_⟩
  dsimp only
  unfold laws_eqNode.f
  rw [bne_self_eq_false, if_neg (by decide), h1 k (by omega), Option.bind_some, if_pos rfl, h2 k (by omega), Option.bind_some, if_pos rfl, h3 k (by omega), Option.bind_some, if_pos rfl]
end Go.Proofs.Ytbjlpmhhcigkdaa.VFnExactNodeOk
namespace Go.Proofs.Ytbjlpmhhcigkdaa.Pure
open Go.Proofs.Ytbjlpmhhcigkdaa.VFnExactNodeOk
set_option linter.unusedVariables false
set_option linter.unusedSimpArgs false
open Go Go.RowKit Go.Proofs.YtbjlpmhhcigkdaaW.PrintWords Go.Proofs.YtbjlpmhhcigkdaaW.PrintLast Go.Proofs.YtbjlpmhhcigkdaaW.PrintMore
theorem FnExactNodeOk (l : Bool) (a b : List ByteArray) (c : List Int) (h1 : a.length ≤ 9223372036854775807) (h3 : ∀ x ∈ a, x.size ≤ 9223372036854775807) (h2 : b.length ≤ 9223372036854775807) (h4 : ∀ x ∈ b, x.size ≤ 9223372036854775807) (h5 : c.length ≤ 9223372036854775807) (_ : ∀ x ∈ c, (Lit.int .i64 x).wf = true) : ∃ k, laws_FnExactNodeOk.f k l a b c = some true := by
  obtain ⟨K1, e1⟩ := laws_szNode_fev l a b c h1 h2 h5 h3 h4 1048576 (by omega) (by omega)
  dsimp only at e1
  by_cases cc : szNodeR a b c 1048576 < 0
  · refine ⟨K1, ?_⟩
    unfold laws_FnExactNodeOk.f
    rw [e1 _ (Nat.le_refl _), Option.bind_some, if_pos cc]
  · have ht := szNodeR_tells a b c 1048576 (by omega)
    obtain ⟨K2, e2⟩ := laws_toNode_fev l a b c (by omega) (by omega) (by omega)
    obtain ⟨K3, e3⟩ := spec_NodeOk_fev l a b c (by omega) (by omega) (by omega)
    obtain ⟨K4, e4⟩ := impl_NodeOk_fev l a b c (by omega) (by omega)
    obtain ⟨K5, e5⟩ := laws_eqNode_same l a b c (by omega) (by omega) (by omega)
    dsimp only at e2 e3 e4 e5
    refine ⟨K1 + K2 + K3 + K4 + K5, ?_⟩
    unfold laws_FnExactNodeOk.f
    rw [e1 _ (by omega), Option.bind_some, if_neg cc, e2 _ (by omega), Option.bind_some, e3 _ (by omega), Option.bind_some, Option.bind_some, e4 _ (by omega), Option.bind_some, bne_self_eq_false, if_neg (by decide), Option.bind_some, e5 _ (by omega), Option.bind_some, if_pos rfl]
end Go.Proofs.Ytbjlpmhhcigkdaa.Pure
