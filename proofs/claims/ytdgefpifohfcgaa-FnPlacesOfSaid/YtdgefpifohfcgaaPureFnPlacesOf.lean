/- The printed form of FnPlacesOf answers true at every input that its bounds let in; no other conditions. -/
import Derived.Test.YtdgefpifohfcgaaVFnPlacesOfx6
import Derived.Test.YtdgefpifohfcgaaM
namespace Go.Proofs.Ytdgefpifohfcgaa.VFnPlacesOf
set_option linter.unusedVariables false
set_option linter.unusedSimpArgs false
open Go Go.RowKit Go.Proofs.YtdgefpifohfcgaaW.PrintWords Go.Proofs.YtdgefpifohfcgaaW.PrintLast Go.Proofs.YtdgefpifohfcgaaW.PrintMore
theorem spec_l01New_loop (b : List Int) (hb : b.length ≤ 140737488351232) : ∀ (d i : Nat) (h : Int), i + d = b.length → ∃ h' : Int, Ev (fun k => spec_l01New.l0 k b h (i : Int)) (b, 0, h') := by
  intro d
  induction d with
  | zero =>
    intro i h hi
    exact ⟨h, ev_end fun k => by rw [spec_l01New.l0, if_neg (by omega)]⟩
  | succ d ih =>
    intro i h hi
    by_cases c : i < 4000
    · obtain ⟨h', e⟩ := ih (i + 1) (Go.bits .and .i64 (wrap64 ((wrap64 ((wrap64 (h * 131)) + (wrap64 (rd b (i : Int))))) + 7)) 1073741823) (by omega)
      refine ⟨h', ev_go e fun k => ?_⟩
      rw [spec_l01New.l0, if_pos (by omega), if_pos (by omega), if_pos (by omega), w64 (n := (i : Int) + 1) (by omega) (by omega)]
      rfl
    · exact ⟨h, ev_end fun k => by rw [spec_l01New.l0, if_pos (by omega), if_neg (by omega)]⟩
theorem spec_l01New_draws (b : List Int) (hb : b.length ≤ 140737488351232) : ∃ h : Int, Ev (fun k => spec_l01New.f k b) (b, 0, h) :=
  spec_l01New_loop b hb b.length 0 _ (by omega)
theorem spec_l01Byte_draws (b : List Int) (hb : b.length ≤ 140737488351232) (i h : Int) (hi : 0 ≤ i) : ∃ x i' h' : Int, spec_l01Byte.f b i h = some (x, i', h') ∧ 0 ≤ x ∧ x ≤ 255 ∧ 0 ≤ i' := by
  unfold spec_l01Byte.f
  by_cases c : i < (b.length : Int)
  · rw [if_pos c, if_pos hi, w64 (n := i + 1) (by omega) (by omega)]
    have hr := fun y => i64_and_range y 255 (by omega) (by omega)
    exact ⟨_, _, _, rfl, (hr _).1, (hr _).2, by omega⟩
  · rw [if_neg c]
    have hr := fun y => i64_and_range y 255 (by omega) (by omega)
    exact ⟨_, _, _, rfl, (hr _).1, (hr _).2, hi⟩
theorem spec_l01Below_draws (b : List Int) (hb : b.length ≤ 140737488351232) (i h n : Int) (hi : 0 ≤ i) : ∃ x i' h' : Int, spec_l01Below.f b i h n = some (x, i', h') ∧ (0 < n → 0 ≤ x ∧ x < n) ∧ 0 ≤ i' ∧ 0 ≤ x ∧ (n ≤ 0 → x = 0) := by
  unfold spec_l01Below.f
  by_cases c : n ≤ 0
  · rw [if_pos c]
    exact ⟨0, i, h, rfl, fun hn => by omega, hi, by omega, fun _ => rfl⟩
  · rw [if_neg c]
    obtain ⟨x1, i1, h1, e1, l1, u1, p1⟩ := spec_l01Byte_draws b hb i h hi
    by_cases c2 : n ≤ 256
    · rw [if_pos c2, e1, Option.bind_some, if_neg (by omega)]
      have ht : Int.tmod x1 n = x1 % n := Int.tmod_eq_emod_of_nonneg l1
      have g1 := Int.emod_nonneg x1 (by omega : n ≠ 0)
      have g2 := Int.emod_lt_of_pos x1 (by omega : 0 < n)
      exact ⟨_, _, _, rfl, fun _ => by simp only; rw [ht]; exact ⟨g1, g2⟩, p1, by simp only; rw [ht]; exact g1, fun h => absurd h c⟩
    · rw [if_neg c2, e1, Option.bind_some]
      obtain ⟨x2, i2, h2, e2, l2, u2, p2⟩ := spec_l01Byte_draws b hb i1 h1 p1
      obtain ⟨x3, i3, h3, e3, l3, u3, p3⟩ := spec_l01Byte_draws b hb i2 h2 p2
      obtain ⟨x4, i4, h4, e4, l4, u4, p4⟩ := spec_l01Byte_draws b hb i3 h3 p3
      rw [e2, Option.bind_some, e3, Option.bind_some, e4, Option.bind_some, if_neg (by omega)]
      simp only
      rw [w64 (n := x1 * 16777216) (by omega) (by omega), w64 (n := x2 * 65536) (by omega) (by omega), w64 (n := x1 * 16777216 + _) (by omega) (by omega), w64 (n := x3 * 256) (by omega) (by omega), w64 (n := x1 * 16777216 + x2 * 65536 + _) (by omega) (by omega), w64 (by omega) (by omega)]
      have ht : Int.tmod (x1 * 16777216 + x2 * 65536 + x3 * 256 + x4) n = (x1 * 16777216 + x2 * 65536 + x3 * 256 + x4) % n := Int.tmod_eq_emod_of_nonneg (by omega)
      have g1 := Int.emod_nonneg (x1 * 16777216 + x2 * 65536 + x3 * 256 + x4) (by omega : n ≠ 0)
      have g2 := Int.emod_lt_of_pos (x1 * 16777216 + x2 * 65536 + x3 * 256 + x4) (by omega : 0 < n)
      exact ⟨_, _, _, rfl, fun _ => by rw [ht]; exact ⟨g1, g2⟩, p4, by rw [ht]; exact g1, fun h => absurd h c⟩
theorem spec_l01Pick_draws (b : List Int) (hb : b.length ≤ 140737488351232) (i h : Int) (hi : 0 ≤ i) (l : List ByteArray) (hl : 0 < l.length) : ∃ (x : ByteArray) (i' h' : Int), spec_l01Pick.f b i h l = some (x, i', h') ∧ x ∈ l ∧ 0 ≤ i' := by
  obtain ⟨x, i', h', e, r, p, _⟩ := spec_l01Below_draws b hb i h (l.length : Int) hi
  have r' := r (by omega)
  unfold spec_l01Pick.f
  rw [e, Option.bind_some, if_pos r'.1, if_pos r'.2]
  obtain ⟨m, rfl⟩ := Int.eq_ofNat_of_zero_le r'.1
  exact ⟨_, _, _, rfl, rdOf_mem _ l m (by have := r'.2; omega), p⟩
/-- A drawn key: nothing, or one letter. -/
theorem spec_l05Key_draws (b : List Int) (hb : b.length ≤ 140737488351232) (i h : Int) (hi : 0 ≤ i) : ∃ (x : ByteArray) (i' h' : Int), spec_l05Key.f b i h = some (x, i', h') ∧ (x.toList = [] ∨ ∃ c : UInt8, x.toList = [c] ∧ 97 ≤ c.toNat ∧ c.toNat ≤ 122) ∧ 0 ≤ i' := by
  unfold spec_l05Key.f
  obtain ⟨x, i', h', e, m, p⟩ := spec_l01Pick_draws b hb i h hi [(⟨#[97]⟩ : ByteArray), (⟨#[98]⟩ : ByteArray), (⟨#[99]⟩ : ByteArray), (⟨#[100]⟩ : ByteArray), (⟨#[101]⟩ : ByteArray), (⟨#[102]⟩ : ByteArray), (⟨#[103]⟩ : ByteArray), (⟨#[104]⟩ : ByteArray), (⟨#[107]⟩ : ByteArray), (⟨#[109]⟩ : ByteArray), (⟨#[112]⟩ : ByteArray), (⟨#[113]⟩ : ByteArray), (⟨#[115]⟩ : ByteArray), (⟨#[120]⟩ : ByteArray), (⟨#[122]⟩ : ByteArray), (⟨#[]⟩ : ByteArray)] (by simp)
  rw [e, Option.bind_some]
  refine ⟨_, _, _, rfl, ?_, p⟩
  have one : ∀ c : UInt8, (⟨#[c]⟩ : ByteArray).toList = [c] := fun c => by rw [ByteArray.toList_eq]
  simp only [List.mem_cons, List.not_mem_nil, or_false] at m
  rcases m with rfl | rfl | rfl | rfl | rfl | rfl | rfl | rfl | rfl | rfl | rfl | rfl | rfl | rfl | rfl | rfl
  all_goals first
    | exact .inr ⟨_, one _, by decide, by decide⟩
    | exact .inl (by rw [ByteArray.toList_eq])
theorem spec_l01Once_draws (b : List Int) (hb : b.length ≤ 140737488351232) (i h n : Int) (hi : 0 ≤ i) : ∃ (x : Bool) (i' h' : Int), spec_l01Once.f b i h n = some (x, i', h') ∧ 0 ≤ i' := by
  obtain ⟨x, i', h', e, _, p, _⟩ := spec_l01Below_draws b hb i h n hi
  unfold spec_l01Once.f
  rw [e, Option.bind_some]
  exact ⟨_, _, _, rfl, p⟩
/-- Of what form a drawn node's keys are. -/
def KeyForm (s : ByteArray) (n : Nat) : Prop := ∃ (o : List UInt8) (m : Nat), s.toList = o ++ List.replicate m 49 ∧ m ≤ n ∧ (o = [] ∨ ∃ c : UInt8, o = [c] ∧ 97 ≤ c.toNat ∧ c.toNat ≤ 122)
theorem KeyForm.size {s : ByteArray} {n : Nat} (h : KeyForm s n) : s.size ≤ n + 1 := by
  obtain ⟨o, m, h1, h2, h3⟩ := h
  have : s.toList.length = s.size := by rw [ByteArray.toList_eq, Array.length_toList]; rfl
  rw [h1, List.length_append, List.length_replicate] at this
  rcases h3 with rfl | ⟨c, rfl, _⟩
  · simp at this; omega
  · simp at this; omega
theorem KeyForm.zzzz {s : ByteArray} {n : Nat} (h : KeyForm s n) (hn : n ≤ 3) : ¬ Op.bytesLess (⟨#[122, 122, 122, 122]⟩ : ByteArray).toList s.toList = true := by
  obtain ⟨o, m, h1, h2, h3⟩ := h
  rw [h1, ByteArray.toList_eq]
  have hm : m = 0 ∨ m = 1 ∨ m = 2 ∨ m = 3 := by omega
  rcases h3 with rfl | ⟨c, rfl, hc1, hc2⟩
  · rcases hm with rfl | rfl | rfl | rfl <;> decide
  · intro hb
    rw [List.singleton_append] at hb
    have := (bl_cons_iff 122 c [122, 122, 122] (List.replicate m 49)).1 hb
    rcases this with hlt | ⟨rfl, hb⟩
    · have : (122 : UInt8).toNat = 122 := rfl
      omega
    · rcases hm with rfl | rfl | rfl | rfl <;> revert hb <;> decide
/-- The next key: a drawn one that is above the last, or the last and a figure one. -/
theorem KeyForm.next {last k : ByteArray} {n : Nat} (h : KeyForm last n) (hk : k.toList = [] ∨ ∃ c : UInt8, k.toList = [c] ∧ 97 ≤ c.toNat ∧ c.toNat ≤ 122) (hl : Op.bytesLess last.toList k.toList = true) : Op.bytesLess (last.toList ++ [48]) k.toList = true := by
  obtain ⟨o, m, h1, h2, h3⟩ := h
  rcases hk with hk | ⟨c, hk, hc1, hc2⟩
  · rw [hk, bl_nil_right] at hl; cases hl
  · rw [hk] at hl ⊢
    cases hx : last.toList with
    | nil => rw [List.nil_append]; exact (bl_cons_iff 48 c [] []).2 (.inl (by have : (48 : UInt8).toNat = 48 := rfl; omega))
    | cons a t =>
      rw [hx] at hl
      rw [List.cons_append]
      rcases (bl_cons_iff a c t []).1 hl with hlt | ⟨_, hb⟩
      · exact (bl_cons_iff a c _ []).2 (.inl hlt)
      · rw [bl_nil_right] at hb; cases hb
structure NodeDrawn (leaf : Bool) (keys vals : List ByteArray) (kids : List Int) (n : Nat) : Prop where
  len : keys.length = n
  asc : Asc keys
  form : ∀ x ∈ keys, KeyForm x (n - 1)
  vals_ : vals.length = (if leaf = true then n else 0)
  kids_ : kids.length = (if leaf = true then 0 else n)
  small : ∀ x ∈ vals, x.size ≤ 3
  kid : ∀ (j : Nat) (h : j < kids.length), kids[j] ∈ [2 + (j : Int), 6 + (j : Int), 10 + (j : Int), 14 + (j : Int)]
theorem KeyForm.mono {s : ByteArray} {m n : Nat} (h : KeyForm s m) (hmn : m ≤ n) : KeyForm s n := by
  obtain ⟨o, q, h1, h2, h3⟩ := h
  exact ⟨o, q, h1, by omega, h3⟩
theorem l05Node_j1_skip (k : Nat) (last key : ByteArray) (n : Int) (b : List Int) (i h : Int) (leaf : Bool) (keys vals : List ByteArray) (kids : List Int) : spec_l05Node.j1 (k + 1) last n key false b i h leaf keys vals kids = spec_l05Node.j2 k n key b i h leaf keys vals kids := by
  rw [spec_l05Node.j1, if_neg (by decide)]
theorem l05Node_j1_more (k : Nat) (last key : ByteArray) (n : Int) (b : List Int) (i h : Int) (leaf : Bool) (keys vals : List ByteArray) (kids : List Int) (hs : last.size + 1 ≤ 9223372036854775807) : spec_l05Node.j1 (k + 1) last n key true b i h leaf keys vals kids = spec_l05Node.j2 k n (last ++ (⟨#[49]⟩ : ByteArray)) b i h leaf keys vals kids := by
  rw [spec_l05Node.j1, if_pos rfl, if_pos hs]
theorem l05Node_j2_leaf (k : Nat) (key : ByteArray) (n : Int) (b : List Int) (i h : Int) (keys vals : List ByteArray) (kids : List Int) (v : ByteArray) (i3 h3 : Int) (hk : keys.length < 8796093022208) (hv : vals.length < 8796093022208) (e : spec_l01Pick.f b i h [(⟨#[]⟩ : ByteArray), (⟨#[118]⟩ : ByteArray), (⟨#[118, 97, 108]⟩ : ByteArray)] = some (v, i3, h3)) : spec_l05Node.j2 (k + 1) n key b i h true keys vals kids = spec_l05Node.l0 k key (wrap64 (n + 1)) b i3 h3 true (keys ++ [key]) (vals ++ [v]) kids := by
  rw [spec_l05Node.j2, if_pos hk, Option.bind_some, if_pos rfl, e, Option.bind_some, if_pos hv]
theorem l05Node_j2_kid (k : Nat) (key : ByteArray) (n : Int) (b : List Int) (i h : Int) (keys vals : List ByteArray) (kids : List Int) (v : Int) (i3 h3 : Int) (hk : keys.length < 8796093022208) (hv : kids.length < 17592186044416) (e : spec_l01Below.f b i h 4 = some (v, i3, h3)) : spec_l05Node.j2 (k + 1) n key b i h false keys vals kids = spec_l05Node.l0 k key (wrap64 (n + 1)) b i3 h3 false (keys ++ [key]) vals (kids ++ [wrap64 ((wrap64 (2 + n)) + (wrap64 (v * 4)))]) := by
  rw [spec_l05Node.j2, if_pos hk, Option.bind_some, if_neg (by decide), e, Option.bind_some, if_pos hv]
theorem l05Node_l0_end (k : Nat) (last : ByteArray) (n : Int) (b : List Int) (i h : Int) (leaf : Bool) (keys vals : List ByteArray) (kids : List Int) (x i1 h1 : Int) (e : spec_l01Below.f b i h 4 = some (x, i1, h1)) (c : ¬ n < wrap64 (1 + x)) : spec_l05Node.l0 (k + 1) last n b i h leaf keys vals kids = some (leaf, keys, vals, kids, i1, h1) := by
  rw [spec_l05Node.l0, e, Option.bind_some, if_neg c]
theorem l05Node_l0_first (k : Nat) (last : ByteArray) (b : List Int) (i h : Int) (leaf : Bool) (keys vals : List ByteArray) (kids : List Int) (x i1 h1 : Int) (key : ByteArray) (i2 h2 : Int) (e : spec_l01Below.f b i h 4 = some (x, i1, h1)) (c : 0 < wrap64 (1 + x)) (e2 : spec_l05Key.f b i1 h1 = some (key, i2, h2)) : spec_l05Node.l0 (k + 1) last 0 b i h leaf keys vals kids = spec_l05Node.j1 k last 0 key false b i2 h2 leaf keys vals kids := by
  rw [spec_l05Node.l0, e, Option.bind_some, if_pos c, e2, Option.bind_some, if_neg (by decide)]
theorem l05Node_l0_more (k : Nat) (last : ByteArray) (n : Int) (b : List Int) (i h : Int) (leaf : Bool) (keys vals : List ByteArray) (kids : List Int) (x i1 h1 : Int) (key : ByteArray) (i2 h2 : Int) (e : spec_l01Below.f b i h 4 = some (x, i1, h1)) (c : n < wrap64 (1 + x)) (e2 : spec_l05Key.f b i1 h1 = some (key, i2, h2)) (hn : n > 0) : spec_l05Node.l0 (k + 1) last n b i h leaf keys vals kids = spec_l05Node.j1 k last n key (!(Op.bytesLess last.toList key.toList)) b i2 h2 leaf keys vals kids := by
  rw [spec_l05Node.l0, e, Option.bind_some, if_pos c, e2, Option.bind_some, if_pos hn]
/-- The key that a round puts in. -/
theorem spec_l05Node_key (b : List Int) (hb : b.length ≤ 140737488351232) (n : Nat) (hn4 : n ≤ 4) (last : ByteArray) (leaf : Bool) (keys vals : List ByteArray) (kids : List Int) (i h x i1 h1 : Int) (p1 : 0 ≤ i1) (e1 : spec_l01Below.f b i h 4 = some (x, i1, h1)) (hx : 0 ≤ x ∧ x < 4) (c : (n : Int) < 1 + x) (hD : NodeDrawn leaf keys vals kids n) (hlast : 0 < n → keys.getLast? = some last) : ∃ (key' : ByteArray) (i2 h2 : Int), 0 ≤ i2 ∧ KeyForm key' n ∧ (0 < n → Op.bytesLess (last.toList ++ [48]) key'.toList = true) ∧ ∀ k, spec_l05Node.l0 (k + 1 + 1) last (n : Int) b i h leaf keys vals kids = spec_l05Node.j2 k (n : Int) key' b i2 h2 leaf keys vals kids := by
  obtain ⟨key, i2, h2, e2, f2, p2⟩ := spec_l05Key_draws b hb i1 h1 p1
  have hw : (n : Int) < wrap64 (1 + x) := by rw [w64 (by omega) (by omega)]; exact c
  have f2' : KeyForm key n := by
    rcases f2 with f2 | ⟨c, f2, g1, g2⟩
    · exact ⟨[], 0, by rw [f2]; rfl, by omega, .inl rfl⟩
    · exact ⟨[c], 0, by rw [f2]; rfl, by omega, .inr ⟨c, rfl, g1, g2⟩⟩
  by_cases cn : n = 0
  · subst cn
    refine ⟨key, i2, h2, p2, f2', fun h => absurd h (by decide), fun k => ?_⟩
    rw [show ((0 : Nat) : Int) = 0 from rfl, l05Node_l0_first (k + 1) last b i h leaf keys vals kids x i1 h1 key i2 h2 e1 hw e2, l05Node_j1_skip]
  · have cn' : 0 < n := by omega
    have hf := hD.form last (List.mem_of_getLast? (hlast cn'))
    by_cases cl : Op.bytesLess last.toList key.toList = true
    · refine ⟨key, i2, h2, p2, f2', fun _ => hf.next f2 cl, fun k => ?_⟩
      rw [l05Node_l0_more (k + 1) last n b i h leaf keys vals kids x i1 h1 key i2 h2 e1 hw e2 (by omega), cl, show (!true) = false from rfl, l05Node_j1_skip]
    · have hsz := hf.size
      have hlist : (last ++ (⟨#[49]⟩ : ByteArray)).toList = last.toList ++ [49] := by
        rw [toList_append, ByteArray.toList_eq (⟨#[49]⟩ : ByteArray)]
      refine ⟨last ++ (⟨#[49]⟩ : ByteArray), i2, h2, p2, ?_, fun _ => ?_, fun k => ?_⟩
      · obtain ⟨o, m, g1, g2, g3⟩ := hf
        refine ⟨o, m + 1, ?_, by omega, g3⟩
        rw [hlist, g1, List.append_assoc, ← List.replicate_succ']
      · rw [hlist]
        exact bl_snoc_snoc _ 48 49 (by decide)
      · rw [l05Node_l0_more (k + 1) last n b i h leaf keys vals kids x i1 h1 key i2 h2 e1 hw e2 (by omega), Bool.eq_false_iff.2 cl, show (!false) = true from rfl, l05Node_j1_more _ _ _ _ _ _ _ _ _ _ _ (by omega)]
/-- One round keeps the form. -/
theorem NodeDrawn.more_val {keys vals : List ByteArray} {kids : List Int} {n : Nat} (hD : NodeDrawn true keys vals kids n) (key v : ByteArray) (g1 : KeyForm key n) (hasc : Asc (keys ++ [key])) (hv : v.size ≤ 3) : NodeDrawn true (keys ++ [key]) (vals ++ [v]) kids (n + 1) :=
  { len := by rw [List.length_append, hD.len]; rfl
    asc := hasc
    form := fun y hy => by
      rcases List.mem_append.1 hy with hy | hy
      · exact (hD.form y hy).mono (by omega)
      · rw [List.mem_singleton.1 hy]; exact g1
    vals_ := by
      have := hD.vals_
      rw [if_pos rfl] at this ⊢
      rw [List.length_append, this]; rfl
    kids_ := hD.kids_
    small := fun y hy => by
      rcases List.mem_append.1 hy with hy | hy
      · exact hD.small y hy
      · rw [List.mem_singleton.1 hy]; exact hv
    kid := hD.kid }
theorem NodeDrawn.more_kid {keys vals : List ByteArray} {kids : List Int} {n : Nat} (hD : NodeDrawn false keys vals kids n) (key : ByteArray) (g1 : KeyForm key n) (hasc : Asc (keys ++ [key])) (v : Int) (hv : 0 ≤ v ∧ v < 4) : NodeDrawn false (keys ++ [key]) vals (kids ++ [2 + (n : Int) + v * 4]) (n + 1) :=
  { len := by rw [List.length_append, hD.len]; rfl
    asc := hasc
    form := fun y hy => by
      rcases List.mem_append.1 hy with hy | hy
      · exact (hD.form y hy).mono (by omega)
      · rw [List.mem_singleton.1 hy]; exact g1
    vals_ := hD.vals_
    kids_ := by
      have := hD.kids_
      rw [if_neg (by decide)] at this ⊢
      rw [List.length_append, this]; rfl
    small := hD.small
    kid := fun j hj => by
      have hk := hD.kids_
      rw [if_neg (by decide)] at hk
      rw [List.length_append, List.length_singleton] at hj
      by_cases cj : j < kids.length
      · rw [List.getElem_append_left cj]; exact hD.kid j cj
      · have e : j = n := by omega
        rw [List.getElem_append_right (by omega), List.getElem_singleton, e]
        simp only [List.mem_cons, List.not_mem_nil, or_false]
        omega }
theorem spec_l05Node_round (b : List Int) (hb : b.length ≤ 140737488351232) : ∀ (d n : Nat) (last : ByteArray) (leaf : Bool) (keys vals : List ByteArray) (kids : List Int) (i h : Int), n + d = 4 → 0 ≤ i → NodeDrawn leaf keys vals kids n → (0 < n → keys.getLast? = some last) → ∃ (keys' vals' : List ByteArray) (kids' : List Int) (i' h' : Int) (n' : Nat), Ev (fun k => spec_l05Node.l0 k last (n : Int) b i h leaf keys vals kids) (leaf, keys', vals', kids', i', h') ∧ 0 ≤ i' ∧ NodeDrawn leaf keys' vals' kids' n' ∧ 1 ≤ n' ∧ n' ≤ 4 := by
  intro d
  induction d with
  | zero =>
    intro n last leaf keys vals kids i h hn hi hD hlast
    obtain ⟨x, i1, h1, e1, r1, p1, _⟩ := spec_l01Below_draws b hb i h 4 hi
    have r1' := r1 (by decide)
    exact ⟨keys, vals, kids, i1, h1, n, ev_end fun k => l05Node_l0_end k last n b i h leaf keys vals kids x i1 h1 e1 (by rw [w64 (by omega) (by omega)]; omega), p1, hD, by omega, by omega⟩
  | succ d ih =>
    intro n last leaf keys vals kids i h hn hi hD hlast
    obtain ⟨x, i1, h1, e1, r1, p1, _⟩ := spec_l01Below_draws b hb i h 4 hi
    have r1' := r1 (by decide)
    by_cases c : (n : Int) < 1 + x
    · obtain ⟨key', i2, h2, p2, g1, g2, g3⟩ := spec_l05Node_key b hb n (by omega) last leaf keys vals kids i h x i1 h1 p1 e1 r1' c hD hlast
      have hasc : Asc (keys ++ [key']) := hD.asc.snoc key' fun y hy => by
        by_cases cn : 0 < n
        · rw [hlast cn] at hy
          injection hy with hy
          subst hy
          exact g2 cn
        · have : keys = [] := List.eq_nil_of_length_eq_zero (by have := hD.len; omega)
          rw [this] at hy; simp at hy
      have hlast' : (keys ++ [key']).getLast? = some key' := by simp
      have hkl := hD.len
      have hk1 : keys.length < 8796093022208 := by clear r1' c g1 g2 g3 hasc hlast' e1; omega
      have hwn : wrap64 ((n : Int) + 1) = ((n + 1 : Nat) : Int) := by rw [w64 (by omega) (by omega)]; rfl
      cases leaf with
      | true =>
        obtain ⟨v, i3, h3, e3, m3, p3⟩ := spec_l01Pick_draws b hb i2 h2 p2 [(⟨#[]⟩ : ByteArray), (⟨#[118]⟩ : ByteArray), (⟨#[118, 97, 108]⟩ : ByteArray)] (by simp)
        have hv : v.size ≤ 3 := by
          simp only [List.mem_cons, List.not_mem_nil, or_false] at m3
          rcases m3 with rfl | rfl | rfl <;> decide
        have hvl := hD.vals_
        rw [if_pos rfl] at hvl
        obtain ⟨keys', vals', kids', i', h', n', q1, q2, q3, q4, q5⟩ := ih (n + 1) key' true (keys ++ [key']) (vals ++ [v]) kids i3 h3 (by omega) p3 (hD.more_val key' v g1 hasc hv) (fun _ => hlast')
        refine ⟨keys', vals', kids', i', h', n', ev_succ (ev_succ (ev_succ (Ev.congr (fun k => ?_) q1))), q2, q3, q4, q5⟩
        rw [g3, l05Node_j2_leaf k key' n b i2 h2 keys vals kids v i3 h3 hk1 (by omega) e3, hwn]
      | false =>
        obtain ⟨v, i3, h3, e3, m3, p3, _⟩ := spec_l01Below_draws b hb i2 h2 4 p2
        have m3' := m3 (by decide)
        have hkd := hD.kids_
        rw [if_neg (by decide)] at hkd
        have hk2 : kids.length < 17592186044416 := by rw [hkd]; exact Nat.lt_of_le_of_lt (Nat.le_of_lt_succ (show n < 5 by omega)) (by decide)
        have hwrap : wrap64 ((wrap64 (2 + (n : Int))) + (wrap64 (v * 4))) = 2 + (n : Int) + v * 4 := by
          rw [w64 (n := 2 + (n : Int)) (by omega) (by omega), w64 (n := v * 4) (by omega) (by omega), w64 (by omega) (by omega)]
        obtain ⟨keys', vals', kids', i', h', n', q1, q2, q3, q4, q5⟩ := ih (n + 1) key' false (keys ++ [key']) vals (kids ++ [2 + (n : Int) + v * 4]) i3 h3 (by omega) p3 (hD.more_kid key' g1 hasc v m3') (fun _ => hlast')
        refine ⟨keys', vals', kids', i', h', n', ev_succ (ev_succ (ev_succ (Ev.congr (fun k => ?_) q1))), q2, q3, q4, q5⟩
        rw [g3, l05Node_j2_kid k key' n b i2 h2 keys vals kids v i3 h3 hk1 hk2 e3, hwn, hwrap]
    · exact ⟨keys, vals, kids, i1, h1, n, ev_end fun k => l05Node_l0_end k last n b i h leaf keys vals kids x i1 h1 e1 (by rw [w64 (by omega) (by omega)]; omega), p1, hD, by omega, by omega⟩
theorem spec_l05Node_draws (b : List Int) (hb : b.length ≤ 140737488351232) (i h : Int) (hi : 0 ≤ i) : ∃ (leaf : Bool) (keys vals : List ByteArray) (kids : List Int) (i' h' : Int) (n : Nat), Ev (fun k => spec_l05Node.f k b i h) (leaf, keys, vals, kids, i', h') ∧ 0 ≤ i' ∧ NodeDrawn leaf keys vals kids n ∧ 1 ≤ n ∧ n ≤ 4 := by
  obtain ⟨leaf, i1, h1, e1, p1⟩ := spec_l01Once_draws b hb i h 2 hi
  obtain ⟨keys, vals, kids, i', h', n, q1, q2, q3, q4, q5⟩ := spec_l05Node_round b hb 4 0 ⟨#[]⟩ leaf [] [] [] i1 h1 rfl p1
    { len := rfl, asc := Asc.nil, form := (fun x hx => by cases hx), vals_ := (by cases leaf <;> rfl), kids_ := (by cases leaf <;> rfl), small := (fun x hx => by cases hx), kid := (fun j hj => by simp at hj) } (fun h => by omega)
  refine ⟨leaf, keys, vals, kids, i', h', n, Ev.congr (fun k => ?_) q1, q2, q3, q4, q5⟩
  unfold spec_l05Node.f
  rw [e1, Option.bind_some]
  rfl
theorem spec_DrawNode_draws (b : List Int) (hb : b.length ≤ 140737488351232) : ∃ (leaf : Bool) (keys vals : List ByteArray) (kids : List Int) (n : Nat), Ev (fun k => spec_DrawNode.f k b) (leaf, keys, vals, kids) ∧ NodeDrawn leaf keys vals kids n ∧ 1 ≤ n ∧ n ≤ 4 := by
  obtain ⟨h, e⟩ := spec_l01New_draws b hb
  obtain ⟨leaf, keys, vals, kids, i1, h1, n, e1, p1, hD, n1, n4⟩ := spec_l05Node_draws b hb 0 h (by omega)
  exact ⟨leaf, keys, vals, kids, n, ev_call e (ev_call e1 (Ev.now _) (fun _ => rfl)) (fun _ => rfl), hD, n1, n4⟩
theorem impl_PlaceOf_loop (s : ByteArray) (a : List ByteArray) (ha : a.length ≤ 1048576) : ∀ (d i : Nat) (o : Int), i + d = a.length → Ev (fun k => impl_PlaceOf.l0 k s o a (a.length : Int) (i : Int)) (poL s (a.drop i) (i : Int) o) := by
  intro d
  induction d with
  | zero =>
    intro i o hi
    refine ev_end fun k => ?_
    rw [impl_PlaceOf.l0, if_neg (by omega), List.drop_eq_nil_of_le (by omega)]
    rfl
  | succ d ih =>
    intro i o hi
    rw [drop_rdOf ByteArray.empty a i (by omega)]
    unfold poL
    have hn := fun o' => ih (i + 1) o' (by omega)
    by_cases ce : Op.bytesLess s.toList ((rdOf ByteArray.empty a (i : Int)).toList) = true
    · rw [if_pos ce]
      refine ev_go (hn o) fun k => ?_
      rw [impl_PlaceOf.l0, if_pos (by omega), if_pos (by omega), if_pos (by omega), if_pos ce, w64 (by omega) (by omega)]
      rfl
    · rw [if_neg ce]
      refine ev_go (hn i) fun k => ?_
      rw [impl_PlaceOf.l0, if_pos (by omega), if_pos (by omega), if_pos (by omega), if_neg ce, w64 (by omega) (by omega)]
      rfl
theorem impl_PlaceOf_fev (l : Bool) (a b : List ByteArray) (c : List Int) (s : ByteArray) (ha : a.length ≤ 1048576) : Ev (fun k => impl_PlaceOf.f k l a b c s) (poL s a 0 (-1)) :=
  impl_PlaceOf_loop s a ha a.length 0 (-1) (by omega)
theorem spec_l01Long_loop (n : Nat) (x : Int) : ∀ (d i : Nat) (l : List Int), i + d = n → l.length = n → n ≤ 1048576 → ∃ s : ByteArray, Ev (fun k => spec_l01Long.l0 k (n : Int) x l (i : Int)) s ∧ s.size = n := by
  intro d
  induction d with
  | zero =>
    intro i l hi hl hn
    exact ⟨strOfNums l, ev_end fun k => by rw [spec_l01Long.l0, if_neg (by omega)], by rw [strOfNums_size, hl]⟩
  | succ d ih =>
    intro i l hi hl hn
    obtain ⟨s, e, es⟩ := ih (i + 1) (l.set i x) (by omega) (by simpa using hl) hn
    refine ⟨s, ev_go e fun k => ?_, es⟩
    rw [spec_l01Long.l0, if_pos (by omega), if_pos (by omega), if_pos (by omega), Int.toNat_natCast, w64 (by omega) (by omega)]
    rfl
theorem spec_l01Long_draws (n x : Int) (h0 : 0 ≤ n) (h1 : n ≤ 1048576) : ∃ s : ByteArray, Ev (fun k => spec_l01Long.f k n x) s ∧ (s.size : Int) = n := by
  obtain ⟨m, rfl⟩ := Int.eq_ofNat_of_zero_le h0
  obtain ⟨s, e, es⟩ := spec_l01Long_loop m x m 0 (List.replicate m 0) (by omega) (by simp) (by omega)
  refine ⟨s, Ev.congr (fun k => ?_) e, by omega⟩
  unfold spec_l01Long.f
  rw [if_pos h0, Int.toNat_natCast, if_pos (by omega)]
  rfl
theorem spec_l01PickInt_draws (b : List Int) (hb : b.length ≤ 140737488351232) (i h : Int) (hi : 0 ≤ i) (l : List Int) (hl : 0 < l.length) : ∃ (x i' h' : Int), spec_l01PickInt.f b i h l = some (x, i', h') ∧ x ∈ l ∧ 0 ≤ i' := by
  obtain ⟨x, i', h', e, r, p, _⟩ := spec_l01Below_draws b hb i h (l.length : Int) hi
  have r' := r (by omega)
  unfold spec_l01PickInt.f
  rw [e, Option.bind_some, if_pos r'.1, if_pos r'.2]
  obtain ⟨m, rfl⟩ := Int.eq_ofNat_of_zero_le r'.1
  exact ⟨_, _, _, rfl, rd_mem l m (by have := r'.2; omega), p⟩
/-- A drawn node, or one that is spoilt: its rows are short. -/
theorem spec_l05Any_draws (b : List Int) (hb : b.length ≤ 140737488351232) (i h : Int) (hi : 0 ≤ i) : ∃ (leaf : Bool) (keys vals : List ByteArray) (kids : List Int) (i' h' : Int), Ev (fun k => spec_l05Any.f k b i h) (leaf, keys, vals, kids, i', h') ∧ 0 ≤ i' ∧ keys.length ≤ 5 ∧ vals.length ≤ 4 ∧ kids.length ≤ 4 ∧ (∀ x ∈ keys, x.size ≤ 25) ∧ (∀ x ∈ vals, x.size ≤ 25) := by
  obtain ⟨leaf, keys, vals, kids, i1, h1, n, ⟨K1, e1⟩, p1, hD, n1, n4⟩ := spec_l05Node_draws b hb i h hi
  obtain ⟨x, i2, h2, e2, r2, p2, _⟩ := spec_l01Below_draws b hb i1 h1 12 p1
  dsimp only at e1
  have hlen := hD.len
  have hvl : vals.length ≤ 4 := by have := hD.vals_; split at this <;> omega
  have hkl : kids.length ≤ 4 := by have := hD.kids_; split at this <;> omega
  have hks : ∀ y ∈ keys, y.size ≤ 25 := fun y hy => by have := (hD.form y hy).size; omega
  have hvs : ∀ y ∈ vals, y.size ≤ 25 := fun y hy => by have := hD.small y hy; omega
  have hgo : ∀ k, K1 ≤ k → spec_l05Any.f k b i h = _ := fun k hk => by
    unfold spec_l05Any.f
    rw [e1 k hk, Option.bind_some, e2, Option.bind_some]
  simp only at hgo
  by_cases c0 : x = 0
  · exact ⟨!leaf, keys, vals, kids, i2, h2, ⟨K1, fun k hk => by dsimp only; rw [hgo k hk, if_pos c0]⟩, p2, by omega, hvl, hkl, hks, hvs⟩
  by_cases c1 : x = 1
  · obtain ⟨y, i3, h3, e3, r3, p3, _⟩ := spec_l01Below_draws b hb i2 h2 2 p2
    have r3' := r3 (by omega)
    obtain ⟨s, ⟨K2, e4⟩, es⟩ := spec_l01Long_draws (wrap64 (24 + y)) 66 (by rw [w64 (by omega) (by omega)]; omega) (by rw [w64 (by omega) (by omega)]; omega)
    dsimp only at e4
    rw [w64 (by omega) (by omega)] at es
    refine ⟨leaf, keys.set 0 s, vals, kids, i3, h3, ⟨K1 + K2, fun k hk => ?_⟩, p3, by simp; omega, hvl, hkl, ?_, hvs⟩
    · dsimp only
      rw [hgo k (by omega), if_neg c0, if_pos c1, e3, Option.bind_some, e4 k (by omega), Option.bind_some, if_pos (by omega)]
      rfl
    · intro z hz
      rcases List.mem_or_eq_of_mem_set hz with hz | rfl
      · exact hks z hz
      · omega
  by_cases c2 : x = 2
  · by_cases ck : (kids.length : Int) > 0
    · obtain ⟨y, i3, h3, e3, m3, p3⟩ := spec_l01PickInt_draws b hb i2 h2 p2 [0, 1, 2, 39, 40] (by simp)
      refine ⟨leaf, keys, vals, kids.set 0 y, i3, h3, ⟨K1, fun k hk => ?_⟩, p3, by omega, hvl, by simpa using hkl, hks, hvs⟩
      dsimp only
      rw [hgo k hk, if_neg c0, if_neg c1, if_pos c2, if_pos ck, e3, Option.bind_some, if_pos ck]
      rfl
    · exact ⟨leaf, keys, vals, kids, i2, h2, ⟨K1, fun k hk => by dsimp only; rw [hgo k hk, if_neg c0, if_neg c1, if_pos c2, if_neg ck]⟩, p2, by omega, hvl, hkl, hks, hvs⟩
  by_cases c3 : x = 3
  · refine ⟨leaf, keys ++ [⟨#[122, 122]⟩], vals, kids, i2, h2, ⟨K1, fun k hk => ?_⟩, p2, by simp; omega, hvl, hkl, ?_, hvs⟩
    · dsimp only
      rw [hgo k hk, if_neg c0, if_neg c1, if_neg c2, if_pos c3, if_pos (by omega)]
    · intro z hz
      rcases List.mem_append.1 hz with hz | hz
      · exact hks z hz
      · rw [List.mem_singleton.1 hz]; decide
  by_cases c4 : x = 4
  · by_cases ck : (vals.length : Int) > 0
    · obtain ⟨y, i3, h3, e3, r3, p3, _⟩ := spec_l01Below_draws b hb i2 h2 2 p2
      have r3' := r3 (by omega)
      obtain ⟨s, ⟨K2, e4⟩, es⟩ := spec_l01Long_draws (wrap64 (24 + y)) 66 (by rw [w64 (by omega) (by omega)]; omega) (by rw [w64 (by omega) (by omega)]; omega)
      dsimp only at e4
      rw [w64 (by omega) (by omega)] at es
      refine ⟨leaf, keys, vals.set 0 s, kids, i3, h3, ⟨K1 + K2, fun k hk => ?_⟩, p3, by omega, by simpa using hvl, hkl, hks, ?_⟩
      · dsimp only
        rw [hgo k (by omega), if_neg c0, if_neg c1, if_neg c2, if_neg c3, if_pos c4, if_pos ck, e3, Option.bind_some, e4 k (by omega), Option.bind_some, if_pos ck]
        rfl
      · intro z hz
        rcases List.mem_or_eq_of_mem_set hz with hz | rfl
        · exact hvs z hz
        · omega
    · exact ⟨leaf, keys, vals, kids, i2, h2, ⟨K1, fun k hk => by dsimp only; rw [hgo k hk, if_neg c0, if_neg c1, if_neg c2, if_neg c3, if_pos c4, if_neg ck]⟩, p2, by omega, hvl, hkl, hks, hvs⟩
  exact ⟨leaf, keys, vals, kids, i2, h2, ⟨K1, fun k hk => by dsimp only; rw [hgo k hk, if_neg c0, if_neg c1, if_neg c2, if_neg c3, if_neg c4]⟩, p2, by omega, hvl, hkl, hks, hvs⟩
theorem spec_DrawPlaceOf_draws (b : List Int) (hb : b.length ≤ 140737488351232) : ∃ (leaf : Bool) (keys vals : List ByteArray) (kids : List Int) (key : ByteArray), Ev (fun k => spec_DrawPlaceOf.f k b) (leaf, keys, vals, kids, key) ∧ keys.length ≤ 5 := by
  obtain ⟨h, ⟨K0, e⟩⟩ := spec_l01New_draws b hb
  obtain ⟨key, i1, h1, e1, _, p1⟩ := spec_l05Key_draws b hb 0 h (by omega)
  obtain ⟨leaf, keys, vals, kids, i2, h2, ⟨K1, e2⟩, p2, hl, _⟩ := spec_l05Any_draws b hb i1 h1 p1
  dsimp only at e e2
  refine ⟨leaf, keys, vals, kids, key, ⟨K0 + K1, fun k hk => ?_⟩, hl⟩
  dsimp only
  unfold spec_DrawPlaceOf.f
  rw [e k (by omega), Option.bind_some, e1, Option.bind_some, e2 k (by omega), Option.bind_some]
theorem spec_PlaceOf_loop (s : ByteArray) (l : Bool) (a b : List ByteArray) (c : List Int) (ha : a.length ≤ 1048576) : ∀ (d i : Nat) (o : Int), i + d = a.length → Ev (fun k => spec_PlaceOf.l0 k s o (i : Int) l a b c) (poL s (a.drop i) (i : Int) o) := by
  intro d
  induction d with
  | zero =>
    intro i o hi
    refine ev_end fun k => ?_
    rw [spec_PlaceOf.l0, if_neg (by omega), List.drop_eq_nil_of_le (by omega)]
    rfl
  | succ d ih =>
    intro i o hi
    rw [drop_rdOf ByteArray.empty a i (by omega)]
    unfold poL
    have hn := fun o' => ih (i + 1) o' (by omega)
    by_cases ce : Op.bytesLess s.toList ((rdOf ByteArray.empty a (i : Int)).toList) = true
    · rw [if_pos ce]
      refine ev_go (hn o) fun k => ?_
      rw [spec_PlaceOf.l0, if_pos (by omega), if_pos (by omega), if_pos ce, w64 (by omega) (by omega)]
      rfl
    · rw [if_neg ce]
      refine ev_go (hn i) fun k => ?_
      rw [spec_PlaceOf.l0, if_pos (by omega), if_pos (by omega), if_neg ce, w64 (by omega) (by omega)]
      rfl
theorem spec_PlaceOf_fev (l : Bool) (a b : List ByteArray) (c : List Int) (s : ByteArray) (ha : a.length ≤ 1048576) : Ev (fun k => spec_PlaceOf.f k l a b c s) (poL s a 0 (-1)) :=
  spec_PlaceOf_loop s l a b c ha a.length 0 (-1) (by omega)
end Go.Proofs.Ytdgefpifohfcgaa.VFnPlacesOf
namespace Go.Proofs.Ytdgefpifohfcgaa.Pure
open Go.Proofs.Ytdgefpifohfcgaa.VFnPlacesOf
set_option linter.unusedVariables false
set_option linter.unusedSimpArgs false
open Go Go.RowKit Go.Proofs.YtdgefpifohfcgaaW.PrintWords Go.Proofs.YtdgefpifohfcgaaW.PrintLast Go.Proofs.YtdgefpifohfcgaaW.PrintMore
theorem FnPlacesOf_loop (b : List Int) (hb : b.length ≤ 140737488351232) (leaf : Bool) (keys vals : List ByteArray) (kids : List Int) (n : Nat) (hD : NodeDrawn leaf keys vals kids n) (n1 : 1 ≤ n) (n4 : n ≤ 4) : ∀ d i : Nat, i + d = n → Ev (fun k => laws_FnPlacesOf.l0 k b (i : Int) leaf keys vals kids) true := by
  have hlen := hD.len
  intro d
  induction d with
  | zero =>
    intro i hi
    obtain ⟨leaf2, keys2, vals2, kids2, key2, ⟨K1, e1⟩, hl2⟩ := spec_DrawPlaceOf_draws b hb
    obtain ⟨K2, e2⟩ := impl_PlaceOf_fev leaf keys vals kids (⟨#[122, 122, 122, 122]⟩ : ByteArray) (by omega)
    obtain ⟨K3, e3⟩ := impl_PlaceOf_fev false [] [] [] (⟨#[97]⟩ : ByteArray) (by simp)
    obtain ⟨K4, e4⟩ := impl_PlaceOf_fev leaf2 keys2 vals2 kids2 key2 (by omega)
    obtain ⟨K5, e5⟩ := spec_PlaceOf_fev leaf2 keys2 vals2 kids2 key2 (by omega)
    dsimp only at e1 e2 e3 e4 e5
    have hz : poL (⟨#[122, 122, 122, 122]⟩ : ByteArray) keys 0 (-1) = (keys.length : Int) - 1 := by
      have := poL_split (⟨#[122, 122, 122, 122]⟩ : ByteArray) keys [] (fun x hx => (hD.form x hx).zzzz (by omega)) (fun x hx => by cases hx) 0 (-1)
      rw [List.append_nil, if_neg (by omega)] at this
      rw [this]; omega
    refine ev_succ ⟨K1 + K2 + K3 + K4 + K5, fun k hk => ?_⟩
    rw [laws_FnPlacesOf.l0, if_neg (by omega), e1 k (by omega), Option.bind_some, e2 k (by omega), Option.bind_some, hz, w64 (by omega) (by omega), if_pos rfl, e3 k (by omega), Option.bind_some, if_pos (by rfl), e4 k (by omega), Option.bind_some, e5 k (by omega), Option.bind_some, if_pos rfl, decide_eq_true (by omega)]
  | succ d ih =>
    intro i hi
    have hp := hD.asc.place i (by omega)
    have hget := rdOf_get ByteArray.empty keys i (by omega)
    rw [← hget] at hp
    obtain ⟨K1, e1⟩ := impl_PlaceOf_fev leaf keys vals kids (rdOf ByteArray.empty keys (i : Int)) (by omega)
    obtain ⟨K2, e2⟩ := impl_PlaceOf_fev leaf keys vals kids (rdOf ByteArray.empty keys (i : Int) ++ (⟨#[48]⟩ : ByteArray)) (by omega)
    obtain ⟨K3, e3⟩ := ih (i + 1) (by omega)
    dsimp only at e1 e2 e3
    rw [hp.1] at e1
    rw [hp.2] at e2
    have hsz := (hD.form _ (rdOf_mem ByteArray.empty keys i (by omega))).size
    refine ev_succ ⟨K1 + K2 + K3, fun k hk => ?_⟩
    rw [laws_FnPlacesOf.l0, if_pos (by omega), if_pos (by omega), e1 k (by omega), Option.bind_some, if_pos rfl, if_pos (by omega), e2 k (by omega), Option.bind_some, if_pos rfl, w64 (by omega) (by omega)]
    exact e3 k (by omega)
theorem FnPlacesOf : laws_FnPlacesOf.Pure := by
  intro b _ hb _
  have hb' : b.length ≤ 140737488351232 := by omega
  obtain ⟨leaf, keys, vals, kids, n, ⟨K1, e1⟩, hD, n1, n4⟩ := spec_DrawNode_draws b hb'
  obtain ⟨K2, e2⟩ := FnPlacesOf_loop b hb' leaf keys vals kids n hD n1 n4 n 0 (by omega)
  dsimp only at e1 e2
  refine ⟨K1 + K2, ?_⟩
  unfold laws_FnPlacesOf.f laws_big.f
  rw [Option.bind_some]
  by_cases c : (b.length : Int) > 1048576
  · rw [if_pos (decide_eq_true c)]
  · rw [if_neg (by simp only [decide_eq_true_eq]; exact c), e1 _ (by omega), Option.bind_some]
    exact e2 _ (by omega)
end Go.Proofs.Ytdgefpifohfcgaa.Pure
