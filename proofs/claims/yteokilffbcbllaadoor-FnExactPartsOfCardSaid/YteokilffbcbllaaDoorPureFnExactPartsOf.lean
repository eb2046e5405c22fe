/- The printed form of FnExactPartsOf answers true at every input that its bounds let in; no other conditions. -/
import Derived.Test.YteokilffbcbllaaDoorVFnExactPartsOfx2
import Derived.Test.YteokilffbcbllaaDoorG
import Derived.Lib.Bytealg
import Derived.Lib.AtoiTie
import Derived.Lib.AtoiAllCases
import Derived.Lib.Fields
namespace Go.Proofs.YteokilffbcbllaaDoor.VFnExactPartsOf
set_option linter.unusedVariables false
set_option linter.unusedSimpArgs false
open Go Go.RowKit Go.Proofs.YteokilffbcbllaaDoorW.PrintWords Go.Proofs.YteokilffbcbllaaDoorW.PrintLast Go.Proofs.YteokilffbcbllaaDoorW.PrintMore
theorem w64 {n : Int} (h : -9223372036854775808 ≤ n) (h' : n ≤ 9223372036854775807) : wrap64 n = n := by
  unfold wrap64; omega
theorem ev_some {α : Type} {g : Nat → Option α} {r : α} (h : ∀ k, g k = some r) : Ev g r := ⟨0, fun k _ => h k⟩
theorem ev_succ {α : Type} {g : Nat → Option α} {r : α} (h : ∃ K, ∀ k, K ≤ k → g (k + 1) = some r) : Ev g r := by
  obtain ⟨K, h⟩ := h
  refine ⟨K + 1, fun k hk => ?_⟩
  obtain ⟨m, rfl⟩ : ∃ m, k = m + 1 := ⟨k - 1, by omega⟩
  exact h m (by omega)
/-- One round that goes on. -/
theorem ev_go {α : Type} {g f : Nat → Option α} {r : α} (hf : Ev f r) (h : ∀ k, g (k + 1) = f k) : Ev g r := Ev.step h hf
/-- One round that ends. -/
theorem ev_end {α : Type} {g : Nat → Option α} {r : α} (h : ∀ k, g (k + 1) = some r) : Ev g r := ev_succ ⟨0, fun k _ => h k⟩
/-- One round with one call in it. -/
theorem ev_go_call {α β : Type} {g : Nat → Option α} {f : Nat → Option β} {c : Nat → β → Option α} {b : β} {r : α} (hf : Ev f b) (hc : Ev (fun k => c k b) r) (h : ∀ k, g (k + 1) = (f k).bind (c k)) : Ev g r :=
  Ev.step h (Ev.bind hf hc)
theorem bt_lo (s : ByteArray) (i : Int) : 0 ≤ bt s i := (bt_range s i).1
theorem bt_hi (s : ByteArray) (i : Int) : bt s i ≤ 255 := (bt_range s i).2
theorem strOfNums_bytesOf (s : ByteArray) : strOfNums (bytesOf s) = s := by
  apply ByteArray.ext
  apply Array.toList_inj.1
  rw [strOfNums_data]
  unfold bytesOf
  rw [List.map_map]
  conv => rhs; rw [← List.map_id s.data.toList]
  apply List.map_congr_left
  intro b _
  simp
theorem bytesOf_extract (s : ByteArray) (a b : Nat) : bytesOf (s.extract a b) = ((bytesOf s).drop a).take (b - a) := by
  unfold bytesOf
  rw [ByteArray.data_extract, Array.toList_extract, List.extract_eq_take_drop, List.map_take, List.map_drop]
theorem bytesOf_append (s t : ByteArray) : bytesOf (s ++ t) = bytesOf s ++ bytesOf t := by
  unfold bytesOf
  rw [ByteArray.data_append, Array.toList_append, List.map_append]
theorem bytesOf_inj {s t : ByteArray} (h : bytesOf s = bytesOf t) : s = t := by
  rw [← strOfNums_bytesOf s, ← strOfNums_bytesOf t, h]
section
variable {α β : Type}
theorem drop_rdOf (d : α) (xs : List α) (i : Nat) (h : i < xs.length) : xs.drop i = rdOf d xs (i : Int) :: xs.drop (i + 1) := by
  rw [List.drop_eq_getElem_cons h]
  congr 1
  unfold rdOf
  rw [Int.toNat_natCast]
  simp [List.getD, h]
theorem set_mid (pre t : List α) (x v : α) (i : Nat) (h : pre.length = i) : (pre ++ x :: t).set i v = pre ++ v :: t := by
  subst h
  rw [List.set_append_right _ _ (Nat.le_refl _)]
  simp
end
def mtB (n : Nat) (acc : ByteArray) : ByteArray := if n = 0 then (⟨#[109]⟩ : ByteArray) ++ acc else mtB (n / 10) (strOfNums [(48 + (n : Int) % 10) % 256] ++ acc)
termination_by n
decreasing_by omega
def mtR (k : Int) : ByteArray := if k ≤ 0 then ⟨#[109, 48]⟩ else mtB k.toNat ⟨#[]⟩
theorem mtB_zero (acc : ByteArray) : mtB 0 acc = (⟨#[109]⟩ : ByteArray) ++ acc := by rw [mtB, if_pos rfl]
theorem mtB_pos {n : Nat} (h : n ≠ 0) (acc : ByteArray) : mtB n acc = mtB (n / 10) (strOfNums [(48 + (n : Int) % 10) % 256] ++ acc) := by rw [mtB, if_neg h]
def marksS (k : Int) : Nat → List ByteArray
  | 0 => []
  | n + 1 => mtR k :: marksS (k + 1) n
theorem marksS_length (n : Nat) : ∀ k, (marksS k n).length = n := by
  induction n with
  | zero => intro k; rfl
  | succ n ih => intro k; unfold marksS; rw [List.length_cons, ih]
def Took (s : ByteArray) (a b : Int) (x : ByteArray) : Prop := 0 ≤ a ∧ b ≤ (s.size : Int) ∧ b = a + (x.size : Int) ∧ (bytesOf s).drop a.toNat = bytesOf x ++ (bytesOf s).drop b.toNat
theorem Took.trans {s : ByteArray} {a b c : Int} {x y : ByteArray} (h : Took s a b x) (g : Took s b c y) : Took s a c (x ++ y) := by
  obtain ⟨h1, h2, h3, h4⟩ := h
  obtain ⟨g1, g2, g3, g4⟩ := g
  refine ⟨h1, g2, by rw [ByteArray.size_append]; omega, ?_⟩
  rw [h4, g4, bytesOf_append, List.append_assoc]
theorem Took.extract {s : ByteArray} {a b : Int} {x : ByteArray} (h : Took s a b x) : s.extract a.toNat b.toNat = x := by
  obtain ⟨h1, h2, h3, h4⟩ := h
  apply bytesOf_inj
  rw [bytesOf_extract, h4, show b.toNat - a.toNat = (bytesOf x).length by rw [bytesOf_length]; omega, List.take_left']
  rfl
/-- What PartsOf answers. -/
def partsR (s : ByteArray) : List ByteArray × Bool :=
  if 600 < s.size then ([], false) else
  if (∀ j : Nat, j < s.size → 32 ≤ bt s (j : Int) ∧ bt s (j : Int) ≤ 126) then
    (if 10 < (Lib.fields s.data.toList).length then ([], false) else ((Lib.fields s.data.toList).map fun l => ⟨l.toArray⟩, true))
  else ([], false)
theorem byte_drop (s : ByteArray) (i : Nat) (h : i < s.size) : s.data.toList.drop i = UInt8.ofNat (bt s (i : Int)).toNat :: s.data.toList.drop (i + 1) := by
  have hl : i < s.data.toList.length := by rw [Array.length_toList]; exact h
  rw [List.drop_eq_getElem_cons hl]
  congr 1
  unfold bt
  rw [dif_pos (show (i : Int).toNat < s.size from h), Int.toNat_natCast, UInt8.ofNat_toNat]
  rfl
theorem data_extract (s : ByteArray) (a b : Nat) : (s.extract a b).data.toList = (s.data.toList.drop a).take (b - a) := by
  rw [ByteArray.data_extract, Array.toList_extract, List.extract_eq_take_drop]
theorem byte_isSp (x : Int) (h : 32 ≤ x ∧ x ≤ 126) : Lib.isSp (UInt8.ofNat x.toNat) = decide (x = 32) := by
  obtain ⟨n, rfl⟩ := Int.eq_ofNat_of_zero_le (show 0 ≤ x by omega)
  have key : ∀ m : Fin 127, 32 ≤ m.val → Lib.isSp (UInt8.ofNat m.val) = decide (m.val = 32) := by decide +kernel
  have := key ⟨n, by omega⟩ (by show 32 ≤ n; omega)
  rw [Int.toNat_natCast, this]
  exact decide_eq_decide.2 ⟨fun h => by dsimp only at h; omega, fun h => by dsimp only; omega⟩
theorem mk_lists (out : List ByteArray) : ((out.map fun b => b.data.toList).map fun l => (⟨l.toArray⟩ : ByteArray)) = out := by
  rw [List.map_map]
  refine (List.map_congr_left fun b _ => ?_).trans (List.map_id out)
  cases b
  rfl
theorem spec_PartsOf_bad (s : ByteArray) (i : Nat) (hi : i < s.size) (h : ¬ (32 ≤ bt s (i : Int) ∧ bt s (i : Int) ≤ 126)) : partsR s = ([], false) := by
  unfold partsR
  by_cases c : 600 < s.size
  · rw [if_pos c]
  · rw [if_neg c, if_neg (fun q => h (q i hi))]
theorem spec_PartsOf_done (s : ByteArray) (hs : s.size ≤ 600) (hA : ∀ j : Nat, j < s.size → 32 ≤ bt s (j : Int) ∧ bt s (j : Int) ≤ 126) (out : List ByteArray) (hF : out.map (fun b => b.data.toList) = Lib.fields s.data.toList) :
    partsR s = if (out.length : Int) > 10 then ([], false) else (out, true) := by
  unfold partsR
  have hl : (Lib.fields s.data.toList).length = out.length := by rw [← hF, List.length_map]
  rw [if_neg (by omega), if_pos hA, hl, ← hF, mk_lists]
  by_cases c : 10 < out.length
  · rw [if_pos c, if_pos (by omega)]
  · rw [if_neg c, if_neg (by omega)]
theorem spec_PartsOf_end (s : ByteArray) (hs : s.size ≤ 600) (hA : ∀ j : Nat, j < s.size → 32 ≤ bt s (j : Int) ∧ bt s (j : Int) ≤ 126) (out : List ByteArray) (hF : out.map (fun b => b.data.toList) = Lib.fields s.data.toList) (x : Int) :
    Ev (fun k => spec_PartsOf.l0 k s out x ((s.size : Int) + 1)) (partsR s) := by
  rw [spec_PartsOf_done s hs hA out hF]
  refine ev_end fun k => ?_
  rw [spec_PartsOf.l0, if_neg (by omega)]
  by_cases c : (out.length : Int) > 10
  · rw [if_pos c, if_pos c]
  · rw [if_neg c, if_neg c]
theorem spec_PartsOf_loop (s : ByteArray) (hs : s.size ≤ 600) : ∀ (d i b : Nat) (out : List ByteArray), i + d = s.size → b ≤ i → out.length ≤ i → (∀ j : Nat, j < i → 32 ≤ bt s (j : Int) ∧ bt s (j : Int) ≤ 126) →
    out.map (fun b => b.data.toList) ++ Lib.fieldsGo ((s.data.toList.drop b).take (i - b)) (s.data.toList.drop i) = Lib.fields s.data.toList →
    Ev (fun k => spec_PartsOf.l0 k s out (b : Int) (i : Int)) (partsR s) := by
  have hlen : s.data.toList.length = s.size := Array.length_toList
  intro d
  induction d with
  | zero =>
    intro i b out hi hb ho hA hF
    obtain rfl : i = s.size := by omega
    have hw : wrap64 ((s.size : Int) + 1) = (s.size : Int) + 1 := w64 (by omega) (by omega)
    have hz : s.data.toList.drop s.size = [] := List.drop_eq_nil_of_le (by omega)
    rw [hz] at hF
    unfold Lib.fieldsGo at hF
    by_cases c : b < s.size
    · have hc : ((s.data.toList.drop b).take (s.size - b)).isEmpty = false := by
        rw [List.isEmpty_eq_false_iff, ← List.length_pos_iff, List.length_take, List.length_drop]
        omega
      rw [hc, if_neg (by decide)] at hF
      have hF' : (out ++ [s.extract b s.size]).map (fun b => b.data.toList) = Lib.fields s.data.toList := by
        rw [List.map_append, ← hF, List.map_cons, List.map_nil, data_extract]
      obtain ⟨K, e⟩ := spec_PartsOf_end s hs hA _ hF' ((s.size : Int) + 1)
      dsimp only at e
      refine ⟨K + 3, fun k hk => ?_⟩
      obtain ⟨k, rfl⟩ : ∃ m, k = m + 3 := ⟨k - 3, by omega⟩
      dsimp only
      rw [spec_PartsOf.l0, if_pos (by omega), if_neg (by omega), spec_PartsOf.j1, if_neg (by decide), if_neg (by omega), spec_PartsOf.j2, if_neg (by decide), if_pos (by omega), if_pos (by omega), if_pos (by omega), if_pos (by omega), if_pos (by omega), hw, Int.toNat_natCast, Int.toNat_natCast]
      exact e k (by omega)
    · have hc : ((s.data.toList.drop b).take (s.size - b)).isEmpty = true := by
        rw [show s.size - b = 0 by omega]
        rfl
      rw [hc, if_pos rfl, List.append_nil] at hF
      obtain ⟨K, e⟩ := spec_PartsOf_end s hs hA _ hF ((s.size : Int) + 1)
      dsimp only at e
      refine ⟨K + 3, fun k hk => ?_⟩
      obtain ⟨k, rfl⟩ : ∃ m, k = m + 3 := ⟨k - 3, by omega⟩
      dsimp only
      rw [spec_PartsOf.l0, if_pos (by omega), if_neg (by omega), spec_PartsOf.j1, if_neg (by decide), if_neg (by omega), spec_PartsOf.j2, if_neg (by decide), if_neg (by omega), hw]
      exact e k (by omega)
  | succ d ih =>
    intro i b out hi hb ho hA hF
    have hw : wrap64 ((i : Int) + 1) = ((i + 1 : Nat) : Int) := by rw [w64 (by omega) (by omega)]; rfl
    have hd := byte_drop s i (by omega)
    have b0 := bt_lo s (i : Int)
    have b1 := bt_hi s (i : Int)
    by_cases cb : 32 ≤ bt s (i : Int) ∧ bt s (i : Int) ≤ 126
    · have hA' : ∀ j : Nat, j < i + 1 → 32 ≤ bt s (j : Int) ∧ bt s (j : Int) ≤ 126 := fun j hj => by
        by_cases e : j = i
        · rw [e]; exact cb
        · exact hA j (by omega)
      have hsp := byte_isSp (bt s (i : Int)) cb
      rw [hd] at hF
      by_cases c32 : bt s (i : Int) = 32
      · rw [decide_eq_true c32] at hsp
        by_cases c : b < i
        · have hc : (s.data.toList.drop b).take (i - b) ≠ [] := by
            rw [← List.length_pos_iff, List.length_take, List.length_drop]
            omega
          rw [Lib.fieldsGo_end _ _ _ hsp hc] at hF
          obtain ⟨K, e⟩ := ih (i + 1) (i + 1) (out ++ [s.extract b i]) (by omega) (Nat.le_refl _) (by simp; omega) hA' (by rw [Nat.sub_self, List.take_zero, List.map_append, List.map_cons, List.map_nil, data_extract, List.append_assoc]; exact hF)
          dsimp only at e
          refine ⟨K + 3, fun k hk => ?_⟩
          obtain ⟨k, rfl⟩ : ∃ m, k = m + 3 := ⟨k - 3, by omega⟩
          dsimp only
          rw [spec_PartsOf.l0, if_pos (by omega), if_pos (by omega), if_pos (by omega), if_neg (by omega), decide_eq_false (by omega), spec_PartsOf.j1, if_neg (by decide), if_pos (by omega), if_pos (by omega), c32, spec_PartsOf.j2, if_neg (by decide), if_pos (by omega), if_pos (by omega), if_pos (by omega), if_pos (by omega), if_pos (by omega), hw, Int.toNat_natCast, Int.toNat_natCast]
          exact e k (by omega)
        · have hc : (s.data.toList.drop b).take (i - b) = [] := by rw [show i - b = 0 by omega, List.take_zero]
          rw [hc, Lib.fieldsGo_sp _ _ hsp] at hF
          obtain ⟨K, e⟩ := ih (i + 1) (i + 1) out (by omega) (Nat.le_refl _) (by omega) hA' (by rw [Nat.sub_self, List.take_zero]; exact hF)
          dsimp only at e
          refine ⟨K + 3, fun k hk => ?_⟩
          obtain ⟨k, rfl⟩ : ∃ m, k = m + 3 := ⟨k - 3, by omega⟩
          dsimp only
          rw [spec_PartsOf.l0, if_pos (by omega), if_pos (by omega), if_pos (by omega), if_neg (by omega), decide_eq_false (by omega), spec_PartsOf.j1, if_neg (by decide), if_pos (by omega), if_pos (by omega), c32, spec_PartsOf.j2, if_neg (by decide), if_neg (by omega), hw]
          exact e k (by omega)
      · rw [decide_eq_false c32] at hsp
        rw [Lib.fieldsGo_more _ _ _ hsp] at hF
        have ht : (s.data.toList.drop b).take (i + 1 - b) = (s.data.toList.drop b).take (i - b) ++ [UInt8.ofNat (bt s (i : Int)).toNat] := by
          have h1 : (s.data.toList.drop b)[i - b]? = some (UInt8.ofNat (bt s (i : Int)).toNat) := by
            have h2 : (s.data.toList.drop i)[0]? = some (UInt8.ofNat (bt s (i : Int)).toNat) := by rw [hd]; rfl
            rw [List.getElem?_drop] at h2 ⊢
            rw [← h2]
            congr 1
            omega
          rw [show i + 1 - b = (i - b) + 1 by omega, List.take_add_one, h1]
          rfl
        obtain ⟨K, e⟩ := ih (i + 1) b out (by omega) (by omega) (by omega) hA' (by rw [ht]; exact hF)
        dsimp only at e
        have hne : (bt s (i : Int) != 32) = true := bne_iff_ne.mpr c32
        refine ⟨K + 3, fun k hk => ?_⟩
        obtain ⟨k, rfl⟩ : ∃ m, k = m + 3 := ⟨k - 3, by omega⟩
        dsimp only
        rw [spec_PartsOf.l0, if_pos (by omega), if_pos (by omega), if_pos (by omega), if_neg (by omega), decide_eq_false (by omega), spec_PartsOf.j1, if_neg (by decide), if_pos (by omega), if_pos (by omega), hne, spec_PartsOf.j2, if_pos rfl, hw]
        exact e k (by omega)
    · rw [spec_PartsOf_bad s i (by omega) cb]
      refine ⟨2, fun k hk => ?_⟩
      obtain ⟨k, rfl⟩ : ∃ m, k = m + 2 := ⟨k - 2, by omega⟩
      dsimp only
      by_cases c1 : bt s (i : Int) < 32
      · rw [spec_PartsOf.l0, if_pos (by omega), if_pos (by omega), if_pos (by omega), if_pos c1, spec_PartsOf.j1, if_pos rfl]
      · rw [spec_PartsOf.l0, if_pos (by omega), if_pos (by omega), if_pos (by omega), if_neg c1, decide_eq_true (by omega), spec_PartsOf.j1, if_pos rfl]
theorem spec_PartsOf_fev (s : ByteArray) : Ev (fun k => spec_PartsOf.f k s) (partsR s) := by
  by_cases c : (s.size : Int) > 600
  · have : partsR s = ([], false) := by
      unfold partsR
      rw [if_pos (by omega)]
    rw [this]
    refine ev_some fun k => ?_
    unfold spec_PartsOf.f
    rw [Option.bind_some, if_pos c]
  · refine Ev.congr (fun k => ?_) (spec_PartsOf_loop s (by omega) s.size 0 0 [] (by omega) (Nat.le_refl _) (Nat.le_refl _) (fun j hj => by omega) rfl)
    unfold spec_PartsOf.f
    rw [Option.bind_some, if_neg c]
    rfl
theorem partsR_length (s : ByteArray) : (partsR s).1.length ≤ 10 := by
  unfold partsR
  by_cases c1 : 600 < s.size
  · rw [if_pos c1]; exact Nat.zero_le _
  · rw [if_neg c1]
    by_cases c2 : ∀ j : Nat, j < s.size → 32 ≤ bt s (j : Int) ∧ bt s (j : Int) ≤ 126
    · rw [if_pos c2]
      by_cases c3 : 10 < (Lib.fields s.data.toList).length
      · rw [if_pos c3]; exact Nat.zero_le _
      · rw [if_neg c3, List.length_map]; omega
    · rw [if_neg c2]; exact Nat.zero_le _
theorem impl_PartsOf_is (s : ByteArray) : impl_PartsOf.f s = some (partsR s) := by
  unfold impl_PartsOf.f partsR
  by_cases c1 : 600 < s.size
  · rw [if_pos c1, if_pos c1]
  · rw [if_neg c1, if_neg c1]
    by_cases c2 : ∀ j : Nat, j < s.size → 32 ≤ bt s (j : Int) ∧ bt s (j : Int) ≤ 126
    · rw [if_pos c2, if_pos c2]
      by_cases c3 : 10 < (Lib.fields s.data.toList).length
      · rw [if_pos c3, if_pos c3]
      · rw [if_neg c3, if_neg c3]
    · rw [if_neg c2, if_neg c2]
theorem laws_eqStringS_loop (a : List ByteArray) (hb : a.length ≤ 9223372036854775807) : ∀ (d i : Nat), i + d = a.length → Ev (fun k => laws_eqStringS.l0 k a a (i : Int)) true := by
  intro d
  induction d with
  | zero =>
    intro i hi
    refine ev_end fun k => ?_
    rw [laws_eqStringS.l0, if_neg (by omega)]
  | succ d ih =>
    intro i hi
    refine ev_go (ih (i + 1) (by omega)) fun k => ?_
    rw [laws_eqStringS.l0, if_pos (by omega), if_pos (by omega), if_pos (by omega), if_pos rfl, w64 (by omega) (by omega)]
    rfl
theorem laws_eqStringS_same (a : List ByteArray) (hb : a.length ≤ 9223372036854775807) : Ev (fun k => laws_eqStringS.f k a a) true := by
  refine Ev.congr (fun k => ?_) (laws_eqStringS_loop a hb a.length 0 (by omega))
  unfold laws_eqStringS.f
  rw [if_pos rfl]
  rfl
theorem laws_markText_loop : ∀ (n : Nat) (acc : ByteArray), acc.size + n ≤ 4611686018427387904 → Ev (fun k => laws_markText.l0 k (n : Int) acc) (mtB n acc) := by
  intro n
  induction n using Nat.strongRecOn with
  | ind n ih =>
    intro acc h
    by_cases c : n = 0
    · subst c
      rw [mtB_zero]
      refine ev_end fun k => ?_
      rw [laws_markText.l0, if_neg (by omega), if_pos (by omega)]
    · rw [mtB_pos c]
      have hsz : (strOfNums [(48 + (n : Int) % 10) % 256]).size = 1 := by rw [strOfNums_size]; rfl
      refine ev_go (ih (n / 10) (by omega) (strOfNums [(48 + (n : Int) % 10) % 256] ++ acc) (by rw [ByteArray.size_append]; omega)) fun k => ?_
      have e1 : wrap64 (Int.tdiv (n : Int) 10) = ((n / 10 : Nat) : Int) := by rw [Int.tdiv_eq_ediv_of_nonneg (by omega), w64 (by omega) (by omega)]; omega
      have e2 : wrap64 (48 + Int.tmod (n : Int) 10) = 48 + (n : Int) % 10 := by rw [Int.tmod_eq_emod_of_nonneg (by omega), w64 (by omega) (by omega)]
      rw [laws_markText.l0, if_pos (by omega), Option.bind_some, e1, e2, if_pos (by rw [hsz]; omega)]
theorem laws_markText_fev (k : Int) (h : k ≤ 4611686018427387904) : Ev (fun f => laws_markText.f f k) (mtR k) := by
  unfold mtR
  by_cases c : k ≤ 0
  · rw [if_pos c]
    exact ev_some fun f => by unfold laws_markText.f; rw [if_pos c]
  · rw [if_neg c]
    have := laws_markText_loop k.toNat ⟨#[]⟩ (by have : (⟨#[]⟩ : ByteArray).size = 0 := rfl; omega)
    rw [Int.toNat_of_nonneg (by omega)] at this
    refine Ev.congr (fun f => ?_) this
    unfold laws_markText.f
    rw [if_neg c]
theorem laws_markStringS_loop : ∀ (d i : Nat) (pre rest : List ByteArray) (k : Int), pre.length = i → rest.length = d → i + d ≤ 1048576 → 0 ≤ k → k + d ≤ 4611686018427387904 → Ev (fun f => laws_markStringS.l0 f (pre ++ rest) k (i : Int)) (k + d, pre ++ marksS k d) := by
  intro d
  induction d with
  | zero =>
    intro i pre rest k hp hr hl h0 h1
    refine ev_end fun f => ?_
    rw [List.eq_nil_of_length_eq_zero hr, laws_markStringS.l0, if_neg (by rw [List.append_nil]; omega)]
    simp [marksS]
  | succ d ih =>
    intro i pre rest k hp hr hl h0 h1
    obtain ⟨x, t, rfl⟩ : ∃ x t, rest = x :: t := by
      cases rest with
      | nil => simp at hr
      | cons x t => exact ⟨x, t, rfl⟩
    have hn := ih (i + 1) (pre ++ [mtR k]) t (k + 1) (by simp; omega) (by simp at hr; omega) (by omega) (by omega) (by omega)
    rw [List.append_assoc, List.singleton_append, List.append_assoc, List.singleton_append, show k + 1 + (d : Int) = k + ((d + 1 : Nat) : Int) by omega] at hn
    refine ev_go_call (laws_markText_fev k (by omega)) (c := fun f t125 => (if (0 : Int) ≤ (i : Int) then (laws_markStringS.l0 f ((pre ++ x :: t).set ((i : Int)).toNat t125) (wrap64 (k + 1)) (wrap64 ((i : Int) + 1))) else (none))) ?_ (fun f => ?_)
    · refine Ev.congr (fun f => ?_) hn
      rw [if_pos (by omega), Int.toNat_natCast, set_mid pre t x _ i hp, w64 (by omega) (by omega), w64 (by omega) (by omega)]
      rfl
    · rw [laws_markStringS.l0, if_pos (by rw [List.length_append, List.length_cons]; omega)]
theorem laws_markStringS_fev (l : List ByteArray) (k : Int) (hl : l.length ≤ 1048576) (h0 : 0 ≤ k) (h1 : k ≤ 1099511627776) : Ev (fun f => laws_markStringS.f f l k) (k + l.length, marksS k l.length) :=
  laws_markStringS_loop l.length 0 [] l k rfl rfl (by omega) h0 (by omega)
theorem laws_heldStringS_loop (l : List ByteArray) (hl : l.length ≤ 1048576) : ∀ (d i : Nat) (k : Int), i + d = l.length → l.drop i = marksS k d → 0 ≤ k → k + d ≤ 4611686018427387904 → Ev (fun f => laws_heldStringS.l0 f l k (i : Int)) (k + d) := by
  intro d
  induction d with
  | zero =>
    intro i k hi hd h0 h1
    refine ev_end fun f => ?_
    rw [laws_heldStringS.l0, if_neg (by omega)]
    simp
  | succ d ih =>
    intro i k hi hd h0 h1
    rw [drop_rdOf ByteArray.empty l i (by omega)] at hd
    unfold marksS at hd
    obtain ⟨hx, ht⟩ := List.cons.inj hd
    have hn := ih (i + 1) (k + 1) (by omega) ht (by omega) (by omega)
    rw [show k + 1 + (d : Int) = k + ((d + 1 : Nat) : Int) by omega] at hn
    refine ev_go_call (laws_markText_fev k (by omega)) (c := fun f t136 => (if (rdOf ByteArray.empty l (i : Int)).toList = t136.toList then (laws_heldStringS.l0 f l (wrap64 (k + 1)) (wrap64 ((i : Int) + 1))) else (some (-1)))) ?_ (fun f => ?_)
    · refine Ev.congr (fun f => ?_) hn
      rw [if_pos (by rw [hx]), w64 (by omega) (by omega), w64 (by omega) (by omega)]
      rfl
    · rw [laws_heldStringS.l0, if_pos (by omega), if_pos (by omega)]
theorem laws_heldStringS_fev (n : Nat) (k : Int) (hn : n ≤ 1048576) (h0 : 0 ≤ k) (h1 : k ≤ 1099511627776) : Ev (fun f => laws_heldStringS.f f (marksS k n) k) (k + n) :=
  laws_heldStringS_loop (marksS k n) (by rw [marksS_length]; exact hn) n 0 k (by rw [marksS_length]; omega) rfl h0 (by omega)
end Go.Proofs.YteokilffbcbllaaDoor.VFnExactPartsOf
namespace Go.Proofs.YteokilffbcbllaaDoor.Pure
open Go.Proofs.YteokilffbcbllaaDoor.VFnExactPartsOf
set_option linter.unusedVariables false
set_option linter.unusedSimpArgs false
open Go Go.RowKit Go.Proofs.YteokilffbcbllaaDoorW.PrintWords Go.Proofs.YteokilffbcbllaaDoorW.PrintLast Go.Proofs.YteokilffbcbllaaDoorW.PrintMore
theorem FnExactPartsOf : laws_FnExactPartsOf.Pure := by
  intro s hs
  have hl := partsR_length s
  obtain ⟨K1, e1⟩ := spec_PartsOf_fev s
  obtain ⟨K2, e2⟩ := laws_eqStringS_same (partsR s).1 (by omega)
  obtain ⟨K3, e3⟩ := laws_markStringS_fev (partsR s).1 1 (by omega) (by omega) (by omega)
  obtain ⟨K4, e4⟩ := laws_heldStringS_fev (partsR s).1.length 1 (by omega) (by omega) (by omega)
  dsimp only at e1 e2 e3 e4
  refine ⟨K1 + K2 + K3 + K4 + 2, ?_⟩
  unfold laws_FnExactPartsOf.f
  by_cases c : (s.size : Int) > 1048576
  · rw [if_pos c]
  · rw [if_neg c, e1 _ (by omega), Option.bind_some, impl_PartsOf_is, Option.bind_some, e2 _ (by omega), Option.bind_some, if_pos rfl, show ((partsR s).2 != (partsR s).2) = false by simp,
      laws_FnExactPartsOf.j0, if_neg (by decide), e3 _ (by omega), Option.bind_some, e4 _ (by omega), Option.bind_some, if_neg (by omega), if_pos rfl, impl_PartsOf_is, Option.bind_some, e2 _ (by omega), Option.bind_some, if_pos rfl,
      show ((partsR s).2 != (partsR s).2) = false by simp, laws_FnExactPartsOf.j1, if_neg (by decide), e4 _ (by omega), Option.bind_some, if_neg (by omega), if_pos rfl]
end Go.Proofs.YteokilffbcbllaaDoor.Pure
