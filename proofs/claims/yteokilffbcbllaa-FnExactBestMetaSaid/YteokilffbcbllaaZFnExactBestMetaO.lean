-- The words that this claim uses, cut by a program of this repo (wip/wprune.py) out of what print.sh printed.
import Derived.Test.YteokilffbcbllaaZFnExactBestMetaWMore
import Derived.OpenShut
import Derived.DataElems
namespace Go.Proofs.Yteokilffbcbllaa
open Go Go.RowKit Go.Proofs.YteokilffbcbllaaW.PrintWords
section
variable {H : Type} {enc : TypeId × Value → H} {P : Program} {w : World} {base : Nat} {spare : Nat → Bool} {held : Bool}
def Opens {α : Type} (enc : TypeId × Value → H) (P : Program) (w : World) (base : Nat) (spare : Nat → Bool) (held : Bool) (t : TypeId) (d : Kd α) (good : α → Prop) : Prop :=
  ∀ (fuel : Nat) (cs : List Value) (x : DataW H × List MemPlace), DataW.trod enc P w base spare held fuel t cs = some x → ∃ v : α, d.K w v cs ∧ good v
theorem opens_int {t : TypeId} {k : IntKind} (h : P.underlying t = some (.int k)) : Opens enc P w base spare held t (Kd.int k) (fun n => (Lit.int k n).wf = true) := by
  intro fuel cs x hx
  obtain ⟨n, rfl, _, hw⟩ := DataW.trod_int h hx
  exact ⟨n, rfl, hw⟩
theorem opens_string {t : TypeId} (h : P.underlying t = some .string) : Opens enc P w base spare held t Kd.string (fun s => s.size ≤ 9223372036854775807) := by
  intro fuel cs x hx
  obtain ⟨s, rfl, _, hs⟩ := DataW.trod_string h hx
  exact ⟨s, rfl, hs⟩
theorem list_of {α : Type} (Q : Nat → α → Prop) : ∀ n : Nat, (∀ i, i < n → ∃ v, Q i v) → ∃ l : List α, l.length = n ∧ ∀ i v, l[i]? = some v → Q i v := by
  intro n
  induction n with
  | zero => exact fun _ => ⟨[], rfl, fun i v h => by simp at h⟩
  | succ n ih =>
    intro h
    obtain ⟨l, hl, hq⟩ := ih (fun i hi => h i (by omega))
    obtain ⟨v, hv⟩ := h n (by omega)
    refine ⟨l ++ [v], by rw [List.length_append, hl]; rfl, fun i u hu => ?_⟩
    by_cases c : i < l.length
    · rw [List.getElem?_append_left c] at hu
      exact hq i u hu
    · have hlt := (List.getElem?_eq_some_iff.1 hu).1
      rw [List.length_append, List.length_singleton] at hlt
      have : i = n := by omega
      subst this
      rw [List.getElem?_append_right (by omega), hl] at hu
      simp at hu
      rw [← hu]
      exact hv
theorem opens_slice {α : Type} {t e : TypeId} {d : Kd α} {good : α → Prop} (h : P.underlying t = some (.slice e)) (hz : P.cellsOf e = d.sz) (ho : Opens enc P w base spare held e d good) :
    Opens enc P w base spare held t (Kd.slice e d) (fun l => l.length ≤ 9223372036854775807 ∧ ∀ x ∈ l, good x) := by
  intro fuel cs x hx
  rcases DataW.trod_slice h hx with ⟨rfl, _⟩ | ⟨a, len, cap, elems, rest, n, _, rfl, _, hb, hl, hm, hlen, hel, _, _⟩
  · exact ⟨[], ⟨none, 0, rfl, by simp, Kd.C_nil _ _⟩, by simp, fun x hx => by cases hx⟩
  · have each : ∀ i, i < len → ∃ v : α, good v ∧ ∃ c : List Value, c.length = d.sz ∧ d.K w v c ∧ ∀ j u, c[j]? = some u → w.cell? (a.add (i * d.sz + j)) = some u := by
      intro i hi
      have hi' := hel i hi
      rw [List.getElem?_eq_getElem (by omega)] at hi'
      obtain ⟨c, hc, hy⟩ := Option.bind_eq_some_iff.1 hi'
      obtain ⟨v, hK, hg⟩ := ho n c _ hy
      obtain ⟨_, hcl, hcell⟩ := World.cells?_some hc
      refine ⟨v, hg, c, d.K_len hK, hK, fun j u hu => ?_⟩
      have hj := (List.getElem?_eq_some_iff.1 hu).1
      have := hcell j (by omega)
      rw [hu, hz] at this
      rw [← Addr.add_add]
      exact this
    obtain ⟨l, hll, hq⟩ := list_of _ len each
    refine ⟨l, ⟨some a, cap, by rw [hll], by omega, rfl, ?_, fun _ => ⟨a, rfl, fun j p hj => ?_⟩⟩, ?_, fun y hy => ?_⟩
    · rw [hll]; exact Nat.le_trans hl hm
    · exact (hq j p hj).2
    · rw [hll]; exact Nat.le_trans hl hm
    · obtain ⟨j, hj⟩ := List.getElem?_of_mem hy
      exact (hq j y hj).1
theorem trod_two {t : TypeId} {f0 f1 : Field} {fuel : Nat} {cs : List Value} {x : DataW H × List MemPlace} (hs : P.underlying t = some (.struct #[f0, f1])) (o0 : f0.offset = 0) (o1 : f1.offset = 1) (z0 : P.cellsOf f0.type = 1) (z1 : P.cellsOf f1.type = 1) (zt : P.cellsOf t = 2)
    (h : DataW.trod enc P w base spare held fuel t cs = some x) : ∃ c0 c1 m y0 y1, cs = [c0, c1] ∧ DataW.trod enc P w base spare held m f0.type [c0] = some y0 ∧ DataW.trod enc P w base spare held m f1.type [c1] = some y1 := by
  obtain ⟨xs, n, _, _, hl, hn, hf⟩ := DataW.trod_struct hs h
  rw [zt] at hl
  obtain ⟨c0, c1, rfl⟩ : ∃ c0 c1, cs = [c0, c1] := by
    match cs, hl with
    | [a, b], _ => exact ⟨a, b, rfl⟩
  have hn' : xs.length = 2 := hn
  have h0 := hf 0 f0 rfl
  have h1 := hf 1 f1 rfl
  rw [o0, z0, List.getElem?_eq_getElem (by omega)] at h0
  rw [o1, z1, List.getElem?_eq_getElem (by omega)] at h1
  exact ⟨c0, c1, n, _, _, rfl, h0, h1⟩
theorem opens_two {α β S : Type} {t : TypeId} {f0 f1 : Field} {a : Kd α} {b : Kd β} {ga : α → Prop} {gb : β → Prop} {f : S → α × β} (g : α × β → S) (hfg : ∀ p, f (g p) = p) (hs : P.underlying t = some (.struct #[f0, f1])) (o0 : f0.offset = 0) (o1 : f1.offset = 1) (z0 : P.cellsOf f0.type = 1) (z1 : P.cellsOf f1.type = 1) (zt : P.cellsOf t = 2)
    (ha : Opens enc P w base spare held f0.type a ga) (hb : Opens enc P w base spare held f1.type b gb) : Opens enc P w base spare held t (Kd.iso (Kd.pair a b) f) (fun x => ga (f x).1 ∧ gb (f x).2) := by
  intro fuel cs x hx
  obtain ⟨c0, c1, m, y0, y1, rfl, h0, h1⟩ := trod_two hs o0 o1 z0 z1 zt hx
  obtain ⟨v0, k0, g0⟩ := ha m _ _ h0
  obtain ⟨v1, k1, g1⟩ := hb m _ _ h1
  refine ⟨g (v0, v1), ⟨[c0], [c1], rfl, ?_, ?_⟩, ?_⟩
  · rw [hfg]; exact k0
  · rw [hfg]; exact k1
  · show ga (f (g (v0, v1))).1 ∧ gb (f (g (v0, v1))).2
    rw [hfg]; exact ⟨g0, g1⟩
end
end Go.Proofs.Yteokilffbcbllaa
