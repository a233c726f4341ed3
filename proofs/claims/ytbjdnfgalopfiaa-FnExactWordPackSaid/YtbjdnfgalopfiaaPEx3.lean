import Derived.Test.YtbjdnfgalopfiaaPEx0
namespace Go.Proofs.Ytbjdnfgalopfiaa.PE
open Go.RowKit Go.Proofs.YtbjdnfgalopfiaaW.PrintWords Go.Proofs.YtbjdnfgalopfiaaW.PrintLast Go.Proofs.YtbjdnfgalopfiaaW.PrintMore
attribute [local go_sem] max2_int min2_int max_two min_two max_three min_three max_four min_four
set_option linter.unusedVariables false
set_option linter.unusedSimpArgs false

/-- What a datum of type t reads as, by the kind d: some x, of which B holds. -/
def RdOf {α : Type} (P : Program) (W : World) (d : Kd α) (t : TypeId) (B : α → Prop) : Prop :=
 ∀ {H : Type} (enc : TypeId × Value → H) (fuel : Nat) (cs : List Value) (y : DataW H × List MemPlace), DataW.trod enc P W 0 (fun _ => true) true fuel t cs = some y → ∃ x, d.K W x cs ∧ B x
theorem RdOf.int {P : Program} {W : World} {k : IntKind} {t : TypeId} (ht : P.underlying t = some (.int k)) : RdOf P W (Kd.int k) t (fun n => (Lit.int k n).wf = true) := by
 intro H enc fuel cs y h
 obtain ⟨n, rfl, _, hw⟩ := DataW.trod_int ht h
 exact ⟨n, rfl, hw⟩
theorem RdOf.bool {P : Program} {W : World} {t : TypeId} (ht : P.underlying t = some .bool) : RdOf P W Kd.bool t (fun _ => True) := by
 intro H enc fuel cs y h
 obtain ⟨n, rfl, _⟩ := DataW.trod_bool ht h
 exact ⟨n, rfl, trivial⟩
theorem RdOf.string {P : Program} {W : World} {t : TypeId} (ht : P.underlying t = some .string) : RdOf P W Kd.string t (fun s => s.size ≤ maxLen) := by
 intro H enc fuel cs y h
 obtain ⟨n, rfl, _, hw⟩ := DataW.trod_string ht h
 exact ⟨n, rfl, hw⟩
theorem list_of {α : Type} {p : Nat → α → Prop} : ∀ (n : Nat), (∀ i, i < n → ∃ x, p i x) → ∃ xs : List α, xs.length = n ∧ ∀ i x, xs[i]? = some x → p i x
 | 0, _ => ⟨[], rfl, fun i x h => by simp at h⟩
 | n + 1, h => by
  obtain ⟨xs, hl, hx⟩ := list_of n (fun i hi => h i (by omega))
  obtain ⟨x, hp⟩ := h n (by omega)
  refine ⟨xs ++ [x], by simp [hl], fun i y hy => ?_⟩
  rcases Nat.lt_trichotomy i n with hi | hi | hi
  ·rw [List.getElem?_append_left (by omega)] at hy
   exact hx i y hy
  ·subst hi
   rw [List.getElem?_append_right (by omega), hl] at hy
   simp at hy
   subst hy
   exact hp
  ·rw [List.getElem?_eq_none (by simp; omega)] at hy
   cases hy
theorem RdOf.slice {α : Type} {P : Program} {W : World} {d : Kd α} {t e : TypeId} {B : α → Prop} (ht : P.underlying t = some (.slice e)) (hc : P.cellsOf e = d.sz) (hr : RdOf P W d e B) :
 RdOf P W (Kd.slice e d) t (fun xs => xs.length ≤ maxLen ∧ ∀ x ∈ xs, B x) := by
 intro H enc fuel cs y h
 rcases DataW.trod_slice ht h with ⟨rfl, _⟩ | ⟨a, len, cap, elems, rest, n, _, rfl, _, _, hlc, hcm, hel, hx, _, _⟩
 ·refine ⟨[], ⟨none, 0, rfl, by simp, rfl, by simp, fun hp => absurd hp (by simp)⟩, by simp, by simp⟩
 ·obtain ⟨xs, hl, hxs⟩ := list_of (p := fun i x => B x ∧ ∃ c, c.length = d.sz ∧ d.K W x c ∧ ∀ j u, c[j]? = some u → W.cell? (a.add (i * d.sz + j)) = some u) len (fun i hi => by
   have h1 := hx i hi
   have he : elems[i]? = some (elems[i]'(by omega)) := List.getElem?_eq_getElem (by omega)
   rw [he] at h1
   obtain ⟨c, hcells, hc2⟩ := Option.bind_eq_some_iff.1 h1
   obtain ⟨x, hk, hb⟩ := hr enc n c _ hc2
   obtain ⟨_, hcl, hcell⟩ := World.cells?_some hcells
   rw [hc] at hcl hcell
   refine ⟨x, hb, c, hcl, hk, fun j u hu => ?_⟩
   have hj : j < d.sz := by
    rcases Nat.lt_or_ge j c.length with hj | hj
    ·omega
    ·rw [List.getElem?_eq_none hj] at hu; cases hu
   have := hcell j hj
   rw [hu, add_add] at this
   exact this)
  subst hl
  refine ⟨xs, ⟨some a, cap, rfl, hlc, rfl, ?_, fun _ => ⟨a, rfl, fun j p hj => ?_⟩⟩, Nat.le_trans hlc hcm, fun x hx => ?_⟩
  ·have : maxLen = 9223372036854775807 := rfl
   omega
  ·obtain ⟨_, c, h1, h2, h3⟩ := hxs j p hj
   exact ⟨c, h1, h2, h3⟩
  ·obtain ⟨j, hj⟩ := List.getElem?_of_mem hx
   exact (hxs j x hj).1
theorem seg_pair {α β : Type} {a : Kd α} {b : Kd β} {W : World} {x : α} {y : β} {cs : List Value} (o m n : Nat) (h1 : a.K W x ((cs.drop o).take m)) (h2 : b.K W y ((cs.drop (o + m)).take n)) : (Kd.pair a b).K W (x, y) ((cs.drop o).take (m + n)) := by
 refine ⟨_, _, ?_, h1, h2⟩
 rw [List.take_add, List.drop_drop]
theorem seg_all {cs : List Value} {n : Nat} (h : cs.length = n) : (cs.drop 0).take n = cs := by
 rw [List.drop_zero, List.take_of_length_le (by omega)]
theorem nth_some {α : Type} {xs : List α} {n j : Nat} (h : xs.length = n) (hj : j < n) : ∃ y, xs[j]? = some y := ⟨_, List.getElem?_eq_getElem (by omega)⟩

end Go.Proofs.Ytbjdnfgalopfiaa.PE
