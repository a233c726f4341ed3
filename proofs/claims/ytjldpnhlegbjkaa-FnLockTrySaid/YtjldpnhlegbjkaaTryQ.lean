/- A plain law of LockAsk: a later try stands instead of an elder one. -/
import Derived.Test.YtjldpnhlegbjkaaAskR
namespace Go.Proofs.Ytjldpnhlegbjkaa.PB
open Go.RowKit Go.Proofs.Ytjldpnhlegbjkaa.PA Go.Proofs.YtjldpnhlegbjkaaW.PrintWords Go.Proofs.YtjldpnhlegbjkaaW.PrintLast
set_option linter.unusedVariables false
set_option linter.unusedSimpArgs false
theorem count0 {l : List S45} {t : Int} (h : hasOf l t = false) : l.countP (fun z => decide (z.f0 = t)) = 0 :=
  List.countP_eq_zero.2 (fun z hz => by simpa using has_no.1 h z hz)
theorem count1 {l : List S45} {t : Int} (ha : Asc l) {z : S45} (hz : z ∈ l) (ht : z.f0 = t) : l.countP (fun z => decide (z.f0 = t)) = 1 := by
  obtain ⟨a, b, rfl⟩ := List.append_of_mem hz
  obtain ⟨_, p2, p3⟩ := List.pairwise_append.1 ha
  obtain ⟨p4, _⟩ := List.pairwise_cons.1 p2
  have ea : a.countP (fun z => decide (z.f0 = t)) = 0 := List.countP_eq_zero.2 (fun y hy => by
    have := p3 y hy z List.mem_cons_self
    simp only [decide_eq_true_eq]
    omega)
  have eb : b.countP (fun z => decide (z.f0 = t)) = 0 := List.countP_eq_zero.2 (fun y hy => by
    have := p4 y hy
    simp only [decide_eq_true_eq]
    omega)
  rw [List.countP_append, List.countP_cons, ea, eb]
  simp [ht]
theorem ask_try {s : Int} {l1 l2 : List S45} {x : S45} {r1 : Int} {r2 r3 r5 : List S45} {r4 : Bool} (h : lockB s l1 l2 = true) (hf : x.f3 = false) (hx : (1 ≤ x.f0 ∧ x.f0 ≤ 9999) ∧ 1 ≤ x.f1 ∧ x.f1 ≤ 9999) (hl : l1.length + l2.length < 16) (h1 : ∀ z ∈ l1, z.f0 = x.f0 → z.f3 = false) (ha : askF s l1 l2 x = (r1, r2, r3, r4, r5)) :
    (r2 ++ r3).countP (fun z => decide (z.f0 = x.f0)) = 1 ∧ ∀ z ∈ r2 ++ r3, z.f0 = x.f0 → x.f1 ≤ z.f1 := by
  have hk := ask_ok h ha
  have c := ask_case (x := x) h
  obtain ⟨_, _, _, a1, _, a2, _, b8⟩ := (lockB_iff s l1 l2).1 h
  obtain ⟨_, _, _, c1, _, c2, _, d8⟩ := (lockB_iff r1 r2 r3).1 hk
  rw [ha] at c
  rw [List.countP_append]
  cases c with
  | bad h' =>
    rcases h' with q | q
    · rw [(holdB_iff x).2 hx] at q; cases q
    · rw [hf] at q; cases q
  | held _ _ z hz hs h' =>
    have n2 : ∀ y ∈ l2, y.f0 ≠ x.f0 := fun y hy e => has_no.1 (b8 y hy).1 z hz (by rw [hs, e])
    rw [count1 a1 hz hs, count0 (has_no.2 n2)]
    refine ⟨rfl, fun y hy e => ?_⟩
    rcases List.mem_append.1 hy with q | q
    · have e1 := at_uniq (x := x) a1 q e
      rw [at_uniq (x := x) a1 hz hs] at e1
      subst e1
      rcases h' with h' | h'
      · rw [h1 z hz hs] at h'; cases h'
      · exact h'
    · exact absurd e (n2 y q)
  | waits _ _ _ z hz hs h' =>
    have n1 : ∀ y ∈ l1, y.f0 ≠ x.f0 := fun y hy => by rw [← hs]; exact has_no.1 (b8 z hz).1 y hy
    rw [count1 a2 hz hs, count0 (has_no.2 n1)]
    refine ⟨rfl, fun y hy e => ?_⟩
    rcases List.mem_append.1 hy with q | q
    · exact absurd e (n1 y q)
    · have e1 := at_uniq (x := x) a2 q e
      rw [at_uniq (x := x) a2 hz hs] at e1
      subst e1
      omega
  | full _ _ _ _ h' => have := keep_len l1 x; have := rest_len l2 x; omega
  | got =>
    rw [count1 c1 (put_mem.2 (.inl rfl)) rfl, count0 (rest_has l2 x)]
    refine ⟨rfl, fun y hy e => ?_⟩
    rcases List.mem_append.1 hy with q | q
    · rcases put_mem.1 q with rfl | q
      · exact Int.le_refl _
      · exact absurd e (mem_keep.1 q).2.1
    · exact absurd e (mem_rest.1 q).2
  | wait =>
    rw [count0 (keep_has l1 x), count1 c2 (put_mem.2 (.inl rfl)) rfl]
    refine ⟨rfl, fun y hy e => ?_⟩
    rcases List.mem_append.1 hy with q | q
    · exact absurd e (mem_keep.1 q).2.1
    · rcases put_mem.1 q with rfl | q
      · exact Int.le_refl _
      · exact absurd e (mem_rest.1 q).2
/-- One who has promised is left as he is. -/
theorem ask_firm {s : Int} {l1 l2 : List S45} {x z : S45} (h : lockB s l1 l2 = true) (hf : x.f3 = false) (hx : (1 ≤ x.f0 ∧ x.f0 ≤ 9999) ∧ 1 ≤ x.f1 ∧ x.f1 ≤ 9999) (hz : z ∈ l1) (hs : z.f0 = x.f0) (h3 : z.f3 = true) : askF s l1 l2 x = (s, l1, l2, eqH z x, []) :=
  ask_of h (.held ((holdB_iff x).2 hx) hf z hz hs (.inl h3))
end Go.Proofs.Ytjldpnhlegbjkaa.PB
