/- What the draws of maps come to: some map of at most eight slots. -/
import Derived.Test.YtnpmepaiigbhlaaPick
import Derived.Test.YtnpmepaiigbhlaaMapPc
import Derived.Test.YtnpmepaiigbhlaaMapPl
import Derived.Test.YtnpmepaiigbhlaaPXx17
import Derived.Test.YtnpmepaiigbhlaaPXx4
import Derived.Test.YtnpmepaiigbhlaaPXx18
namespace Go.Proofs.Ytnpmepaiigbhlaa.PB
open Go.RowKit Go.Proofs.Ytnpmepaiigbhlaa.PX Go.Proofs.YtnpmepaiigbhlaaW.PrintWords Go.Proofs.YtnpmepaiigbhlaaW.PrintLast
set_option linter.unusedVariables false
theorem mapMv_ok (v : Int) (l : List Int) (s t : Int) (h : mapOk v l = true) : mapOk (mapMv v l s t).1 (mapMv v l s t).2.1 = true := by
  have hv := mapOk_ver h
  have h8 := mapOk_len h
  unfold mapMv
  rw [if_pos h]
  unfold moved
  by_cases hs : 0 ≤ s ∧ s ≤ 7
  · rw [if_pos hs]
    by_cases ht : 0 ≤ t ∧ t ≤ 2
    · rw [if_pos ht]
      by_cases h99 : v = 99
      · rw [if_pos h99]; exact h
      · rw [if_neg h99]
        by_cases hr : rd l s = t
        · rw [if_pos hr]; exact h
        · rw [if_neg hr]
          simp only [mapOk, Bool.and_eq_true, decide_eq_true_eq, List.all_eq_true] at h ⊢
          refine ⟨⟨?_, by simpa using h8⟩, fun x hx => ?_⟩
          · rw [wrap_in (by omega) (by omega)]; omega
          · rcases List.mem_or_eq_of_mem_set hx with hx | rfl
            · exact h.2 x hx
            · simp only [houseB, decide_eq_true_eq]; exact ht
    · rw [if_neg ht]; exact h
  · rw [if_neg hs]; exact h
theorem MapStart_ev : Ev (fun k => spec_MapStart.f k) (1, [0, 1, 2, 0, 1, 2, 0, 1]) := by
  refine Ev.of (k := 20) (fun k => spec_MapStart.mono k) ?_
  decide +kernel
theorem tri {α β γ : Type} {f : Nat → Option (α × β × γ)} {Q : α → β → γ → Prop} {a : α} {b : β} {c : γ} (h : Ev f (a, b, c)) (q : Q a b c) : ∃ (x : α) (y : β) (z : γ), Ev f (x, y, z) ∧ Q x y z := ⟨a, b, c, h, q⟩
theorem l72Map_l0 (s : List Int) (hs : BytesOk s) : ∀ n : Nat, n ≤ 8 → ∀ (p v : Int) (l : List Int), 0 ≤ p → p + 2 * n ≤ 1000 → mapOk v l = true →
    ∃ (v' : Int) (l' : List Int) (p' : Int), Ev (fun k => spec_l72Map.l0 k (n : Int) s p v l) (v', l', p') ∧ l'.length ≤ 8 ∧ p ≤ p' ∧ p' ≤ p + 2 * n + 4 := by
  intro n
  induction n with
  | zero =>
    intro _ p v l hp0 hp hok
    have h8 := mapOk_len hok
    obtain ⟨r, r0, r1, hr⟩ := pick_ev s p 14 hs hp0 (by omega) (by omega) (by omega)
    by_cases c0 : r = 0
    · obtain ⟨q, q0, q1, hq⟩ := pick_ev s (p + 1) 3 hs (by omega) (by omega) (by omega) (by omega)
      refine tri (Ev.step (fun k => by simp only [spec_l72Map.l0]; rfl) (Ev.neg (by decide) (Ev.bind hr (Ev.pos c0 (Ev.eq rfl (Ev.bind hq (Ev.pos q0 (Ev.pos q1 (Ev.ret rfl))))))))) ?_
      exact ⟨by omega, by omega, by omega⟩
    · by_cases c1 : r = 1
      · obtain ⟨i, i0, i1, hi⟩ := pick_ev s (p + 1) 8 hs (by omega) (by omega) (by omega) (by omega)
        obtain ⟨q, q0, q1, hq⟩ := pick_ev s (p + 1 + 1) 2 hs (by omega) (by omega) (by omega) (by omega)
        have i2 : i < (l.length : Int) := by omega
        refine tri (Ev.step (fun k => by simp only [spec_l72Map.l0]; rfl) (Ev.neg (by decide) (Ev.bind hr (Ev.neg c0 (Ev.pos c1 (Ev.bind hi (Ev.eq rfl (Ev.bind hq (Ev.pos q0 (Ev.pos q1 (Ev.pos i0 (Ev.pos i2 (Ev.ret rfl))))))))))))) ?_
        exact ⟨by rw [List.length_set]; omega, by omega, by omega⟩
      · by_cases c2 : r = 2
        · have l1 : 1 ≤ (l.length : Int) := by omega
          refine tri (Ev.step (fun k => by simp only [spec_l72Map.l0]; rfl) (Ev.neg (by decide) (Ev.bind hr (Ev.neg c0 (Ev.neg c1 (Ev.pos c2 (Ev.pos l1 (Ev.ret rfl)))))))) ?_
          exact ⟨by rw [List.length_drop]; omega, by omega, by omega⟩
        · refine tri (Ev.step (fun k => by simp only [spec_l72Map.l0]; rfl) (Ev.neg (by decide) (Ev.bind hr (Ev.neg c0 (Ev.neg c1 (Ev.neg c2 (Ev.ret rfl))))))) ?_
          exact ⟨by omega, by omega, by omega⟩
  | succ n ih =>
    intro hn p v l hp0 hp hok
    obtain ⟨a, a0, a1, ha⟩ := pick_ev s p 8 hs hp0 (by omega) (by omega) (by omega)
    obtain ⟨b, b0, b1, hb⟩ := pick_ev s (p + 1) 3 hs (by omega) (by omega) (by omega) (by omega)
    have h8 := mapOk_len hok
    obtain ⟨v', l', p', he, h1, h2, h3⟩ := ih (by omega) (p + 1 + 1) (mapMv v l a b).1 (mapMv v l a b).2.1 (by omega) (by omega) (mapMv_ok v l a b hok)
    refine ⟨v', l', p', Ev.step (fun k => by simp only [spec_l72Map.l0]; rfl) (Ev.pos (by omega) (Ev.bind ha (Ev.bind hb (Ev.bind (spec_MapMove_ev v l a b (by omega)) ?_)))), h1, by omega, by omega⟩
    rw [show wrap64 (((n + 1 : Nat) : Int) - 1) = (n : Int) by rw [wrap_in (by omega) (by omega)]; omega]
    exact he
theorem l72Map_ev (s : List Int) (p : Int) (hs : BytesOk s) (hp0 : 0 ≤ p) (hp : p ≤ 900) : ∃ (v : Int) (l : List Int) (p' : Int), Ev (fun k => spec_l72Map.f k s p) (v, l, p') ∧ l.length ≤ 8 ∧ p ≤ p' ∧ p' ≤ p + 30 := by
  obtain ⟨r, r0, r1, hr⟩ := pick_ev s p 8 hs hp0 (by omega) (by omega) (by omega)
  obtain ⟨v', l', p', he, h1, h2, h3⟩ := l72Map_l0 s hs r.toNat (by omega) (p + 1) 1 [0, 1, 2, 0, 1, 2, 0, 1] (by omega) (by omega) (by decide)
  unfold spec_l72Map.f
  refine ⟨v', l', p', Ev.bind MapStart_ev (Ev.bind hr ?_), h1, by omega, by omega⟩
  rw [show ((r.toNat : Nat) : Int) = r by omega] at he
  exact he
theorem DrawMapMove_ev (code : List Int) (h : ∀ x ∈ code, (Lit.int .u8 x).wf = true) : ∃ (v : Int) (l : List Int) (s t : Int), Ev (fun k => spec_DrawMapMove.f k code) (v, l, s, t) ∧ l.length ≤ 8 := by
  obtain ⟨b, ho, hs⟩ := open_eq code h
  obtain ⟨v, l, p, hm, hl, p0, p1⟩ := l72Map_ev b 0 hs (by omega) (by omega)
  obtain ⟨x, x0, x1, hx⟩ := pick_ev b p 10 hs (by omega) (by omega) (by omega) (by omega)
  obtain ⟨y, y0, y1, hy⟩ := pick_ev b (p + 1) 5 hs (by omega) (by omega) (by omega) (by omega)
  unfold spec_DrawMapMove.f
  exact ⟨_, _, _, _, Ev.eq ho (Ev.bind hm (Ev.bind hx (Ev.bind hy (Ev.ret rfl)))), hl⟩
theorem move_back (v : Int) (l : List Int) (s t : Int) (h : (mapMv v l s t).2.2 = 0) : 0 ≤ s ∧ s < (l.length : Int) ∧
    ((mapMv (mapMv v l s t).1 (mapMv v l s t).2.1 s (rd l s)).2.2 = 2 ∨ mapMv (mapMv v l s t).1 (mapMv v l s t).2.1 s (rd l s) = (wrap64 (v + 2), l, 0)) := by
  have hok := mapMv_ok v l s t
  have hl := move_len v l s t
  unfold mapMv at h
  by_cases ho : mapOk v l = true
  · have h8 := mapOk_len ho
    have hv := mapOk_ver ho
    have hok := hok ho
    rw [if_pos ho] at h
    unfold moved at h
    by_cases hs : 0 ≤ s ∧ s ≤ 7
    · rw [if_pos hs] at h
      by_cases ht : 0 ≤ t ∧ t ≤ 2
      · rw [if_pos ht] at h
        by_cases h99 : v = 99
        · rw [if_pos h99] at h; simp at h
        · rw [if_neg h99] at h
          by_cases hr : rd l s = t
          · rw [if_pos hr] at h; simp at h
          · have hm : mapMv v l s t = (v + 1, l.set s.toNat t, 0) := by
              unfold mapMv moved
              rw [if_pos ho, if_pos hs, if_pos ht, if_neg h99, if_neg hr, wrap_in (by omega) (by omega)]
            rw [hm] at hok ⊢
            simp only at hok ⊢
            have hx : 0 ≤ rd l s ∧ rd l s ≤ 2 := by
              have : s.toNat < l.length := by omega
              have hin : rd l s = l[s.toNat] := by simp [rd, List.getD_eq_getElem?_getD, List.getElem?_eq_getElem this]
              have ha := ho
              simp only [mapOk, Bool.and_eq_true, List.all_eq_true] at ha
              have hb := ha.2 _ (List.getElem_mem this)
              simp only [houseB, decide_eq_true_eq] at hb
              omega
            refine ⟨hs.1, by omega, ?_⟩
            have hset : rd (l.set s.toNat t) s = t := by
              have : s.toNat < l.length := by omega
              simp [rd, List.getD_eq_getElem?_getD, this]
            by_cases h98 : v + 1 = 99
            · left
              unfold mapMv moved
              rw [if_pos hok, if_pos hs, if_pos hx, if_pos h98]
            · right
              unfold mapMv moved
              rw [if_pos hok, if_pos hs, if_pos hx, if_neg h98, if_neg (by rw [hset]; exact fun e => hr e.symm), wrap_in (by omega) (by omega), wrap_in (by omega) (by omega)]
              have hback : (l.set s.toNat t).set s.toNat (rd l s) = l := by
                have : s.toNat < l.length := by omega
                rw [List.set_set]
                have hin : rd l s = l[s.toNat] := by simp [rd, List.getD_eq_getElem?_getD, List.getElem?_eq_getElem this]
                rw [hin, List.set_getElem_self]
              rw [hback, show v + 1 + 1 = v + 2 by omega]
      · rw [if_neg ht] at h; simp at h
    · rw [if_neg hs] at h; simp at h
  · rw [if_neg ho] at h; simp at h
end Go.Proofs.Ytnpmepaiigbhlaa.PB
