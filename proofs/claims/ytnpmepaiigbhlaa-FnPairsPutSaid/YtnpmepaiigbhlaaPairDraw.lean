/- Drawn pairs: short lists. -/
import Derived.Test.YtnpmepaiigbhlaaPairPb
import Derived.Test.YtnpmepaiigbhlaaPick
import Derived.Test.YtnpmepaiigbhlaaPXx25
import Derived.Test.YtnpmepaiigbhlaaPXx26
import Derived.Test.YtnpmepaiigbhlaaPXx27
namespace Go.Proofs.Ytnpmepaiigbhlaa.PB
open Go.RowKit Go.Proofs.Ytnpmepaiigbhlaa.PX Go.Proofs.YtnpmepaiigbhlaaW.PrintWords Go.Proofs.YtnpmepaiigbhlaaW.PrintLast
set_option linter.unusedVariables false
set_option linter.unusedSimpArgs false
theorem loGet_ev (l : List S58) (j : Int) (hl : l.length ≤ 1048576) : Ev (fun k => laws_loGet.f k l j) (firstOf l j) := by
  unfold laws_loGet.f
  have key : ∀ i, i ≤ l.length → Ev (fun k => laws_loGet.l0 k l j (i : Int)) (firstOf (l.drop i) j) := by
    refine loop_down l.length ?_ ?_
    · refine Ev.step (f := fun _ => some 0) (fun k => ?_) (Ev.ret (by rw [List.drop_of_length_le (Nat.le_refl _)]; rfl))
      simp only [laws_loGet.l0]; rw [if_neg (by omega)]
    · intro i hi ih
      refine Ev.step (f := fun k => if l[i].f0 = j then some l[i].f1 else laws_loGet.l0 k l j ((i + 1 : Nat) : Int)) (fun k => ?_) ?_
      · simp only [laws_loGet.l0]; rw [if_pos (by omega), if_pos (by omega), rd58_lt hi, wrap_in (by omega) (by omega)]; rfl
      · rw [List.drop_eq_getElem_cons hi]
        unfold firstOf
        by_cases h : l[i].f0 = j
        · rw [if_pos h]; exact Ev.pos h (Ev.ret rfl)
        · rw [if_neg h]; exact Ev.neg h ih
  simpa using key 0 (by omega)
theorem loPairs_ev (l : List S58) (hl : l.length ≤ 1048576) : Ev (fun k => laws_loPairs.f k l l) true := by
  unfold laws_loPairs.f
  refine Ev.pos rfl ?_
  have key : ∀ i, i ≤ l.length → Ev (fun k => laws_loPairs.l0 k l l (i : Int)) true := by
    refine loop_down l.length ?_ ?_
    · refine Ev.step (f := fun _ => some true) (fun k => ?_) (Ev.ret rfl)
      simp only [laws_loPairs.l0]; rw [if_neg (by omega)]
    · intro i hi ih
      refine Ev.step (f := fun k => laws_loPairs.l0 k l l ((i + 1 : Nat) : Int)) (fun k => ?_) ih
      simp only [laws_loPairs.l0]; rw [if_pos (by omega), if_pos (by omega), if_pos (by omega), wrap_in (by omega) (by omega)]; simp
  simpa using key 0 (by omega)
theorem l1Set_ev (l : List S58) (x y : Int) (hl : l.length ≤ 100) : ∃ r : List S58, Ev (fun k => spec_l1Set.f k l x y) r ∧ r.length ≤ l.length + 1 := by
  unfold spec_l1Set.f
  have key : ∀ i, i ≤ l.length → ∀ (z : List S58) (b : Bool), z.length ≤ i + (if b = true then 1 else 0) → ∃ r : List S58, Ev (fun k => spec_l1Set.l0 k l x y z b (i : Int)) r ∧ r.length ≤ l.length + 1 := by
    refine loop_down l.length ?_ ?_
    · intro z b hz
      cases b with
      | true =>
        refine ⟨z, Ev.step (fun k => by rw [spec_l1Set.l0]) (Ev.neg (by omega) (Ev.pos rfl (Ev.ret rfl))), by simpa using hz⟩
      | false =>
        have hz : z.length ≤ l.length := by simpa using hz
        exact ⟨_, Ev.step (fun k => by rw [spec_l1Set.l0]) (Ev.neg (by omega) (Ev.neg (by decide) (Ev.pos (by omega) (Ev.ret rfl)))), by simp; omega⟩
    · intro i hi ih z b hz
      have hw : wrap64 ((i : Int) + 1) = ((i + 1 : Nat) : Int) := wrap_in (by omega) (by omega)
      have hno : ∀ b : Bool, z.length ≤ i + (if b = true then 1 else 0) → ∃ r : List S58, Ev (fun k => spec_l1Set.j1 k l x y z b (i : Int) false) r ∧ r.length ≤ l.length + 1 := by
        intro b hz
        have hz2 : z.length ≤ i + 1 := by revert hz; cases b <;> simp <;> omega
        by_cases hx : (rd_T58 l (i : Int)).f0 = x
        · obtain ⟨r, hr, hl⟩ := ih z b (by omega)
          refine ⟨r, Ev.step (fun k => by rw [spec_l1Set.j1]) ?_, hl⟩
          refine Ev.neg (by decide) (Ev.pos (by omega) (Ev.pos (by omega) (Ev.pos hx ?_)))
          rw [hw]; exact hr
        · obtain ⟨r, hr, hl⟩ := ih (z ++ [(⟨(rd_T58 l (i : Int)).f0, (rd_T58 l (i : Int)).f1⟩ : S58)]) b (by simp; omega)
          refine ⟨r, Ev.step (fun k => by rw [spec_l1Set.j1]) ?_, hl⟩
          refine Ev.neg (by decide) (Ev.pos (by omega) (Ev.pos (by omega) (Ev.neg hx (Ev.pos (by omega) ?_))))
          rw [hw]; exact hr
      cases b with
      | true =>
        obtain ⟨r, hr, hl⟩ := hno true hz
        exact ⟨r, Ev.step (fun k => by rw [spec_l1Set.l0]) (Ev.pos (by omega) (Ev.pos rfl hr)), hl⟩
      | false =>
        have hz : z.length ≤ i := by simpa using hz
        by_cases hge : (rd_T58 l (i : Int)).f0 ≥ x
        · have : ∃ r : List S58, Ev (fun k => spec_l1Set.j1 k l x y z false (i : Int) true) r ∧ r.length ≤ l.length + 1 := by
            by_cases hx : (rd_T58 l (i : Int)).f0 = x
            · obtain ⟨r, hr, hl⟩ := ih (z ++ [(⟨x, y⟩ : S58)]) true (by simp; omega)
              refine ⟨r, Ev.step (fun k => by rw [spec_l1Set.j1]) ?_, hl⟩
              refine Ev.pos rfl (Ev.pos (by omega) (Ev.eq rfl (Ev.pos (by omega) (Ev.pos (by omega) (Ev.pos hx ?_)))))
              rw [hw]; exact hr
            · obtain ⟨r, hr, hl⟩ := ih (z ++ [(⟨x, y⟩ : S58)] ++ [(⟨(rd_T58 l (i : Int)).f0, (rd_T58 l (i : Int)).f1⟩ : S58)]) true (by simp; omega)
              refine ⟨r, Ev.step (fun k => by rw [spec_l1Set.j1]) ?_, hl⟩
              refine Ev.pos rfl (Ev.pos (by omega) (Ev.eq rfl (Ev.pos (by omega) (Ev.pos (by omega) (Ev.neg hx (Ev.pos (by simp; omega) ?_))))))
              rw [hw]; exact hr
          obtain ⟨r, hr, hl⟩ := this
          refine ⟨r, Ev.step (fun k => by rw [spec_l1Set.l0]) ?_, hl⟩
          refine Ev.pos (by omega) (Ev.neg (by decide) (Ev.pos (by omega) ?_))
          rw [decide_eq_true hge]; exact hr
        · obtain ⟨r, hr, hl⟩ := hno false (by simpa using hz)
          refine ⟨r, Ev.step (fun k => by rw [spec_l1Set.l0]) ?_, hl⟩
          refine Ev.pos (by omega) (Ev.neg (by decide) (Ev.pos (by omega) ?_))
          rw [decide_eq_false hge]; exact hr
  exact key 0 (by omega) [] false (by simp)
theorem duo {α β : Type} {f : Nat → Option (α × β)} {Q : α → β → Prop} {a : α} {b : β} (h : Ev f (a, b)) (q : Q a b) : ∃ (x : α) (y : β), Ev f (x, y) ∧ Q x y := ⟨a, b, h, q⟩
theorem l72Pairs_l0 (s : List Int) (hs : BytesOk s) : ∀ n : Nat, n ≤ 12 → ∀ (p : Int) (z : List S58), 0 ≤ p → p + 5 * n ≤ 1000 → z.length + n ≤ 12 →
    ∃ (r : List S58) (p' : Int), Ev (fun k => spec_l72Pairs.l0 k z (n : Int) s p) (r, p') ∧ r.length ≤ 13 ∧ p ≤ p' ∧ p' ≤ p + 5 * n + 4 := by
  intro n
  induction n with
  | zero =>
    intro _ p z hp0 hp hz
    obtain ⟨r, r0, r1, hr⟩ := pick_ev s p 16 hs hp0 (by omega) (by omega) (by omega)
    have z1 : z.length < 8796093022208 := by omega
    by_cases c0 : r = 0
    · refine duo (Ev.step (fun k => by rw [spec_l72Pairs.l0]) (Ev.neg (by decide) (Ev.bind hr (Ev.pos c0 (Ev.pos z1 (Ev.ret rfl)))))) ?_
      exact ⟨by simp; omega, by omega, by omega⟩
    · by_cases c1 : r = 1
      · obtain ⟨q, q0, q1, hq⟩ := pick_ev s (p + 1) 2 hs (by omega) (by omega) (by omega) (by omega)
        refine duo (Ev.step (fun k => by rw [spec_l72Pairs.l0]) (Ev.neg (by decide) (Ev.bind hr (Ev.neg c0 (Ev.pos c1 (Ev.bind hq (Ev.pos z1 (Ev.ret rfl)))))))) ?_
        exact ⟨by simp; omega, by omega, by omega⟩
      · refine duo (Ev.step (fun k => by rw [spec_l72Pairs.l0]) (Ev.neg (by decide) (Ev.bind hr (Ev.neg c0 (Ev.neg c1 (Ev.ret rfl)))))) ?_
        exact ⟨by omega, by omega, by omega⟩
  | succ n ih =>
    intro hn p z hp0 hp hz
    obtain ⟨a, a0, a1, ha⟩ := pick_ev s p 32 hs hp0 (by omega) (by omega) (by omega)
    obtain ⟨b, b0, b1, hb⟩ := pick_ev s (p + 1) 7 hs (by omega) (by omega) (by omega) (by omega)
    obtain ⟨c, c0, c1, hc⟩ := pick_ev s (p + 1 + 1) 60 hs (by omega) (by omega) (by omega) (by omega)
    obtain ⟨d, d0, d1, hd⟩ := pick_ev s (p + 1 + 1 + 1) 20 hs (by omega) (by omega) (by omega) (by omega)
    obtain ⟨e, e0, e1, he⟩ := pick_ev s (p + 1 + 1 + 1 + 1) 5 hs (by omega) (by omega) (by omega) (by omega)
    have ht : wrap64 (Int.tdiv e 2) = e / 2 := by rw [Int.tdiv_eq_ediv_of_nonneg e0]; exact wrap_in (by omega) (by omega)
    have t0 : 0 ≤ wrap64 (Int.tdiv e 2) := by omega
    have t1 : wrap64 (Int.tdiv e 2) < 3 := by omega
    obtain ⟨w, hw, hwl⟩ := l1Set_ev z (rd [0, 1, 4, 5, 8, 9, a] b) (rd [c, wrap64 (-d), 9999] (wrap64 (Int.tdiv e 2))) (by omega)
    obtain ⟨r, p', hr, h1, h2, h3⟩ := ih (by omega) (p + 1 + 1 + 1 + 1 + 1) w (by omega) (by omega) (by omega)
    have hwr : wrap64 (((n + 1 : Nat) : Int) - 1) = (n : Int) := by rw [wrap_in (by omega) (by omega)]; omega
    refine ⟨r, p', Ev.step (fun k => by rw [spec_l72Pairs.l0]) (Ev.pos (by omega) (Ev.bind ha (Ev.eq rfl (Ev.bind hb (Ev.pos b0 (Ev.pos b1 (Ev.bind hc (Ev.bind hd (Ev.eq rfl (Ev.bind he (Ev.pos t0 (Ev.pos t1 (Ev.bind hw ?_))))))))))))), h1, by omega, by omega⟩
    rw [hwr]
    exact hr
theorem l72Pairs_ev (s : List Int) (p : Int) (hs : BytesOk s) (hp0 : 0 ≤ p) (hp : p ≤ 500) : ∃ (r : List S58) (p' : Int), Ev (fun k => spec_l72Pairs.f k s p) (r, p') ∧ r.length ≤ 13 ∧ p ≤ p' ∧ p' ≤ p + 100 := by
  obtain ⟨r, r0, r1, hr⟩ := pick_ev s p 12 hs hp0 (by omega) (by omega) (by omega)
  obtain ⟨l, p', he, h1, h2, h3⟩ := l72Pairs_l0 s hs r.toNat (by omega) (p + 1) [] (by omega) (by omega) (by simp; omega)
  unfold spec_l72Pairs.f
  refine ⟨l, p', Ev.bind hr ?_, h1, by omega, by omega⟩
  rw [show ((r.toNat : Nat) : Int) = r by omega] at he
  exact he
theorem DrawPairsPut_ev (code : List Int) (h : ∀ x ∈ code, (Lit.int .u8 x).wf = true) : ∃ (l m : List S58), Ev (fun k => spec_DrawPairsPut.f k code) (l, m) ∧ l.length ≤ 13 ∧ m.length ≤ 13 := by
  obtain ⟨b, ho, hs⟩ := open_eq code h
  obtain ⟨l, p, hm, hl, p0, p1⟩ := l72Pairs_ev b 0 hs (by omega) (by omega)
  obtain ⟨m, q, hm2, hl2, q0, q1⟩ := l72Pairs_ev b p hs (by omega) (by omega)
  unfold spec_DrawPairsPut.f
  exact ⟨_, _, Ev.eq ho (Ev.bind hm (Ev.bind hm2 (Ev.ret rfl))), hl, hl2⟩
end Go.Proofs.Ytnpmepaiigbhlaa.PB
