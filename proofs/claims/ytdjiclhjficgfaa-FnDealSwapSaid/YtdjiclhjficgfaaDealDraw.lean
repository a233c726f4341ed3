/- Drawn deals and values: short lists. -/
import Derived.Test.YtdjiclhjficgfaaRunPa
import Derived.Test.YtdjiclhjficgfaaPick
import Derived.Test.YtdjiclhjficgfaaPXx18
import Derived.Test.YtdjiclhjficgfaaPXx19
import Derived.Test.YtdjiclhjficgfaaPXx20
namespace Go.Proofs.Ytdjiclhjficgfaa.PB
open Go.RowKit Go.Proofs.Ytdjiclhjficgfaa.PX Go.Proofs.YtdjiclhjficgfaaW.PrintWords Go.Proofs.YtdjiclhjficgfaaW.PrintLast
set_option linter.unusedVariables false
set_option linter.unusedSimpArgs false
theorem loGet_ev (l : List S48) (j : Int) (hl : l.length ≤ 1048576) : Ev (fun k => laws_loGet.f k l j) (firstOf l j) := by
  unfold laws_loGet.f
  have key : ∀ i, i ≤ l.length → Ev (fun k => laws_loGet.l0 k l j (i : Int)) (firstOf (l.drop i) j) := by
    refine loop_down l.length ?_ ?_
    · refine Ev.step (f := fun _ => some 0) (fun k => ?_) (Ev.ret (by rw [List.drop_of_length_le (Nat.le_refl _)]; rfl))
      simp only [laws_loGet.l0]; rw [if_neg (by omega)]
    · intro i hi ih
      refine Ev.step (f := fun k => if l[i].f0 = j then some l[i].f1 else laws_loGet.l0 k l j ((i + 1 : Nat) : Int)) (fun k => ?_) ?_
      · simp only [laws_loGet.l0]; rw [if_pos (by omega), if_pos (by omega), rd58_lt hi, wrap_in (by omega) (by omega)]; rfl
      · rw [List.drop_eq_getElem_cons hi]
        unfold firstOf
        by_cases h : l[i].f0 = j
        · rw [if_pos h]; exact Ev.pos h (Ev.ret rfl)
        · rw [if_neg h]; exact Ev.neg h ih
  simpa using key 0 (by omega)
theorem loPairs_ev (l : List S48) (hl : l.length ≤ 1048576) : Ev (fun k => laws_loPairs.f k l l) true := by
  unfold laws_loPairs.f
  refine Ev.pos rfl ?_
  have key : ∀ i, i ≤ l.length → Ev (fun k => laws_loPairs.l0 k l l (i : Int)) true := by
    refine loop_down l.length ?_ ?_
    · refine Ev.step (f := fun _ => some true) (fun k => ?_) (Ev.ret rfl)
      simp only [laws_loPairs.l0]; rw [if_neg (by omega)]
    · intro i hi ih
      refine Ev.step (f := fun k => laws_loPairs.l0 k l l ((i + 1 : Nat) : Int)) (fun k => ?_) ih
      simp only [laws_loPairs.l0]; rw [if_pos (by omega), if_pos (by omega), if_pos (by omega), wrap_in (by omega) (by omega)]; simp
  simpa using key 0 (by omega)
theorem loInts_ev (l : List Int) (hl : l.length ≤ 1048576) : Ev (fun k => laws_loInts.f k l l) true := by
  unfold laws_loInts.f
  refine Ev.pos rfl ?_
  have key : ∀ i, i ≤ l.length → Ev (fun k => laws_loInts.l0 k l l (i : Int)) true := by
    refine loop_down l.length ?_ ?_
    · refine Ev.step (fun k => by rw [laws_loInts.l0]) ?_
      exact Ev.neg (by omega) (Ev.ret rfl)
    · intro i hi ih
      refine Ev.step (fun k => by rw [laws_loInts.l0]) ?_
      refine Ev.pos (by omega) (Ev.pos (by omega) (Ev.pos (by omega) (Ev.pos rfl ?_)))
      rw [wrap_in (by omega) (by omega)]
      exact ih
  simpa using key 0 (by omega)
theorem duo {α β : Type} {f : Nat → Option (α × β)} {Q : α → β → Prop} {a : α} {b : β} (h : Ev f (a, b)) (q : Q a b) : ∃ (x : α) (y : β), Ev f (x, y) ∧ Q x y := ⟨a, b, h, q⟩
theorem l72Pairs_l0 (s : List Int) (hs : BytesOk s) : ∀ n : Nat, n ≤ 12 → ∀ (p : Int) (z : List S48), 0 ≤ p → p + 5 * n ≤ 1000 → z.length + n ≤ 12 →
    ∃ (r : List S48) (p' : Int), Ev (fun k => spec_l72Pairs.l0 k z (n : Int) s p) (r, p') ∧ r.length ≤ 13 ∧ p ≤ p' ∧ p' ≤ p + 5 * n + 4 := by
  intro n
  induction n with
  | zero =>
    intro _ p z hp0 hp hz
    obtain ⟨r, r0, r1, hr⟩ := pick_ev s p 16 hs hp0 (by omega) (by omega) (by omega)
    have z1 : z.length < 8796093022208 := by omega
    by_cases c0 : r = 0
    · refine duo (Ev.step (fun k => by rw [spec_l72Pairs.l0]) (Ev.neg (by decide) (Ev.bind hr (Ev.pos c0 (Ev.pos z1 (Ev.ret rfl)))))) ?_
      exact ⟨by simp; omega, by omega, by omega⟩
    · by_cases c1 : r = 1
      · obtain ⟨q, q0, q1, hq⟩ := pick_ev s (p + 1) 2 hs (by omega) (by omega) (by omega) (by omega)
        refine duo (Ev.step (fun k => by rw [spec_l72Pairs.l0]) (Ev.neg (by decide) (Ev.bind hr (Ev.neg c0 (Ev.pos c1 (Ev.bind hq (Ev.pos z1 (Ev.ret rfl)))))))) ?_
        exact ⟨by simp; omega, by omega, by omega⟩
      · refine duo (Ev.step (fun k => by rw [spec_l72Pairs.l0]) (Ev.neg (by decide) (Ev.bind hr (Ev.neg c0 (Ev.neg c1 (Ev.ret rfl)))))) ?_
        exact ⟨by omega, by omega, by omega⟩
  | succ n ih =>
    intro hn p z hp0 hp hz
    obtain ⟨a, a0, a1, ha⟩ := pick_ev s p 32 hs hp0 (by omega) (by omega) (by omega)
    obtain ⟨b, b0, b1, hb⟩ := pick_ev s (p + 1) 7 hs (by omega) (by omega) (by omega) (by omega)
    obtain ⟨c, c0, c1, hc⟩ := pick_ev s (p + 1 + 1) 60 hs (by omega) (by omega) (by omega) (by omega)
    obtain ⟨d, d0, d1, hd⟩ := pick_ev s (p + 1 + 1 + 1) 20 hs (by omega) (by omega) (by omega) (by omega)
    obtain ⟨e, e0, e1, he⟩ := pick_ev s (p + 1 + 1 + 1 + 1) 5 hs (by omega) (by omega) (by omega) (by omega)
    have ht : wrap64 (Int.tdiv e 2) = e / 2 := by rw [Int.tdiv_eq_ediv_of_nonneg e0]; exact wrap_in (by omega) (by omega)
    have t0 : 0 ≤ wrap64 (Int.tdiv e 2) := by omega
    have t1 : wrap64 (Int.tdiv e 2) < 3 := by omega
    have hw := setF_ev z (rd [0, 1, 4, 5, 8, 9, a] b) (rd [c, wrap64 (-d), 9999] (wrap64 (Int.tdiv e 2))) (by omega)
    have hwl := setF_length z (rd [0, 1, 4, 5, 8, 9, a] b) (rd [c, wrap64 (-d), 9999] (wrap64 (Int.tdiv e 2))) false
    simp only [Bool.false_eq_true, if_false] at hwl
    generalize setF z (rd [0, 1, 4, 5, 8, 9, a] b) (rd [c, wrap64 (-d), 9999] (wrap64 (Int.tdiv e 2))) false = w at hw hwl
    obtain ⟨r, p', hr, h1, h2, h3⟩ := ih (by omega) (p + 1 + 1 + 1 + 1 + 1) w (by omega) (by omega) (by omega)
    have hwr : wrap64 (((n + 1 : Nat) : Int) - 1) = (n : Int) := by rw [wrap_in (by omega) (by omega)]; omega
    refine ⟨r, p', Ev.step (fun k => by rw [spec_l72Pairs.l0]) (Ev.pos (by omega) (Ev.bind ha (Ev.eq rfl (Ev.bind hb (Ev.pos b0 (Ev.pos b1 (Ev.bind hc (Ev.bind hd (Ev.eq rfl (Ev.bind he (Ev.pos t0 (Ev.pos t1 (Ev.bind hw ?_))))))))))))), h1, by omega, by omega⟩
    rw [hwr]
    exact hr
theorem l72Pairs_ev (s : List Int) (p : Int) (hs : BytesOk s) (hp0 : 0 ≤ p) (hp : p ≤ 500) : ∃ (r : List S48) (p' : Int), Ev (fun k => spec_l72Pairs.f k s p) (r, p') ∧ r.length ≤ 13 ∧ p ≤ p' ∧ p' ≤ p + 100 := by
  obtain ⟨r, r0, r1, hr⟩ := pick_ev s p 12 hs hp0 (by omega) (by omega) (by omega)
  obtain ⟨l, p', he, h1, h2, h3⟩ := l72Pairs_l0 s hs r.toNat (by omega) (p + 1) [] (by omega) (by omega) (by simp; omega)
  unfold spec_l72Pairs.f
  refine ⟨l, p', Ev.bind hr ?_, h1, by omega, by omega⟩
  rw [show ((r.toNat : Nat) : Int) = r by omega] at he
  exact he
theorem dealNum_ev (s : List Int) (hs : BytesOk s) (p d : Int) (hp0 : 0 ≤ p) (hp : p ≤ 1000) : ∃ (r p' : Int), Ev (fun k => dealNum k s p d) (r, p') ∧ p ≤ p' ∧ p' ≤ p + 1 := by
  unfold dealNum
  obtain ⟨a, _, _, ha⟩ := pick_ev s p 40 hs hp0 (by omega) (by omega) (by omega)
  obtain ⟨b, _, _, hb⟩ := pick_ev s p 60 hs hp0 (by omega) (by omega) (by omega)
  obtain ⟨c, _, _, hc⟩ := pick_ev s p 30 hs hp0 (by omega) (by omega) (by omega)
  by_cases h2 : d = 2
  · exact duo (Ev.pos h2 ha) ⟨by omega, by omega⟩
  · by_cases h3 : d = 3
    · exact duo (Ev.neg h2 (Ev.pos h3 (Ev.bind hb (Ev.ret rfl)))) ⟨by omega, by omega⟩
    · by_cases h4 : d = 4
      · exact duo (Ev.neg h2 (Ev.neg h3 (Ev.pos h4 (Ev.bind hc (Ev.ret rfl))))) ⟨by omega, by omega⟩
      · exact duo (Ev.neg h2 (Ev.neg h3 (Ev.neg h4 (Ev.ret rfl)))) ⟨by omega, by omega⟩
theorem dealDraw_l0_ev (s : List Int) (hs : BytesOk s) : ∀ n : Nat, n ≤ 4 → ∀ (p : Int) (z : List S46), 0 ≤ p → p + 4 * n ≤ 500 → z.length + n ≤ 4 →
    ∃ (r : List S46) (p' : Int), Ev (fun k => dealDraw.l0 k z (n : Int) s p) (r, p') ∧ r.length = z.length + n ∧ p ≤ p' ∧ p' ≤ p + 4 * n := by
  intro n
  induction n with
  | zero =>
    intro _ p z hp0 hp hz
    exact duo (Ev.step (fun k => by rw [dealDraw.l0]) (Ev.neg (by decide) (Ev.ret rfl))) ⟨by omega, by omega, by omega⟩
  | succ n ih =>
    intro hn p z hp0 hp hz
    obtain ⟨a, a0, a1, ha⟩ := pick_ev s p 4 hs hp0 (by omega) (by omega) (by omega)
    obtain ⟨b, b0, b1, hb⟩ := pick_ev s (p + 1) 32 hs (by omega) (by omega) (by omega) (by omega)
    obtain ⟨c, c0, c1, hc⟩ := pick_ev s (p + 1 + 1) 7 hs (by omega) (by omega) (by omega) (by omega)
    obtain ⟨d, q, hd, d0, d1⟩ := dealNum_ev s hs (p + 1 + 1 + 1) (wrap64 (1 + a)) (by omega) (by omega)
    obtain ⟨r, p', hr, h1, h2, h3⟩ := ih (by omega) q (z ++ [⟨wrap64 (1 + a), rd [0, 1, 4, 5, 8, 9, b] c, d⟩]) (by omega) (by omega) (by simp; omega)
    have hwr : wrap64 (((n + 1 : Nat) : Int) - 1) = (n : Int) := by rw [wrap_in (by omega) (by omega)]; omega
    refine ⟨r, p', Ev.step (fun k => by rw [dealDraw.l0]) (Ev.pos (by omega) (Ev.bind ha (Ev.bind hb (Ev.bind hc (Ev.pos c0 (Ev.pos c1 (Ev.bind hd (Ev.pos (show z.length < 1000000 by omega) ?_)))))))), by rw [h1]; simp; omega, by omega, by omega⟩
    rw [hwr]
    exact hr
theorem dealDraw_ev (s : List Int) (hs : BytesOk s) (p : Int) (hp0 : 0 ≤ p) (hp : p ≤ 400) : ∃ (r : List S46) (p' : Int), Ev (fun k => dealDraw.f k s p) (r, p') ∧ 1 ≤ r.length ∧ r.length ≤ 4 ∧ p ≤ p' ∧ p' ≤ p + 20 := by
  unfold dealDraw.f
  obtain ⟨a, a0, a1, ha⟩ := pick_ev s p 4 hs hp0 (by omega) (by omega) (by omega)
  obtain ⟨r, p', hr, h1, h2, h3⟩ := dealDraw_l0_ev s hs (1 + a).toNat (by omega) (p + 1) [] (by omega) (by omega) (by simp; omega)
  simp only [List.length_nil] at h1
  refine ⟨r, p', Ev.bind ha ?_, by omega, by omega, by omega, by omega⟩
  rw [show wrap64 (1 + a) = (((1 + a).toNat : Nat) : Int) by rw [wrap_in (by omega) (by omega)]; omega]
  exact hr
theorem dealPut_ev (s : List Int) (hs : BytesOk s) (z : List S46) (hz : 1 ≤ z.length) (hz2 : z.length ≤ 100) (p m : Int) (hp0 : 0 ≤ p) (hp : p ≤ 450) (hm : 1 ≤ m) (hm2 : m ≤ 100) (L : List Int) (f : S46 → Int → S46) :
    ∃ (r : List S46) (p' : Int), Ev (fun k => dealPut k z s p m L f) (r, p') ∧ r.length = z.length ∧ p ≤ p' ∧ p' ≤ p + 2 := by
  unfold dealPut
  obtain ⟨i, i0, i1, hi⟩ := pick_ev s p (z.length : Int) hs hp0 (by omega) (by omega) (by omega)
  obtain ⟨j, j0, j1, hj⟩ := pick_ev s (p + 1) m hs (by omega) (by omega) (by omega) (by omega)
  exact duo (Ev.bind hi (Ev.bind hj (Ev.pos i0 (Ev.pos i1 (Ev.pos j0 (Ev.pos j1 (Ev.ret rfl))))))) ⟨by simp, by omega, by omega⟩
theorem dealFill_ev (s : List Int) (hs : BytesOk s) : ∀ n : Nat, ∀ (z : List S46) (p : Int), 7 ≤ z.length + n → z.length ≤ 7 → 0 ≤ p → p + 2 * n ≤ 490 →
    ∃ (r : List S46) (p' : Int), Ev (fun k => dealFill k z s p) (r, p') ∧ r.length ≤ 7 ∧ p ≤ p' ∧ p' ≤ p + 2 * n + 1 := by
  intro n
  induction n with
  | zero =>
    intro z p hz hz2 hp0 hp
    obtain ⟨a, a0, a1, ha⟩ := pick_ev s p 2 hs hp0 (by omega) (by omega) (by omega)
    have hw : wrap64 (6 + a) = 6 + a := wrap_in (by omega) (by omega)
    exact ⟨z, p + 1, Ev.step (fun k => by rw [dealFill]) (Ev.bind ha (Ev.neg (show ¬ ((z.length : Int) < wrap64 (6 + a)) by omega) (Ev.ret rfl))), by omega, by omega, by omega⟩
  | succ n ih =>
    intro z p hz hz2 hp0 hp
    obtain ⟨a, a0, a1, ha⟩ := pick_ev s p 2 hs hp0 (by omega) (by omega) (by omega)
    obtain ⟨b, b0, b1, hb⟩ := pick_ev s (p + 1) 8 hs (by omega) (by omega) (by omega) (by omega)
    have hw : wrap64 (6 + a) = 6 + a := wrap_in (by omega) (by omega)
    by_cases h : (z.length : Int) < 6 + a
    · obtain ⟨r, p', hr, h1, h2, h3⟩ := ih (z ++ [⟨1, b, 0⟩]) (p + 1 + 1) (by simp; omega) (by simp; omega) (by omega) (by omega)
      exact ⟨r, p', Ev.step (fun k => by rw [dealFill]) (Ev.bind ha (Ev.pos (show (z.length : Int) < wrap64 (6 + a) by omega) (Ev.bind hb (Ev.pos (show z.length < 1000000 by omega) hr)))), h1, by omega, by omega⟩
    · exact ⟨z, p + 1, Ev.step (fun k => by rw [dealFill]) (Ev.bind ha (Ev.neg (show ¬ ((z.length : Int) < wrap64 (6 + a)) by omega) (Ev.ret rfl))), by omega, by omega, by omega⟩
theorem l72Deal_ev (s : List Int) (hs : BytesOk s) : ∃ (r : List S46) (p' : Int), Ev (fun k => spec_l72Deal.f k s 0) (r, p') ∧ r.length ≤ 7 ∧ 0 ≤ p' ∧ p' ≤ 100 := by
  unfold spec_l72Deal.f l72DealF
  obtain ⟨z, p, hz, z0, z1, p0, p1⟩ := dealDraw_ev s hs 0 (by omega) (by omega)
  obtain ⟨c, _, _, hc⟩ := pick_ev s p 12 hs (by omega) (by omega) (by omega) (by omega)
  have put : ∀ (m : Int) (L : List Int) (f : S46 → Int → S46), 1 ≤ m → m ≤ 100 → ∃ (r : List S46) (p' : Int), Ev (fun k => dealPut k z s (p + 1) m L f) (r, p') ∧ r.length ≤ 7 ∧ 0 ≤ p' ∧ p' ≤ 100 := by
    intro m L f h1 h2
    obtain ⟨r, q, hr, h3, h4, h5⟩ := dealPut_ev s hs z z0 (by omega) (p + 1) m (by omega) (by omega) h1 h2 L f
    exact ⟨r, q, hr, by omega, by omega, by omega⟩
  by_cases c0 : c = 0
  · obtain ⟨r, q, hr, h⟩ := put 2 [0, 5] (fun x v => ⟨v, x.f1, x.f2⟩) (by omega) (by omega)
    exact ⟨r, q, Ev.bind hz (Ev.bind hc (Ev.pos c0 hr)), h⟩
  by_cases c1 : c = 1
  · obtain ⟨r, q, hr, h⟩ := put 3 [-1, 32, 31] (fun x v => ⟨x.f0, v, x.f2⟩) (by omega) (by omega)
    exact ⟨r, q, Ev.bind hz (Ev.bind hc (Ev.neg c0 (Ev.pos c1 hr))), h⟩
  by_cases c2 : c = 2
  · obtain ⟨r, q, hr, h⟩ := put 4 [-10000, 10000, 9999, -9999] (fun x v => ⟨x.f0, x.f1, v⟩) (by omega) (by omega)
    exact ⟨r, q, Ev.bind hz (Ev.bind hc (Ev.neg c0 (Ev.neg c1 (Ev.pos c2 hr)))), h⟩
  by_cases c3 : c = 3
  · obtain ⟨r, q, hr, h1, h2, h3⟩ := dealFill_ev s hs 7 z (p + 1) (by omega) (by omega) (by omega) (by omega)
    exact ⟨r, q, Ev.bind hz (Ev.bind hc (Ev.neg c0 (Ev.neg c1 (Ev.neg c2 (Ev.pos c3 hr))))), h1, by omega, by omega⟩
  by_cases c4 : c = 4
  · exact ⟨[], p + 1, Ev.bind hz (Ev.bind hc (Ev.neg c0 (Ev.neg c1 (Ev.neg c2 (Ev.neg c3 (Ev.pos c4 (Ev.ret rfl))))))), by simp, by omega, by omega⟩
  · exact ⟨z, p + 1, Ev.bind hz (Ev.bind hc (Ev.neg c0 (Ev.neg c1 (Ev.neg c2 (Ev.neg c3 (Ev.neg c4 (Ev.ret rfl))))))), by omega, by omega, by omega⟩
theorem DrawDealRun_ev (code : List Int) (h : ∀ x ∈ code, (Lit.int .u8 x).wf = true) : ∃ (l : List S46) (m : List S48), Ev (fun k => spec_DrawDealRun.f k code) (l, m) ∧ l.length ≤ 7 ∧ m.length ≤ 13 := by
  obtain ⟨b, ho, hs⟩ := open_eq code h
  obtain ⟨l, p, hl, l0, p0, p1⟩ := l72Deal_ev b hs
  obtain ⟨m, q, hm, m0, q0, q1⟩ := l72Pairs_ev b p hs (by omega) (by omega)
  unfold spec_DrawDealRun.f
  exact ⟨_, _, Ev.eq ho (Ev.bind hl (Ev.bind hm (Ev.ret rfl))), l0, m0⟩
end Go.Proofs.Ytdjiclhjficgfaa.PB
