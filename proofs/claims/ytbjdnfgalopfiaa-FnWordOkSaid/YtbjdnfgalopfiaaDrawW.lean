/- What the draws below a word come to: short lists, short texts. -/
import Derived.Test.YtbjdnfgalopfiaaPick
import Derived.Test.YtbjdnfgalopfiaaQ1
import Derived.Test.YtbjdnfgalopfiaaPDx22
import Derived.Test.YtbjdnfgalopfiaaPDx23
import Derived.Test.YtbjdnfgalopfiaaPDx21
import Derived.Test.YtbjdnfgalopfiaaPDx28
import Derived.Test.YtbjdnfgalopfiaaPDx31
import Derived.Test.YtbjdnfgalopfiaaPDx29
import Derived.Test.YtbjdnfgalopfiaaPDx30
import Derived.Test.YtbjdnfgalopfiaaPDx33
import Derived.Test.YtbjdnfgalopfiaaPDx32
import Derived.Test.YtbjdnfgalopfiaaPDx4
import Derived.Test.YtbjdnfgalopfiaaPDx6
namespace Go.Proofs.Ytbjdnfgalopfiaa.PB
open Go.RowKit Go.Proofs.Ytbjdnfgalopfiaa.PD Go.Proofs.YtbjdnfgalopfiaaW.PrintWords Go.Proofs.YtbjdnfgalopfiaaW.PrintLast
set_option linter.unusedVariables false
set_option linter.unusedSimpArgs false
theorem rdP_lt {l : List S68} {i : Nat} (h : i < l.length) : rd_T68 l (i : Int) = l[i] := by
 unfold rd_T68
 simp [List.getD_eq_getElem?_getD, List.getElem?_eq_getElem h]
/-- A key set in a list: ahead of the first that is not below it. -/
def setF : List S68 → Int → Int → Bool → List S68
 | [], x, y, b => if b = true then [] else [⟨x, y⟩]
 | p :: l, x, y, b => if b = true then (if p.f0 = x then setF l x y true else p :: setF l x y true) else (if p.f0 ≥ x then ⟨x, y⟩ :: (if p.f0 = x then setF l x y true else p :: setF l x y true) else (if p.f0 = x then setF l x y false else p :: setF l x y false))
theorem setF_length (l : List S68) (x y : Int) (b : Bool) : (setF l x y b).length ≤ l.length + (if b = true then 0 else 1) := by
 induction l generalizing b with
 | nil => unfold setF; cases b <;> simp
 | cons p l ih =>
  have h1 := ih true
  have h2 := ih false
  simp only [if_true, Bool.false_eq_true, if_false] at h1 h2
  unfold setF
  cases b with
  | true => rw [if_pos rfl, if_pos rfl]; split <;> simp <;> omega
  | false =>
   simp only [Bool.false_eq_true, if_false]
   split
   ·split <;> simp <;> omega
   ·split <;> simp <;> omega
theorem setF_ev (l : List S68) (x y : Int) (hl : l.length ≤ 1048576) : Ev (fun k => spec_l1Set.f k l x y) (setF l x y false) := by
 unfold spec_l1Set.f
 have key : ∀ i, i ≤ l.length → ∀ (z : List S68) (b : Bool), z.length ≤ i + (if b = true then 1 else 0) → Ev (fun k => spec_l1Set.l0 k l x y z b (i : Int)) (z ++ setF (l.drop i) x y b) := by
  refine loop_down l.length ?_ ?_
  ·intro z b hz
   rw [List.drop_of_length_le (Nat.le_refl _)]
   cases b with
   | true =>
    refine Ev.step (fun k => by rw [spec_l1Set.l0]) ?_
    exact Ev.neg (by omega) (Ev.pos rfl (Ev.ret (by simp [setF])))
   | false =>
    have hz : z.length ≤ l.length := by simpa using hz
    refine Ev.step (fun k => by rw [spec_l1Set.l0]) ?_
    exact Ev.neg (by omega) (Ev.neg (by decide) (Ev.pos (by omega) (Ev.ret (by simp [setF]))))
  ·intro i hi ih z b hz
   have hw : wrap64 ((i : Int) + 1) = ((i + 1 : Nat) : Int) := wrap_in (by omega) (by omega)
   have hrd : rd_T68 l (i : Int) = l[i] := rdP_lt hi
   rw [List.drop_eq_getElem_cons hi]
   cases b with
   | true =>
    have hz : z.length ≤ i + 1 := by simpa using hz
    refine Ev.step (fun k => by rw [spec_l1Set.l0]) ?_
    refine Ev.pos (by omega) (Ev.pos rfl ?_)
    refine Ev.step (fun k => by rw [spec_l1Set.j1]) ?_
    refine Ev.neg (by decide) (Ev.pos (by omega) (Ev.pos (by omega) ?_))
    rw [hw, hrd]
    unfold setF
    rw [if_pos rfl]
    by_cases hx : l[i].f0 = x
    ·rw [if_pos hx]; exact Ev.pos hx (ih z true (by simp; omega))
    ·rw [if_neg hx]; exact Ev.neg hx (Ev.pos (by omega) (evTo (ih _ true (by simp; omega)) (by simp)))
   | false =>
    have hz : z.length ≤ i := by simpa using hz
    refine Ev.step (fun k => by rw [spec_l1Set.l0]) ?_
    refine Ev.pos (by omega) (Ev.neg (by decide) (Ev.pos (by omega) ?_))
    rw [hrd]
    unfold setF
    rw [if_neg (by decide)]
    by_cases hge : l[i].f0 ≥ x
    ·rw [decide_eq_true hge, if_pos hge]
     refine Ev.step (fun k => by rw [spec_l1Set.j1]) ?_
     refine Ev.pos rfl (Ev.pos (by omega) (Ev.eq rfl (Ev.pos (by omega) (Ev.pos (by omega) ?_))))
     rw [hw, hrd]
     by_cases hx : l[i].f0 = x
     ·rw [if_pos hx]; exact Ev.pos hx (evTo (ih (z ++ [(⟨x, y⟩ : S68)]) true (by simp; omega)) (by simp))
     ·rw [if_neg hx]; exact Ev.neg hx (Ev.pos (by simp; omega) (evTo (ih (z ++ [(⟨x, y⟩ : S68)] ++ [(⟨l[i].f0, l[i].f1⟩ : S68)]) true (by simp; omega)) (by simp)))
    ·rw [decide_eq_false hge, if_neg hge]
     refine Ev.step (fun k => by rw [spec_l1Set.j1]) ?_
     refine Ev.neg (by decide) (Ev.pos (by omega) (Ev.pos (by omega) ?_))
     rw [hw, hrd]
     by_cases hx : l[i].f0 = x
     ·rw [if_pos hx]; exact Ev.pos hx (ih z false (by simp; omega))
     ·rw [if_neg hx]; exact Ev.neg hx (Ev.pos (by omega) (evTo (ih (z ++ [(⟨l[i].f0, l[i].f1⟩ : S68)]) false (by simp; omega)) (by simp)))
 simpa using key 0 (by omega) [] false (by simp)
theorem duo {α β : Type} {f : Nat → Option (α × β)} {Q : α → β → Prop} {a : α} {b : β} (h : Ev f (a, b)) (q : Q a b) : ∃ (x : α) (y : β), Ev f (x, y) ∧ Q x y := ⟨a, b, h, q⟩
theorem l72Pairs_l0 (s : List Int) (hs : BytesOk s) : ∀ n : Nat, n ≤ 12 → ∀ (p : Int) (z : List S68), 0 ≤ p → p + 5 * n ≤ 1000 → z.length + n ≤ 12 →
 ∃ (r : List S68) (p' : Int), Ev (fun k => spec_l72Pairs.l0 k z (n : Int) s p) (r, p') ∧ r.length ≤ 13 ∧ p ≤ p' ∧ p' ≤ p + 5 * n + 4 := by
 intro n
 induction n with
 | zero =>
  intro _ p z hp0 hp hz
  obtain ⟨r, r0, r1, hr⟩ := pick_ev s p 16 hs hp0 (by omega) (by omega) (by omega)
  have z1 : z.length < 8796093022208 := by omega
  by_cases c0 : r = 0
  ·refine duo (Ev.step (fun k => by rw [spec_l72Pairs.l0]) (Ev.neg (by decide) (Ev.bind hr (Ev.pos c0 (Ev.pos z1 (Ev.ret rfl)))))) ?_
   exact ⟨by simp; omega, by omega, by omega⟩
  ·by_cases c1 : r = 1
   ·obtain ⟨q, q0, q1, hq⟩ := pick_ev s (p + 1) 2 hs (by omega) (by omega) (by omega) (by omega)
    refine duo (Ev.step (fun k => by rw [spec_l72Pairs.l0]) (Ev.neg (by decide) (Ev.bind hr (Ev.neg c0 (Ev.pos c1 (Ev.bind hq (Ev.pos z1 (Ev.ret rfl)))))))) ?_
    exact ⟨by simp; omega, by omega, by omega⟩
   ·refine duo (Ev.step (fun k => by rw [spec_l72Pairs.l0]) (Ev.neg (by decide) (Ev.bind hr (Ev.neg c0 (Ev.neg c1 (Ev.ret rfl)))))) ?_
    exact ⟨by omega, by omega, by omega⟩
 | succ n ih =>
  intro hn p z hp0 hp hz
  obtain ⟨a, a0, a1, ha⟩ := pick_ev s p 32 hs hp0 (by omega) (by omega) (by omega)
  obtain ⟨b, b0, b1, hb⟩ := pick_ev s (p + 1) 7 hs (by omega) (by omega) (by omega) (by omega)
  obtain ⟨c, c0, c1, hc⟩ := pick_ev s (p + 1 + 1) 60 hs (by omega) (by omega) (by omega) (by omega)
  obtain ⟨d, d0, d1, hd⟩ := pick_ev s (p + 1 + 1 + 1) 20 hs (by omega) (by omega) (by omega) (by omega)
  obtain ⟨e, e0, e1, he⟩ := pick_ev s (p + 1 + 1 + 1 + 1) 5 hs (by omega) (by omega) (by omega) (by omega)
  have ht : wrap64 (Int.tdiv e 2) = e / 2 := by rw [Int.tdiv_eq_ediv_of_nonneg e0]; exact wrap_in (by omega) (by omega)
  have t0 : 0 ≤ wrap64 (Int.tdiv e 2) := by omega
  have t1 : wrap64 (Int.tdiv e 2) < 3 := by omega
  have hw := setF_ev z (rd [0, 1, 4, 5, 8, 9, a] b) (rd [c, wrap64 (-d), 9999] (wrap64 (Int.tdiv e 2))) (by omega)
  have hwl := setF_length z (rd [0, 1, 4, 5, 8, 9, a] b) (rd [c, wrap64 (-d), 9999] (wrap64 (Int.tdiv e 2))) false
  simp only [Bool.false_eq_true, if_false] at hwl
  generalize setF z (rd [0, 1, 4, 5, 8, 9, a] b) (rd [c, wrap64 (-d), 9999] (wrap64 (Int.tdiv e 2))) false = w at hw hwl
  obtain ⟨r, p', hr, h1, h2, h3⟩ := ih (by omega) (p + 1 + 1 + 1 + 1 + 1) w (by omega) (by omega) (by omega)
  have hwr : wrap64 (((n + 1 : Nat) : Int) - 1) = (n : Int) := by rw [wrap_in (by omega) (by omega)]; omega
  refine ⟨r, p', Ev.step (fun k => by rw [spec_l72Pairs.l0]) (Ev.pos (by omega) (Ev.bind ha (Ev.eq rfl (Ev.bind hb (Ev.pos b0 (Ev.pos b1 (Ev.bind hc (Ev.bind hd (Ev.eq rfl (Ev.bind he (Ev.pos t0 (Ev.pos t1 (Ev.bind hw ?_))))))))))))), h1, by omega, by omega⟩
  rw [hwr]
  exact hr
theorem l72Pairs_ev (s : List Int) (p : Int) (hs : BytesOk s) (hp0 : 0 ≤ p) (hp : p ≤ 500) : ∃ (r : List S68) (p' : Int), Ev (fun k => spec_l72Pairs.f k s p) (r, p') ∧ r.length ≤ 13 ∧ p ≤ p' ∧ p' ≤ p + 100 := by
 obtain ⟨r, r0, r1, hr⟩ := pick_ev s p 12 hs hp0 (by omega) (by omega) (by omega)
 obtain ⟨l, p', he, h1, h2, h3⟩ := l72Pairs_l0 s hs r.toNat (by omega) (p + 1) [] (by omega) (by omega) (by simp; omega)
 unfold spec_l72Pairs.f
 refine ⟨l, p', Ev.bind hr ?_, h1, by omega, by omega⟩
 rw [show ((r.toNat : Nat) : Int) = r by omega] at he
 exact he
theorem dealNum_ev (s : List Int) (hs : BytesOk s) (p d : Int) (hp0 : 0 ≤ p) (hp : p ≤ 1000) : ∃ (r p' : Int), Ev (fun k => dealNum k s p d) (r, p') ∧ p ≤ p' ∧ p' ≤ p + 1 := by
 unfold dealNum
 obtain ⟨a, _, _, ha⟩ := pick_ev s p 40 hs hp0 (by omega) (by omega) (by omega)
 obtain ⟨b, _, _, hb⟩ := pick_ev s p 60 hs hp0 (by omega) (by omega) (by omega)
 obtain ⟨c, _, _, hc⟩ := pick_ev s p 30 hs hp0 (by omega) (by omega) (by omega)
 by_cases h2 : d = 2
 ·exact duo (Ev.pos h2 ha) ⟨by omega, by omega⟩
 ·by_cases h3 : d = 3
  ·exact duo (Ev.neg h2 (Ev.pos h3 (Ev.bind hb (Ev.ret rfl)))) ⟨by omega, by omega⟩
  ·by_cases h4 : d = 4
   ·exact duo (Ev.neg h2 (Ev.neg h3 (Ev.pos h4 (Ev.bind hc (Ev.ret rfl))))) ⟨by omega, by omega⟩
   ·exact duo (Ev.neg h2 (Ev.neg h3 (Ev.neg h4 (Ev.ret rfl)))) ⟨by omega, by omega⟩
theorem dealDraw_l0_ev (s : List Int) (hs : BytesOk s) : ∀ n : Nat, n ≤ 4 → ∀ (p : Int) (z : List S119), 0 ≤ p → p + 4 * n ≤ 500 → z.length + n ≤ 4 →
 ∃ (r : List S119) (p' : Int), Ev (fun k => dealDraw.l0 k z (n : Int) s p) (r, p') ∧ r.length = z.length + n ∧ p ≤ p' ∧ p' ≤ p + 4 * n := by
 intro n
 induction n with
 | zero =>
  intro _ p z hp0 hp hz
  exact duo (Ev.step (fun k => by rw [dealDraw.l0]) (Ev.neg (by decide) (Ev.ret rfl))) ⟨by omega, by omega, by omega⟩
 | succ n ih =>
  intro hn p z hp0 hp hz
  obtain ⟨a, a0, a1, ha⟩ := pick_ev s p 4 hs hp0 (by omega) (by omega) (by omega)
  obtain ⟨b, b0, b1, hb⟩ := pick_ev s (p + 1) 32 hs (by omega) (by omega) (by omega) (by omega)
  obtain ⟨c, c0, c1, hc⟩ := pick_ev s (p + 1 + 1) 7 hs (by omega) (by omega) (by omega) (by omega)
  obtain ⟨d, q, hd, d0, d1⟩ := dealNum_ev s hs (p + 1 + 1 + 1) (wrap64 (1 + a)) (by omega) (by omega)
  obtain ⟨r, p', hr, h1, h2, h3⟩ := ih (by omega) q (z ++ [⟨wrap64 (1 + a), rd [0, 1, 4, 5, 8, 9, b] c, d⟩]) (by omega) (by omega) (by simp; omega)
  have hwr : wrap64 (((n + 1 : Nat) : Int) - 1) = (n : Int) := by rw [wrap_in (by omega) (by omega)]; omega
  refine ⟨r, p', Ev.step (fun k => by rw [dealDraw.l0]) (Ev.pos (by omega) (Ev.bind ha (Ev.bind hb (Ev.bind hc (Ev.pos c0 (Ev.pos c1 (Ev.bind hd (Ev.pos (show z.length < 1000000 by omega) ?_)))))))), by rw [h1]; simp; omega, by omega, by omega⟩
  rw [hwr]
  exact hr
theorem dealDraw_ev (s : List Int) (hs : BytesOk s) (p : Int) (hp0 : 0 ≤ p) (hp : p ≤ 400) : ∃ (r : List S119) (p' : Int), Ev (fun k => dealDraw.f k s p) (r, p') ∧ 1 ≤ r.length ∧ r.length ≤ 4 ∧ p ≤ p' ∧ p' ≤ p + 20 := by
 unfold dealDraw.f
 obtain ⟨a, a0, a1, ha⟩ := pick_ev s p 4 hs hp0 (by omega) (by omega) (by omega)
 obtain ⟨r, p', hr, h1, h2, h3⟩ := dealDraw_l0_ev s hs (1 + a).toNat (by omega) (p + 1) [] (by omega) (by omega) (by simp; omega)
 simp only [List.length_nil] at h1
 refine ⟨r, p', Ev.bind ha ?_, by omega, by omega, by omega, by omega⟩
 rw [show wrap64 (1 + a) = (((1 + a).toNat : Nat) : Int) by rw [wrap_in (by omega) (by omega)]; omega]
 exact hr
theorem slots_l0 (s : List Int) (hs : BytesOk s) : ∀ n : Nat, n ≤ 8 → ∀ (p : Int) (z : List Int), 0 ≤ p → p + n ≤ 1000 → z.length + n ≤ 8 →
 ∃ (r : List Int) (p' : Int), Ev (fun k => spec_l72Slots.l0 k z ((8 : Int) - n) s p) (r, p') ∧ r.length ≤ 9 ∧ p ≤ p' ∧ p' ≤ p + n + 2 := by
 intro n
 induction n with
 | zero =>
  intro _ p z hp0 hp hz
  obtain ⟨r, r0, r1, hr⟩ := pick_ev s p 16 hs hp0 (by omega) (by omega) (by omega)
  have z1 : z.length < 17592186044416 := by omega
  by_cases c0 : r = 0
  ·obtain ⟨q, q0, q1, hq⟩ := pick_ev s (p + 1) 10 hs (by omega) (by omega) (by omega) (by omega)
   refine duo (Ev.step (fun k => by rw [spec_l72Slots.l0]) (Ev.neg (by omega) (Ev.bind hr (Ev.pos c0 (Ev.bind hq (Ev.pos z1 (Ev.ret rfl))))))) ?_
   exact ⟨by simp; omega, by omega, by omega⟩
  ·refine duo (Ev.step (fun k => by rw [spec_l72Slots.l0]) (Ev.neg (by omega) (Ev.bind hr (Ev.neg c0 (Ev.ret rfl))))) ?_
   exact ⟨by omega, by omega, by omega⟩
 | succ n ih =>
  intro hn p z hp0 hp hz
  obtain ⟨r, r0, r1, hr⟩ := pick_ev s p 5 hs hp0 (by omega) (by omega) (by omega)
  have hw : wrap64 ((8 : Int) - ((n + 1 : Nat) : Int) + 1) = (8 : Int) - (n : Nat) := by rw [wrap_in (by omega) (by omega)]; omega
  have z1 : z.length < 17592186044416 := by omega
  by_cases c0 : r = 0
  ·obtain ⟨l, p', hl, h1, h2, h3⟩ := ih (by omega) (p + 1) (z ++ [(8 : Int) - ((n + 1 : Nat) : Int)]) (by omega) (by omega) (by simp; omega)
   rw [← hw] at hl
   exact ⟨l, p', Ev.step (fun k => by rw [spec_l72Slots.l0]) (Ev.pos (by omega) (Ev.bind hr (Ev.pos c0 (Ev.pos z1 hl)))), h1, by omega, by omega⟩
  ·obtain ⟨l, p', hl, h1, h2, h3⟩ := ih (by omega) (p + 1) z (by omega) (by omega) (by omega)
   rw [← hw] at hl
   exact ⟨l, p', Ev.step (fun k => by rw [spec_l72Slots.l0]) (Ev.pos (by omega) (Ev.bind hr (Ev.neg c0 hl))), h1, by omega, by omega⟩
theorem slots_ev (s : List Int) (p : Int) (hs : BytesOk s) (hp0 : 0 ≤ p) (hp : p ≤ 500) : ∃ (r : List Int) (p' : Int), Ev (fun k => spec_l72Slots.f k s p) (r, p') ∧ r.length ≤ 9 ∧ p ≤ p' ∧ p' ≤ p + 10 := by
 obtain ⟨r, p', h, h1, h2, h3⟩ := slots_l0 s hs 8 (by omega) p [] hp0 (by omega) (by simp)
 exact ⟨r, p', h, h1, h2, by omega⟩
theorem dec_ev : ∀ (d : Nat) (n : Int), d ≤ 9 → 0 ≤ n → n < (10 : Int) ^ (d + 1) → ∃ r : ByteArray, Ev (fun k => spec_l6Dec.f k n) r ∧ r.size ≤ d + 1 := by
 intro d
 induction d with
 | zero =>
  intro n _ h0 h1
  have h1' : n < 10 := by simpa using h1
  refine ⟨_, Ev.step (fun k => by rw [spec_l6Dec.f]) (Ev.neg (by omega) (Ev.neg (by omega) (Ev.pos h1' (Ev.ret rfl)))), ?_⟩
  exact Nat.le_refl _
 | succ d ih =>
  intro n hd h0 h1
  have hpow : (10 : Int) ^ (d + 1 + 1) = 10 * (10 : Int) ^ (d + 1) := by rw [Int.pow_succ]; omega
  by_cases h10 : n < 10
  ·exact ⟨_, Ev.step (fun k => by rw [spec_l6Dec.f]) (Ev.neg (by omega) (Ev.neg (by omega) (Ev.pos h10 (Ev.ret rfl)))), by show 1 ≤ _; omega⟩
  ·have hmax : (10 : Int) ^ (d + 1 + 1) ≤ 100000000000 := by
    have : ∀ e : Nat, e ≤ 9 → (10 : Int) ^ (e + 1) ≤ 10000000000 := by decide
    have := this d (by omega)
    omega
   have e : Int.tdiv n 10 = n / 10 := Int.tdiv_eq_ediv_of_nonneg h0
   obtain ⟨r, hr, hs⟩ := ih (n / 10) (by omega) (by omega) (by omega)
   have hw : wrap64 (Int.tdiv n 10) = n / 10 := by rw [e]; exact wrap_in (by omega) (by omega)
   have hs1 : (strOfNums ([(wrap64 (48 + (Int.tmod n 10))) % 256] : List Int)).size = 1 := rfl
   have hsz : r.size + (strOfNums ([(wrap64 (48 + (Int.tmod n 10))) % 256] : List Int)).size ≤ 9223372036854775807 := by rw [hs1]; omega
   refine ⟨r ++ strOfNums ([(wrap64 (48 + (Int.tmod n 10))) % 256] : List Int), Ev.step (fun k => by rw [spec_l6Dec.f, hw]) (Ev.neg (by omega) (Ev.neg (by omega) (Ev.neg h10 (Ev.bind hr (Ev.eq rfl (Ev.pos hsz (Ev.ret rfl))))))), ?_⟩
   rw [ByteArray.size_append, hs1]
   omega
theorem int_ev (n : Int) (h0 : -9999 ≤ n) (h1 : n ≤ 9999) : ∃ r : ByteArray, Ev (fun k => spec_l1Int.f k n) r ∧ r.size ≤ 6 := by
 unfold spec_l1Int.f
 by_cases h : n < 0
 ·obtain ⟨r, hr, hs⟩ := dec_ev 3 (wrap64 (-n)) (by omega) (by rw [wrap_in (by omega) (by omega)]; omega) (by rw [wrap_in (by omega) (by omega)]; show -n < 10000; omega)
  refine ⟨_, Ev.pos h (Ev.bind hr (Ev.pos (by omega) (Ev.ret rfl))), ?_⟩
  rw [ByteArray.size_append]
  show 1 + r.size ≤ 6
  omega
 ·obtain ⟨r, hr, hs⟩ := dec_ev 3 n (by omega) (by omega) (by show n < 10000; omega)
  exact ⟨_, Ev.neg h (Ev.bind hr (Ev.ret rfl)), by omega⟩
def goodS (x : S119) : Prop := (1 ≤ x.f0 ∧ x.f0 ≤ 4) ∧ (0 ≤ x.f1 ∧ x.f1 ≤ 31) ∧ -9999 ≤ x.f2 ∧ x.f2 ≤ 9999
theorem in_eq (n a b : Int) : spec_l6In.f n a b = some (decide (a ≤ n ∧ n ≤ b)) := by
 unfold spec_l6In.f
 by_cases h : a ≤ n <;> simp [h]
theorem val_eq (n : Int) : spec_l1Val.f n = some (decide (-9999 ≤ n ∧ n ≤ 9999)) := by
 unfold spec_l1Val.f
 rw [in_eq]; rfl
theorem dealOk_ev (z : List S119) (hz : z.length ≤ 1000) : ∃ b : Bool, Ev (fun k => spec_DealOk.f k z) b ∧ (b = true → ∀ j : Nat, j < z.length → goodS (rd_T119 z (j : Int))) := by
 have key : ∀ i, i ≤ z.length → ∃ b : Bool, Ev (fun k => spec_DealOk.l0 k z (i : Int)) b ∧ (b = true → ∀ j : Nat, i ≤ j → j < z.length → goodS (rd_T119 z (j : Int))) := by
  refine loop_down z.length ?_ ?_
  ·exact ⟨true, Ev.step (fun k => by rw [spec_DealOk.l0]) (Ev.neg (by omega) (Ev.ret rfl)), fun _ j h0 h1 => by omega⟩
  ·rintro i hi ⟨b, hb, hq⟩
   have hw : wrap64 ((i : Int) + 1) = ((i + 1 : Nat) : Int) := wrap_in (by omega) (by omega)
   rw [← hw] at hb
   by_cases g1 : 1 ≤ (rd_T119 z (i : Int)).f0 ∧ (rd_T119 z (i : Int)).f0 ≤ 4
   ·by_cases g2 : 0 ≤ (rd_T119 z (i : Int)).f1 ∧ (rd_T119 z (i : Int)).f1 ≤ 31
    ·by_cases g3 : -9999 ≤ (rd_T119 z (i : Int)).f2 ∧ (rd_T119 z (i : Int)).f2 ≤ 9999
     ·have good : b = true → ∀ j : Nat, i ≤ j → j < z.length → goodS (rd_T119 z (j : Int)) := by
       intro h j h0 h1
       rcases Nat.lt_or_ge i j with q | q
       ·exact hq h j q h1
       ·obtain rfl : i = j := by omega
        exact ⟨g1, g2, g3⟩
      by_cases g4 : (rd_T119 z (i : Int)).f0 = 1
      ·by_cases g5 : (rd_T119 z (i : Int)).f2 = 0
       ·exact ⟨b, Ev.step (fun k => by rw [spec_DealOk.l0]) (Ev.pos (by omega) (Ev.pos (by omega) (Ev.eq (in_eq _ _ _) (Ev.pos (decide_eq_true g1) (Ev.eq (in_eq _ _ _) (Ev.pos (decide_eq_true g2) (Ev.eq (val_eq _) (Ev.pos (decide_eq_true g3) (Ev.pos g4 (Ev.pos g5 hb)))))))))), good⟩
       ·exact ⟨false, Ev.step (fun k => by rw [spec_DealOk.l0]) (Ev.pos (by omega) (Ev.pos (by omega) (Ev.eq (in_eq _ _ _) (Ev.pos (decide_eq_true g1) (Ev.eq (in_eq _ _ _) (Ev.pos (decide_eq_true g2) (Ev.eq (val_eq _) (Ev.pos (decide_eq_true g3) (Ev.pos g4 (Ev.neg g5 (Ev.ret rfl))))))))))), fun h => by cases h⟩
      ·exact ⟨b, Ev.step (fun k => by rw [spec_DealOk.l0]) (Ev.pos (by omega) (Ev.pos (by omega) (Ev.eq (in_eq _ _ _) (Ev.pos (decide_eq_true g1) (Ev.eq (in_eq _ _ _) (Ev.pos (decide_eq_true g2) (Ev.eq (val_eq _) (Ev.pos (decide_eq_true g3) (Ev.neg g4 hb))))))))), good⟩
     ·exact ⟨false, Ev.step (fun k => by rw [spec_DealOk.l0]) (Ev.pos (by omega) (Ev.pos (by omega) (Ev.eq (in_eq _ _ _) (Ev.pos (decide_eq_true g1) (Ev.eq (in_eq _ _ _) (Ev.pos (decide_eq_true g2) (Ev.eq (val_eq _) (Ev.neg (fun h => g3 (of_decide_eq_true h)) (Ev.ret rfl))))))))), fun h => by cases h⟩
    ·exact ⟨false, Ev.step (fun k => by rw [spec_DealOk.l0]) (Ev.pos (by omega) (Ev.pos (by omega) (Ev.eq (in_eq _ _ _) (Ev.pos (decide_eq_true g1) (Ev.eq (in_eq _ _ _) (Ev.neg (fun h => g2 (of_decide_eq_true h)) (Ev.ret rfl))))))), fun h => by cases h⟩
   ·exact ⟨false, Ev.step (fun k => by rw [spec_DealOk.l0]) (Ev.pos (by omega) (Ev.pos (by omega) (Ev.eq (in_eq _ _ _) (Ev.neg (fun h => g1 (of_decide_eq_true h)) (Ev.ret rfl))))), fun h => by cases h⟩
 obtain ⟨b, hb, hq⟩ := key 0 (by omega)
 unfold spec_DealOk.f
 have no : Ev (fun k => spec_DealOk.j0 k z true) false := Ev.step (fun k => by rw [spec_DealOk.j0]) (Ev.pos rfl (Ev.ret rfl))
 by_cases h1 : (z.length : Int) < 1
 ·exact ⟨false, Ev.pos h1 no, fun h => by cases h⟩
 ·by_cases h6 : (z.length : Int) > 6
  ·refine ⟨false, Ev.neg h1 ?_, fun h => by cases h⟩
   rw [decide_eq_true h6]
   exact no
  ·refine ⟨b, Ev.neg h1 ?_, fun h j hj => hq h j (by omega) hj⟩
   rw [decide_eq_false h6]
   have hb : Ev (fun k => spec_DealOk.l0 k z 0) b := hb
   exact Ev.step (fun k => by rw [spec_DealOk.j0]) (Ev.neg (show ¬ (false = true) by decide) hb)
theorem write_ev (z : List S119) (hz : z.length ≤ 100) : ∃ r : ByteArray, Ev (fun k => spec_DealWrite.f k z) r ∧ r.size ≤ 3000 := by
 unfold spec_DealWrite.f
 obtain ⟨b, hb, hq⟩ := dealOk_ev z (by omega)
 cases b with
 | false => exact ⟨_, Ev.bind hb (Ev.neg (by decide) (Ev.ret rfl)), Nat.zero_le _⟩
 | true =>
  have hq := hq rfl
  have h59 : (⟨#[59]⟩ : ByteArray).size = 1 := rfl
  have h32 : (⟨#[32]⟩ : ByteArray).size = 1 := rfl
  have key : ∀ i, i ≤ z.length → ∀ x : ByteArray, x.size ≤ 30 * i → ∃ r : ByteArray, Ev (fun k => spec_DealWrite.l0 k z x (i : Int)) r ∧ r.size ≤ 3000 := by
   refine loop_down z.length ?_ ?_
   ·intro x hx
    exact ⟨x, Ev.step (fun k => by rw [spec_DealWrite.l0]) (Ev.neg (by omega) (Ev.ret rfl)), by omega⟩
   ·intro i hi ih x hx
    have hw : wrap64 ((i : Int) + 1) = ((i + 1 : Nat) : Int) := wrap_in (by omega) (by omega)
    obtain ⟨g1, g2, g3⟩ := hq i hi
    generalize hs : rd_T119 z (i : Int) = s at g1 g2 g3
    obtain ⟨d, hd, sd⟩ := dec_ev 1 s.f1 (by omega) g2.1 (by show s.f1 < 100; omega)
    obtain ⟨e, he, se⟩ := int_ev s.f2 g3.1 g3.2
    have sw : (rdOf ByteArray.empty ([(⟨#[]⟩ : ByteArray), (⟨#[103, 101, 116, 32]⟩ : ByteArray), (⟨#[112, 117, 116, 32]⟩ : ByteArray), (⟨#[97, 100, 100, 32]⟩ : ByteArray), (⟨#[110, 101, 101, 100, 32]⟩ : ByteArray)] : List ByteArray) s.f0).size ≤ 5 := by
     have c : s.f0 = 1 ∨ s.f0 = 2 ∨ s.f0 = 3 ∨ s.f0 = 4 := by omega
     rcases c with c | c | c | c <;> rw [c] <;> decide
    generalize hwd : rdOf ByteArray.empty ([(⟨#[]⟩ : ByteArray), (⟨#[103, 101, 116, 32]⟩ : ByteArray), (⟨#[112, 117, 116, 32]⟩ : ByteArray), (⟨#[97, 100, 100, 32]⟩ : ByteArray), (⟨#[110, 101, 101, 100, 32]⟩ : ByteArray)] : List ByteArray) s.f0 = wd at sw
    by_cases c1 : s.f0 = 1
    ·obtain ⟨r, hr, sr⟩ := ih (((x ++ wd) ++ d) ++ (⟨#[59]⟩ : ByteArray)) (by simp only [ByteArray.size_append, h59]; omega)
     rw [← hw] at hr
     refine ⟨r, Ev.step (fun k => by rw [spec_DealWrite.l0]) ?_, sr⟩
     rw [hs]
     refine Ev.pos (by omega) (Ev.pos (by omega) (Ev.eq rfl (Ev.pos (by omega) (Ev.pos (by show s.f0 < 5; omega) ?_))))
     rw [hwd]
     exact Ev.pos (by omega) (Ev.bind hd (Ev.pos (by simp only [ByteArray.size_append]; omega) (Ev.pos c1 (Ev.pos (by simp only [ByteArray.size_append]; omega) hr))))
    ·obtain ⟨r, hr, sr⟩ := ih (((((x ++ wd) ++ d) ++ (⟨#[32]⟩ : ByteArray)) ++ e) ++ (⟨#[59]⟩ : ByteArray)) (by simp only [ByteArray.size_append, h59, h32]; omega)
     rw [← hw] at hr
     refine ⟨r, Ev.step (fun k => by rw [spec_DealWrite.l0]) ?_, sr⟩
     rw [hs]
     refine Ev.pos (by omega) (Ev.pos (by omega) (Ev.eq rfl (Ev.pos (by omega) (Ev.pos (by show s.f0 < 5; omega) ?_))))
     rw [hwd]
     exact Ev.pos (by omega) (Ev.bind hd (Ev.pos (by simp only [ByteArray.size_append]; omega) (Ev.neg c1 (Ev.pos (by simp only [ByteArray.size_append]; omega) (Ev.bind he (Ev.pos (by simp only [ByteArray.size_append, h32]; omega) (Ev.pos (by simp only [ByteArray.size_append, h32]; omega) hr)))))))
  obtain ⟨r, hr, sr⟩ := key 0 (by omega) (⟨#[]⟩ : ByteArray) (Nat.le_refl _)
  exact ⟨r, Ev.bind hb (Ev.pos rfl hr), sr⟩
theorem of_ev (s : List Int) (p : Int) (l : List ByteArray) (hs : BytesOk s) (hp0 : 0 ≤ p) (hp : p ≤ 1000) (hl : 1 ≤ l.length) (hl2 : l.length ≤ 100) (hx : ∀ x ∈ l, x.size ≤ 100) : ∃ r : ByteArray, Ev (fun k => spec_l6Rd_of.f k s p l) (r, p + 1) ∧ r.size ≤ 100 := by
 unfold spec_l6Rd_of.f
 obtain ⟨t, t0, t1, ht⟩ := pick_ev s p (l.length : Int) hs hp0 (by omega) (by omega) (by omega)
 refine ⟨_, Ev.bind ht (Ev.pos t0 (Ev.pos t1 (Ev.ret rfl))), ?_⟩
 unfold rdOf
 rw [List.getD_eq_getElem?_getD, List.getElem?_eq_getElem (show t.toNat < l.length by omega)]
 exact hx _ (List.getElem_mem _)
theorem many_l0 : ∀ (d : Nat) (n : Int) (x out : ByteArray), d ≤ 8 → 0 ≤ n → n < (2 : Int) ^ d → x.size * 2 ^ d ≤ 1000000 → out.size + x.size * 2 ^ d ≤ 1000000 + x.size → ∃ r : ByteArray, Ev (fun k => spec_l6Many.l0 k x n out) r ∧ r.size ≤ 1000000 := by
 intro d
 induction d with
 | zero =>
  intro n x out _ h0 h1 hx ho
  have h1' : n < 1 := by simpa using h1
  simp only [Nat.pow_zero, Nat.mul_one] at hx ho
  exact ⟨out, Ev.step (fun k => by rw [spec_l6Many.l0]) (Ev.neg (by omega) (Ev.ret rfl)), by omega⟩
 | succ d ih =>
  intro n x out hd h0 h1 hx ho
  have hp : (2 : Int) ^ (d + 1) = 2 * (2 : Int) ^ d := by rw [Int.pow_succ]; omega
  rw [hp] at h1
  have hpn : x.size * 2 ^ (d + 1) = x.size * 2 ^ d + x.size * 2 ^ d := by rw [Nat.pow_succ, ← Nat.mul_assoc]; omega
  have hxx : (x ++ x).size * 2 ^ d = x.size * 2 ^ d + x.size * 2 ^ d := by rw [ByteArray.size_append, Nat.add_mul]
  have hge : x.size ≤ x.size * 2 ^ d := Nat.le_mul_of_pos_right _ (Nat.pow_pos (by decide))
  have hmax : (2 : Int) ^ d ≤ 1000 := by
   have : ∀ e : Nat, e ≤ 8 → (2 : Int) ^ e ≤ 1000 := by decide
   exact this d (by omega)
  rw [hpn] at hx ho
  by_cases hn : n > 0
  ·have e2 : Int.tdiv n 2 = n / 2 := Int.tdiv_eq_ediv_of_nonneg h0
   have hw : wrap64 (Int.tdiv n 2) = n / 2 := by rw [e2]; exact wrap_in (by omega) (by omega)
   have h12 : n / 2 < (2 : Int) ^ d := by omega
   have s1 : x.size + x.size ≤ 9223372036854775807 := by omega
   by_cases ho2 : Int.tmod n 2 = 1
   ·have s2 : out.size + x.size ≤ 9223372036854775807 := by omega
    have e3 : (out ++ x).size + (x ++ x).size * 2 ^ d ≤ 1000000 + (x ++ x).size := by
     rw [hxx, ByteArray.size_append, ByteArray.size_append]; omega
    obtain ⟨r, hr, sr⟩ := ih (n / 2) (x ++ x) (out ++ x) (by omega) (by omega) h12 (by rw [hxx]; omega) e3
    rw [← hw] at hr
    exact ⟨r, Ev.step (fun k => by rw [spec_l6Many.l0]) (Ev.pos hn (Ev.pos ho2 (Ev.pos s2 (Ev.pos s1 hr)))), sr⟩
   ·obtain ⟨r, hr, sr⟩ := ih (n / 2) (x ++ x) out (by omega) (by omega) h12 (by rw [hxx]; omega) (by rw [hxx, ByteArray.size_append]; omega)
    rw [← hw] at hr
    exact ⟨r, Ev.step (fun k => by rw [spec_l6Many.l0]) (Ev.pos hn (Ev.neg ho2 (Ev.pos s1 hr))), sr⟩
  ·exact ⟨out, Ev.step (fun k => by rw [spec_l6Many.l0]) (Ev.neg hn (Ev.ret rfl)), by omega⟩
theorem many_ev (n : Int) (h0 : 0 ≤ n) (h1 : n < 128) : ∃ r : ByteArray, Ev (fun k => spec_l6Many.f k (⟨#[120]⟩ : ByteArray) n) r ∧ r.size ≤ 1000000 := by
 obtain ⟨r, hr, sr⟩ := many_l0 7 n (⟨#[120]⟩ : ByteArray) (⟨#[]⟩ : ByteArray) (by omega) h0 (by show n < 128; omega) (by decide) (by decide)
 exact ⟨r, hr, sr⟩
end Go.Proofs.Ytbjdnfgalopfiaa.PB
