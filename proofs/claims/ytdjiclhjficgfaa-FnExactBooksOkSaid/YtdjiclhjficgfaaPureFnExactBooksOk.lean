/- The law FnExactBooksOk: the program's BooksOk answers as the reference's, and leaves its argument as it was; no condition but what the row says of what came in. -/
import Derived.Test.YtdjiclhjficgfaaBooksPa
import Derived.Test.YtdjiclhjficgfaaPairQc
import Derived.Test.YtdjiclhjficgfaaPBx19
namespace Go.Proofs.Ytdjiclhjficgfaa.Pure
open Go.RowKit Go.Proofs.Ytdjiclhjficgfaa.PB Go.Proofs.YtdjiclhjficgfaaW.PrintWords Go.Proofs.YtdjiclhjficgfaaW.PrintLast Go.Proofs.Ytdjiclhjficgfaa.PB
set_option linter.unusedVariables false
set_option linter.unusedSimpArgs false
theorem sz_step (l : Nat) (a : Int) (h0 : 0 ≤ a) (h1 : a ≤ 1048576) (hl : l ≤ 9223372036854775807) : (if wrap64 (a - (l : Int)) < 0 then some (-1 : Int) else some (wrap64 (a - (l : Int)))) = some (if (l : Int) ≤ a then a - l else -1) := by
  rw [wrap_in (by omega) (by omega)]
  by_cases h : (l : Int) ≤ a
  · rw [if_neg (by omega), if_pos h]
  · rw [if_pos (by omega), if_neg h]
theorem rdSaidL {l : List S131} {i : Nat} (h : i < l.length) : rd_T131 l (i : Int) = l[i] := by simp [rd_T131, List.getD_eq_getElem?_getD, List.getElem?_eq_getElem h]
theorem szSaid_loop (l : List S131) (hl : l.length ≤ 1048576) (hin : ∀ s ∈ l, s.f3.length ≤ 9223372036854775807) : ∀ i, i ≤ l.length → ∀ a : Int, 0 ≤ a → a ≤ 1048576 →
    ∃ z : Int, Ev (fun k => laws_szSaidS.l0 k l a (i : Int)) z ∧ (0 ≤ z → ∀ j (h : j < l.length), i ≤ j → l[j].f3.length ≤ 1048576) := by
  refine loop_down l.length ?_ ?_
  · intro a h0 h1
    refine ⟨a, Ev.step (fun k => by rw [laws_szSaidS.l0]) (Ev.neg (by omega) (Ev.ret rfl)), fun _ j hj hij => by omega⟩
  · intro i hi ih a h0 h1
    have hw : wrap64 ((i : Int) + 1) = ((i + 1 : Nat) : Int) := wrap_in (by omega) (by omega)
    have hlen := hin _ (List.getElem_mem hi)
    have hs : laws_szSaid.f l[i].f0 l[i].f1 l[i].f2 l[i].f3 a = some (if (l[i].f3.length : Int) ≤ a then a - l[i].f3.length else -1) := by
      unfold laws_szSaid.f laws_szIntS.f
      rw [sz_step _ _ h0 h1 hlen]
      simp only [Option.bind_some]
      by_cases c : (l[i].f3.length : Int) ≤ a
      · rw [if_pos c, if_neg (by omega)]
      · rw [if_neg c, if_pos (by omega)]
    by_cases c : (l[i].f3.length : Int) ≤ a
    · rw [if_pos c] at hs
      obtain ⟨z, hz, hzz⟩ := ih (a - l[i].f3.length) (by omega) (by omega)
      refine ⟨z, ?_, fun h j hj hij => ?_⟩
      · refine Ev.step (fun k => by rw [laws_szSaidS.l0]) ?_
        refine Ev.pos (by omega) (Ev.pos (by omega) ?_)
        rw [rdSaidL hi, hw]
        exact Ev.eq hs (Ev.neg (by omega) hz)
      · by_cases he : i = j
        · subst he; omega
        · exact hzz h j hj (by omega)
    · rw [if_neg c] at hs
      refine ⟨-1, ?_, fun h => by omega⟩
      refine Ev.step (fun k => by rw [laws_szSaidS.l0]) ?_
      refine Ev.pos (by omega) (Ev.pos (by omega) ?_)
      rw [rdSaidL hi, hw]
      exact Ev.eq hs (Ev.pos (by omega) (Ev.ret rfl))
def convS (l : List S131) : List S108 := l.map (fun s => ⟨s.f0, s.f1, s.f2, s.f3⟩)
theorem toSaidS_ev (l : List S131) (hl : l.length ≤ 1048576) (hin : ∀ s ∈ l, s.f3.length ≤ 1048576) : Ev (fun k => laws_toSaidS.f k l) (convS l) := by
  unfold laws_toSaidS.f
  refine Ev.pos (by omega) (Ev.pos (by omega) ?_)
  have hcl : (convS l).length = l.length := by simp [convS]
  have key : ∀ i, i ≤ l.length → ∀ m : List S108, m.length = l.length → Ev (fun k => laws_toSaidS.l0 k l m (i : Int)) (m.take i ++ (convS l).drop i) := by
    refine loop_down l.length ?_ ?_
    · intro m hm
      refine Ev.step (f := fun _ => some m) (fun k => ?_) (Ev.ret (by rw [List.take_of_length_le (by omega), List.drop_of_length_le (by omega)]; simp))
      simp only [laws_toSaidS.l0]; rw [if_neg (by omega)]
    · intro i hi ih m hm
      have hw : wrap64 ((i : Int) + 1) = ((i + 1 : Nat) : Int) := wrap_in (by omega) (by omega)
      have hto : Ev (fun k => laws_toSaid.f k l[i].f0 l[i].f1 l[i].f2 l[i].f3) (l[i].f0, l[i].f1, l[i].f2, l[i].f3) := by
        unfold laws_toSaid.f
        exact Ev.bind (toIntS_ev _ (hin _ (List.getElem_mem hi))) (Ev.ret rfl)
      refine Ev.step (fun k => by rw [laws_toSaidS.l0]) ?_
      refine Ev.pos (by omega) (Ev.pos (by omega) ?_)
      rw [rdSaidL hi, hw]
      refine Ev.bind hto (Ev.pos (by omega) ?_)
      rw [Int.toNat_natCast]
      refine evTo (ih (m.set i ⟨l[i].f0, l[i].f1, l[i].f2, l[i].f3⟩) (by simpa using hm)) ?_
      have hmi : i < m.length := by omega
      rw [List.take_succ_eq_append_getElem (by simpa using hmi), take_set_self, List.drop_eq_getElem_cons (show i < (convS l).length by omega)]
      simp [convS]
  have := key 0 (by omega) (List.replicate ((l.length : Int)).toNat z108) (by simp)
  simpa using this
theorem eqSaidS_ev (l : List S108) (hl : l.length ≤ 1048576) (hin : ∀ s ∈ l, s.f3.length ≤ 1048576) : Ev (fun k => laws_eqSaidS.f k l l) true := by
  unfold laws_eqSaidS.f
  refine Ev.pos rfl ?_
  have key : ∀ i, i ≤ l.length → Ev (fun k => laws_eqSaidS.l0 k l l (i : Int)) true := by
    refine loop_down l.length ?_ ?_
    · refine Ev.step (fun k => by rw [laws_eqSaidS.l0]) ?_
      exact Ev.neg (by omega) (Ev.ret rfl)
    · intro i hi ih
      have hw : wrap64 ((i : Int) + 1) = ((i + 1 : Nat) : Int) := wrap_in (by omega) (by omega)
      have hlen := hin _ (List.getElem_mem hi)
      have he : Ev (fun k => laws_eqSaid.f k l[i].f0 l[i].f1 l[i].f2 l[i].f3 l[i].f0 l[i].f1 l[i].f2 l[i].f3) true := by
        unfold laws_eqSaid.f
        exact Ev.pos rfl (Ev.pos rfl (Ev.pos rfl (Ev.bind (evTo (eqIntS_ev _ _ (by omega)) (show decide (l[i].f3 = l[i].f3) = true by simp)) (Ev.pos rfl (Ev.ret rfl)))))
      refine Ev.step (fun k => by rw [laws_eqSaidS.l0]) ?_
      refine Ev.pos (by omega) (Ev.pos (by omega) (Ev.pos (by omega) ?_))
      rw [rdSaid hi, hw]
      exact Ev.bind he (Ev.pos rfl ih)
  simpa using key 0 (by omega)
theorem FnExactBooksOk : laws_FnExactBooksOk.Pure := by
  intro a v m p l hB
  have hx : maxLen = 9223372036854775807 := rfl
  have hm : m.length ≤ 9223372036854775807 := by have := hB; simp only [B64, B61] at this; omega
  have hp : p.length ≤ 9223372036854775807 := by have := hB; simp only [B64, B61] at this; omega
  have hl : l.length ≤ 9223372036854775807 := by have := hB; simp only [B64, B61] at this; omega
  have hin : ∀ s ∈ l, s.f3.length ≤ 9223372036854775807 := by
    intro s hs
    have h4 := hB
    simp only [B64] at h4
    have h5 := h4.2.2.2.2 s hs
    simp only [B131] at h5
    omega
  clear hB
  refine Ev.rounds (g := fun k => laws_FnExactBooksOk.f k a v m p l) ?_
  unfold laws_FnExactBooksOk.f
  have hsz : ∃ z : Int, Ev (fun k => laws_szBooks.f k a v m p l 1048576) z ∧ (0 ≤ z → m.length ≤ 1048576 ∧ p.length ≤ 1048576 ∧ l.length ≤ 1048576 ∧ ∀ s ∈ l, s.f3.length ≤ 1048576) := by
    unfold laws_szBooks.f
    rw [szMap_eq v m hm]
    by_cases c1 : m.length ≤ 1048576
    · rw [if_pos c1]
      by_cases c2 : (p.length : Int) ≤ 1048576 - m.length
      · by_cases c3 : (l.length : Int) ≤ 1048576 - m.length - p.length
        · obtain ⟨z, hz, hzz⟩ := szSaid_loop l (by omega) hin 0 (by omega) (1048576 - m.length - p.length - l.length) (by omega) (by omega)
          have h3 : Ev (fun k => laws_szSaidS.f k l (1048576 - m.length - p.length)) z := by
            unfold laws_szSaidS.f
            rw [wrap_in (by omega) (by omega)]
            exact Ev.neg (by omega) hz
          refine ⟨if z < 0 then -1 else z, ?_, ?_⟩
          · refine Ev.eq rfl (Ev.neg (by omega) ?_)
            refine Ev.eq (a := 1048576 - (m.length : Int) - p.length) (by unfold laws_szPairS.f; rw [sz_step _ _ (by omega) (by omega) hp, if_pos c2]) (Ev.neg (by omega) ?_)
            refine Ev.bind h3 ?_
            by_cases hz0 : z < 0
            · exact Ev.pos hz0 (Ev.ret (by rw [if_pos hz0]))
            · exact Ev.neg hz0 (Ev.ret (by rw [if_neg hz0]))
          · intro h
            have hz0 : ¬ z < 0 := by
              intro h2; rw [if_pos h2] at h; omega
            refine ⟨c1, by omega, by omega, fun s hs => ?_⟩
            obtain ⟨j, hj, rfl⟩ := List.getElem_of_mem hs
            exact hzz (by omega) j hj (by omega)
        · refine ⟨-1, ?_, fun h => by omega⟩
          refine Ev.eq rfl (Ev.neg (by omega) ?_)
          refine Ev.eq (a := 1048576 - (m.length : Int) - p.length) (by unfold laws_szPairS.f; rw [sz_step _ _ (by omega) (by omega) hp, if_pos c2]) (Ev.neg (by omega) ?_)
          have h3 : Ev (fun k => laws_szSaidS.f k l (1048576 - m.length - p.length)) (-1) := by
            unfold laws_szSaidS.f
            rw [wrap_in (by omega) (by omega)]
            exact Ev.pos (by omega) (Ev.ret rfl)
          exact Ev.bind h3 (Ev.pos (by omega) (Ev.ret rfl))
      · refine ⟨-1, ?_, fun h => by omega⟩
        refine Ev.eq rfl (Ev.neg (by omega) ?_)
        exact Ev.eq (a := -1) (by unfold laws_szPairS.f; rw [sz_step _ _ (by omega) (by omega) hp, if_neg c2]) (Ev.pos (by omega) (Ev.ret rfl))
    · rw [if_neg c1]
      exact ⟨-1, Ev.eq rfl (Ev.pos (by omega) (Ev.ret rfl)), fun h => by omega⟩
  obtain ⟨z, hz, hzz⟩ := hsz
  refine Ev.bind hz ?_
  by_cases z0 : z < 0
  · exact Ev.pos z0 (Ev.ret rfl)
  obtain ⟨bm, bp, bl, bi⟩ := hzz (by omega)
  refine Ev.neg z0 ?_
  have hcp : (conv p).length = p.length := by simp [conv]
  have hcl : (convS l).length = l.length := by simp [convS]
  have hci : ∀ s ∈ convS l, s.f3.length ≤ 1048576 := by
    intro s hs
    obtain ⟨t, ht, rfl⟩ := List.mem_map.1 hs
    exact bi t ht
  have hto : Ev (fun k => laws_toBooks.f k a v m p l) (a, v, m, conv p, convS l) := by
    unfold laws_toBooks.f
    exact Ev.bind (toMap_ev v m bm) (Ev.bind (toPairS_ev p bp) (Ev.bind (toSaidS_ev l bl bi) (Ev.ret rfl)))
  obtain ⟨b, b1, b2⟩ := books_ev a v m (conv p) (convS l) bm (by omega) (by omega) hci
  have heq : Ev (fun k => laws_eqBooks.f k a v m (conv p) (convS l) a v m (conv p) (convS l)) true := by
    unfold laws_eqBooks.f
    have e1 : Ev (fun k => laws_eqMap.f k v m v m) true := by
      unfold laws_eqMap.f
      exact Ev.pos rfl (Ev.bind (evTo (eqIntS_ev m m (by omega)) (show decide (m = m) = true by simp)) (Ev.pos rfl (Ev.ret rfl)))
    exact Ev.pos rfl (Ev.bind e1 (Ev.pos rfl (Ev.bind (eqPairS_ev _ (by omega)) (Ev.pos rfl (Ev.bind (eqSaidS_ev _ (by omega) hci) (Ev.pos rfl (Ev.ret rfl)))))))
  refine Ev.bind hto (Ev.bind b1 (Ev.bind hto (Ev.bind b2 (Ev.neg (by simp) (Ev.bind hto (Ev.bind heq (Ev.pos rfl (Ev.ret rfl))))))))
end Go.Proofs.Ytdjiclhjficgfaa.Pure
