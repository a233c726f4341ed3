/- The law FnExactWordOk: the program's WordOk answers as the reference's, and leaves its argument as it was; no condition but what the row says of what came in. -/
import Derived.Test.YtbjdnfgalopfiaaWordPb
import Derived.Test.YtbjdnfgalopfiaaPXx18
namespace Go.Proofs.Ytbjdnfgalopfiaa.Pure
open Go.RowKit Go.Proofs.Ytbjdnfgalopfiaa.PX Go.Proofs.YtbjdnfgalopfiaaW.PrintWords Go.Proofs.YtbjdnfgalopfiaaW.PrintLast Go.Proofs.Ytbjdnfgalopfiaa.PB
set_option linter.unusedVariables false
set_option linter.unusedSimpArgs false
theorem sz_step (l : Nat) (a : Int) (h0 : 0 ≤ a) (h1 : a ≤ 1048576) (hl : l ≤ 9223372036854775807) : (if wrap64 (a - (l : Int)) < 0 then some (-1 : Int) else some (wrap64 (a - (l : Int)))) = some (if (l : Int) ≤ a then a - l else -1) := by
  rw [wrap_in (by omega) (by omega)]
  by_cases h : (l : Int) ≤ a
  · rw [if_neg (by omega), if_pos h]
  · rw [if_pos (by omega), if_neg h]
theorem FnExactWordOk : laws_FnExactWordOk.Pure := by
  intro a0 a1 a2 a3 a4 a5 a6 l7 l8 a9 l10 a11 a12 a13 t a15 a16 hB
  have hm : maxLen = 9223372036854775807 := rfl
  have h7 : l7.length ≤ 9223372036854775807 := by have := hB; simp only [B27, B25] at this; omega
  have h8 : l8.length ≤ 9223372036854775807 := by have := hB; simp only [B27, B25] at this; omega
  have h10 : l10.length ≤ 9223372036854775807 := by have := hB; simp only [B27, B25] at this; omega
  have ht : t.size ≤ 9223372036854775807 := by have := hB; simp only [B27, B25] at this; omega
  clear hB
  refine Ev.rounds (g := fun k => laws_FnExactWordOk.f k a0 a1 a2 a3 a4 a5 a6 l7 l8 a9 l10 a11 a12 a13 t a15 a16) ?_
  unfold laws_FnExactWordOk.f
  have hsz : ∃ z : Int, laws_szWord.f a0 a1 a2 a3 a4 a5 a6 l7 l8 a9 l10 a11 a12 a13 t a15 a16 1048576 = some z ∧ (0 ≤ z → l7.length ≤ 1048576 ∧ l8.length ≤ 1048576 ∧ l10.length ≤ 1048576) := by
    unfold laws_szWord.f laws_szIntS.f laws_szPairS.f laws_szCall.f
    rw [sz_step _ _ (by omega) (by omega) h7]
    simp only [Option.bind_some]
    by_cases c7 : (l7.length : Int) ≤ 1048576
    · rw [if_pos c7, if_neg (by omega), sz_step _ _ (by omega) (by omega) h8]
      simp only [Option.bind_some]
      by_cases c8 : (l8.length : Int) ≤ 1048576 - l7.length
      · rw [if_pos c8, if_neg (by omega), sz_step _ _ (by omega) (by omega) h10]
        simp only [Option.bind_some]
        by_cases c10 : (l10.length : Int) ≤ 1048576 - l7.length - l8.length
        · rw [if_pos c10, if_neg (by omega), sz_step _ _ (by omega) (by omega) ht]
          simp only [Option.bind_some]
          by_cases c : (t.size : Int) ≤ 1048576 - l7.length - l8.length - l10.length
          · rw [if_pos c, if_neg (by omega)]
            exact ⟨_, rfl, fun _ => by omega⟩
          · rw [if_neg c, if_pos (by omega)]
            exact ⟨-1, rfl, fun h => by omega⟩
        · rw [if_neg c10, if_pos (by omega)]
          exact ⟨-1, rfl, fun h => by omega⟩
      · rw [if_neg c8, if_pos (by omega)]
        exact ⟨-1, rfl, fun h => by omega⟩
    · rw [if_neg c7, if_pos (by omega)]
      exact ⟨-1, rfl, fun h => by omega⟩
  obtain ⟨z, hz, hzz⟩ := hsz
  refine Ev.eq hz ?_
  by_cases z0 : z < 0
  · exact Ev.pos z0 (Ev.ret rfl)
  obtain ⟨b7, b8, b10⟩ := hzz (by omega)
  refine Ev.neg z0 ?_
  have hc : (conv l8).length = l8.length := by simp [conv]
  have hto : Ev (fun k => laws_toWord.f k a0 a1 a2 a3 a4 a5 a6 l7 l8 a9 l10 a11 a12 a13 t a15 a16) (a0, a1, a2, a3, a4, a5, a6, l7, conv l8, a9, l10, a11, a12, a13, t, a15, a16) := by
    unfold laws_toWord.f
    exact Ev.bind (toIntS_ev l7 b7) (Ev.bind (toPairS_ev l8 b8) (Ev.bind (toIntS_ev l10 b10) (Ev.eq (a := (a11, a12, a13, t, a15, a16)) rfl (Ev.ret rfl))))
  have heq : Ev (fun k => laws_eqWord.f k a0 a1 a2 a3 a4 a5 a6 l7 (conv l8) a9 l10 a11 a12 a13 t a15 a16 a0 a1 a2 a3 a4 a5 a6 l7 (conv l8) a9 l10 a11 a12 a13 t a15 a16) true := by
    unfold laws_eqWord.f
    have e1 := evTo (eqIntS_ev l7 l7 (by omega)) (show decide (l7 = l7) = true by simp)
    have e2 := evTo (eqIntS_ev l10 l10 (by omega)) (show decide (l10 = l10) = true by simp)
    have e3 : laws_eqCall.f a11 a12 a13 t a15 a16 a11 a12 a13 t a15 a16 = some true := by simp [laws_eqCall.f]
    exact Ev.pos rfl (Ev.pos rfl (Ev.pos rfl (Ev.pos rfl (Ev.pos rfl (Ev.pos rfl (Ev.neg (by simp) (Ev.bind e1 (Ev.pos rfl (Ev.bind (eqPairS_ev _ (by omega)) (Ev.pos rfl (Ev.pos rfl (Ev.bind e2 (Ev.pos rfl (Ev.eq e3 (Ev.pos rfl (Ev.ret rfl))))))))))))))))
  obtain ⟨b, hs, hi⟩ := WordOk_ev a0 a1 a2 a3 a4 a5 a6 l7 (conv l8) a9 l10 a11 a12 a13 t a15 a16 b7 b10
  exact Ev.bind hto (Ev.bind hs (Ev.bind hto (Ev.bind hi (Ev.neg (by simp) (Ev.bind hto (Ev.bind heq (Ev.pos rfl (Ev.ret rfl))))))))
end Go.Proofs.Ytbjdnfgalopfiaa.Pure
