/- The law FnExactLockAsk: the program's LockAsk answers as the reference's, leaves its arguments as they were, and hands back memory of its own; no condition but what the row says of what came in. -/
import Derived.Test.YtjldpnhlegbjkaaLockPc
import Derived.Test.YtjldpnhlegbjkaaL1
namespace Go.Proofs.Ytjldpnhlegbjkaa.Pure
open Go.RowKit Go.Proofs.Ytjldpnhlegbjkaa.PA Go.Proofs.YtjldpnhlegbjkaaW.PrintWords Go.Proofs.YtjldpnhlegbjkaaW.PrintLast Go.Proofs.Ytjldpnhlegbjkaa.PB
set_option linter.unusedVariables false
set_option linter.unusedSimpArgs false
theorem put_len (l : List S45) (x : S45) : (putOf l x).length = l.length + 1 := by
  unfold putOf
  have : l.take (placeN l x) ++ l.drop (placeN l x) = l := List.take_append_drop _ _
  have h2 := congrArg List.length this
  simp only [List.length_append, List.length_cons] at h2 ⊢
  omega
theorem ask_len (s : Int) (l1 l2 : List S45) (x : S45) (h1 : l1.length ≤ 1048576) (h2 : l2.length ≤ 1048576) : (askF s l1 l2 x).2.1.length ≤ 1048576 ∧ (askF s l1 l2 x).2.2.1.length ≤ 1048576 ∧ (askF s l1 l2 x).2.2.2.2.length ≤ 1048576 := by
  unfold askF
  split
  · simp
  split
  · exact ⟨h1, h2, by simp⟩
  split
  · exact ⟨h1, h2, by simp⟩
  split
  · exact ⟨h1, h2, by simp⟩
  unfold tailF
  have f1 := List.length_filter_le (fun y : S45 => !decide (y.f0 = x.f0)) l1
  have f2 := List.length_filter_le (tkB x) (l1.filter (fun y => !decide (y.f0 = x.f0)))
  split
  · exact ⟨h1, h2, by simp⟩
  rename_i hr
  split
  · refine ⟨?_, ?_, ?_⟩
    · show (putOf _ x).length ≤ _
      rw [put_len]; omega
    · show (List.filter _ l2).length ≤ _
      omega
    · show (List.filter (tkB x) _).length ≤ _
      omega
  · refine ⟨?_, ?_, ?_⟩
    · show (List.filter _ _).length ≤ _
      omega
    · show (putOf _ x).length ≤ _
      rw [put_len]; omega
    · show (List.filter (tkB x) _).length ≤ _
      omega
theorem FnExactLockAsk : laws_FnExactLockAsk.Pure := by
  intro s h w a b c d hB _
  have hx : maxLen = 9223372036854775807 := rfl
  have hh : h.length ≤ 9223372036854775807 := by have := hB; simp only [B24] at this; omega
  have hw : w.length ≤ 9223372036854775807 := by have := hB; simp only [B24] at this; omega
  clear hB
  obtain ⟨z, hz, hzz⟩ := szLock_eq s h w hh hw
  by_cases z0 : z < 0
  · exact ⟨0, z, hz, fun e => absurd z0 e⟩
  have hb := hzz (by omega)
  have e1 := convH_len h
  have e2 := convH_len w
  have b1 : (convH h).length ≤ 1048576 := by omega
  have b2 : (convH w).length ≤ 1048576 := by omega
  obtain ⟨K1, k1⟩ := toLock_ev s h w (by omega) (by omega)
  obtain ⟨g1, g2, g5⟩ := ask_len s (convH h) (convH w) ⟨a, b, c, d⟩ b1 b2
  obtain ⟨r1, r2, r3, r4, r5, hR⟩ : ∃ r1 r2 r3 r4 r5, askF s (convH h) (convH w) ⟨a, b, c, d⟩ = (r1, r2, r3, r4, r5) := ⟨_, _, _, _, _, rfl⟩
  rw [hR] at g1 g2 g5
  have g1 : r2.length ≤ 1048576 := g1
  have g2 : r3.length ≤ 1048576 := g2
  have g5 : r5.length ≤ 1048576 := g5
  obtain ⟨K3, k3⟩ := eqLock_ev r1 r2 r3 g1 g2
  obtain ⟨K4, k4⟩ := eqHoldS_ev r5 g5
  obtain ⟨K5, k5⟩ := eqLock_ev s (convH h) (convH w) b1 b2
  obtain ⟨K6, k6⟩ := markLock_ev s (convH h) (convH w) 1 (by omega) (by omega) b1 b2
  obtain ⟨K7, k7⟩ := markLock_ev r1 r2 r3 1 (by omega) (by omega) g1 g2
  obtain ⟨K8, k8⟩ := markHoldS_ev r5 (1 + 4 * (r2.length : Int) + 4 * (r3.length : Int)) (by omega) (by omega) g5
  obtain ⟨K9, k9⟩ := heldLock_ev r1 r2.length r3.length 1 (by omega) (by omega) g1 g2
  obtain ⟨K10, k10⟩ := heldHoldS_ev r5.length (1 + 4 * (r2.length : Int) + 4 * (r3.length : Int)) (by omega) (by omega) g5
  obtain ⟨k, hk⟩ : ∃ k, K1 ≤ k ∧ K3 ≤ k ∧ K4 ≤ k ∧ K5 ≤ k ∧ K6 ≤ k ∧ K7 ≤ k ∧ K8 ≤ k ∧ K9 ≤ k ∧ K10 ≤ k := ⟨K1 + K3 + K4 + K5 + K6 + K7 + K8 + K9 + K10, by omega⟩
  refine ⟨k, z, hz, fun _ => ⟨convH h, convH w, r1, r2, r3, r4, r5, _, _, _, _, _, _, _, _, k1 k (by omega), ⟨b1, b2⟩, hR, k3 k (by omega), k4 k (by omega), k5 k (by omega), ⟨k6 k (by omega), by omega⟩, k7 k (by omega), k8 k (by omega), ⟨k9 k (by omega), by omega⟩, ⟨k10 k (by omega), by omega⟩, hmarks_length _ _, hmarks_length _ _, hmarks_length _ _⟩⟩
end Go.Proofs.Ytjldpnhlegbjkaa.Pure
