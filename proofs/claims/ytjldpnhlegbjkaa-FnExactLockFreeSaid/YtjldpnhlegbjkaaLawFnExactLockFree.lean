-- Written by a program of this workplace (wip/xprint.py over the kit's print.py) out of the translation.
import Derived.Test.YtjldpnhlegbjkaaRows
import Derived.Test.YtjldpnhlegbjkaaL2
import Derived.WalkKit
import Derived.ProofKit
import Derived.OpenShut
import Derived.ShutString
import Derived.ChangeOld
import Derived.Below
import Derived.SizedLaws
import Derived.Test.YtjldpnhlegbjkaaLockPc
namespace Go.Proofs.Ytjldpnhlegbjkaa.Pure
open Go.RowKit Go.Proofs.Ytjldpnhlegbjkaa.PA Go.Proofs.YtjldpnhlegbjkaaW.PrintWords Go.Proofs.YtjldpnhlegbjkaaW.PrintLast Go.Proofs.Ytjldpnhlegbjkaa.PB
set_option linter.unusedVariables false
set_option linter.unusedSimpArgs false
theorem inv_fold {a b : Nat} {w0 : List S45} {p : List S45 × List S45 × List S45} (hw : Asc w0) (h : FreeInv a b w0 0 p) : ∀ n, n ≤ w0.length → FreeInv a b w0 n ((w0.take n).foldl stepF p) := by
  intro n
  induction n with
  | zero => exact fun _ => h
  | succ n ih =>
    intro hn
    rw [List.take_succ_eq_append_getElem (by omega), List.foldl_append]
    exact FreeInv.step hw (ih (by omega)) (by omega)
theorem free_len (s : Int) (l1 l2 : List S45) (st ty : Int) : (freeF s l1 l2 st ty).2.1.length ≤ 1048576 ∧ (freeF s l1 l2 st ty).2.2.1.length ≤ 1048576 ∧ (freeF s l1 l2 st ty).2.2.2.length ≤ 1048576 := by
  unfold freeF
  cases hok : lockB s l1 l2 with
  | false => rw [if_pos rfl]; simp
  | true =>
    rw [if_neg (by decide)]
    have hq := (lock_asc2 hok).2
    have ha : Asc (l2.filter (fun z => !goneB st ty z)) := (lock_asc2 hok).1.filter _
    have h1 := inv_fold ha (FreeInv.start (fun z => !goneB st ty z) hok) _ (Nat.le_refl _)
    rw [List.take_length] at h1
    obtain ⟨_, h2, h3, h4, _⟩ := h1
    have h5 := List.length_filter_le (fun z => !goneB st ty z) l2
    refine ⟨Nat.le_trans h2 (by omega), Nat.le_trans h3 (by omega), Nat.le_trans h4 (by omega)⟩
theorem FnExactLockFree : laws_FnExactLockFree.Pure := by
  intro s h w st ty hB _ _
  have hx : maxLen = 9223372036854775807 := rfl
  have hh : h.length ≤ 9223372036854775807 := by have := hB; simp only [B24] at this; omega
  have hw : w.length ≤ 9223372036854775807 := by have := hB; simp only [B24] at this; omega
  clear hB
  obtain ⟨z, hz, hzz⟩ := szLock_eq s h w hh hw
  by_cases z0 : z < 0
  · exact ⟨0, z, hz, fun e => absurd z0 e⟩
  have hb := hzz (by omega)
  have e1 := convH_len h
  have e2 := convH_len w
  have b1 : (convH h).length ≤ 1048576 := by omega
  have b2 : (convH w).length ≤ 1048576 := by omega
  obtain ⟨K1, k1⟩ := toLock_ev s h w (by omega) (by omega)
  obtain ⟨g1, g2, g5⟩ := free_len s (convH h) (convH w) st ty
  obtain ⟨r1, r2, r3, r5, hR⟩ : ∃ r1 r2 r3 r5, freeF s (convH h) (convH w) st ty = (r1, r2, r3, r5) := ⟨_, _, _, _, rfl⟩
  rw [hR] at g1 g2 g5
  have g1 : r2.length ≤ 1048576 := g1
  have g2 : r3.length ≤ 1048576 := g2
  have g5 : r5.length ≤ 1048576 := g5
  obtain ⟨K3, k3⟩ := eqLock_ev r1 r2 r3 g1 g2
  obtain ⟨K4, k4⟩ := eqHoldS_ev r5 g5
  obtain ⟨K5, k5⟩ := eqLock_ev s (convH h) (convH w) b1 b2
  obtain ⟨K6, k6⟩ := markLock_ev s (convH h) (convH w) 1 (by omega) (by omega) b1 b2
  obtain ⟨K7, k7⟩ := markLock_ev r1 r2 r3 1 (by omega) (by omega) g1 g2
  obtain ⟨K8, k8⟩ := markHoldS_ev r5 (1 + 4 * (r2.length : Int) + 4 * (r3.length : Int)) (by omega) (by omega) g5
  obtain ⟨K9, k9⟩ := heldLock_ev r1 r2.length r3.length 1 (by omega) (by omega) g1 g2
  obtain ⟨K10, k10⟩ := heldHoldS_ev r5.length (1 + 4 * (r2.length : Int) + 4 * (r3.length : Int)) (by omega) (by omega) g5
  obtain ⟨k, hk⟩ : ∃ k, K1 ≤ k ∧ K3 ≤ k ∧ K4 ≤ k ∧ K5 ≤ k ∧ K6 ≤ k ∧ K7 ≤ k ∧ K8 ≤ k ∧ K9 ≤ k ∧ K10 ≤ k := ⟨K1 + K3 + K4 + K5 + K6 + K7 + K8 + K9 + K10, by omega⟩
  refine ⟨k, z, hz, fun _ => ⟨convH h, convH w, r1, r2, r3, r5, _, _, _, _, _, _, _, _, k1 k (by omega), ⟨b1, b2⟩, hR, k3 k (by omega), k4 k (by omega), k5 k (by omega), ⟨k6 k (by omega), by omega⟩, k7 k (by omega), k8 k (by omega), ⟨k9 k (by omega), by omega⟩, ⟨k10 k (by omega), by omega⟩, hmarks_length _ _, hmarks_length _ _, hmarks_length _ _⟩⟩
end Go.Proofs.Ytjldpnhlegbjkaa.Pure
namespace Go.Proofs.Ytjldpnhlegbjkaa.fnExactLockFree
open Go.ChangeShapes Go.WideShapes Go.ChangeAt Go.RowKit Go.Proofs.Ytjldpnhlegbjkaa.PA Go.Proofs.YtjldpnhlegbjkaaW.PrintWords
open Go.ChangeMaps (open_string shut_string)
set_option linter.unusedVariables false
theorem own : ownKnob Try.prog.godebug = none := by kernel_rfl
theorem laidOut : laidOutB Try.prog = true := by kernel_rfl
set_option maxRecDepth 100000 in
theorem lifted (os : Os) (started : os.Started) (H : Type) (enc : TypeId × Value → H) :
    ReturnsInHanded {} Try.checked os 5 .any (Rows.fnExactLockFreeSpec.pre6 enc Try.prog Try.f5 Rows.fnExactLockFreeRow.domain false) (Rows.fnExactLockFreeSpec.post enc Try.prog Try.f5 false true false false) := by
  refine returnsInHanded_of_change_sized (C := Try.checked) own started (by kernel_rfl) Try.func5
    (ChangeSpec.witness6 (enc := enc) (C := Try.checked) false ⟨#[], #[.agg #[.int .i64 0, .slice none 0 0, .slice none 0 0], .int .i64 0, .int .i64 0], []⟩ 8 (by kernel_rfl) (by kernel_rfl) (by kernel_rfl) (by kernel_rfl)) ?_
  intro W base args ds gs before hval0 hW hcnd hsz0 _
  have hval : ∀ (j : Nat) t v, Try.f5.params[j]? = some t → args[j]? = some v → Value.okWide Try.prog W .any base t v := hval0
  have hW' := hW
  obtain ⟨p, q, hA0, hV, rfl, hfz, hnd⟩ := hW
  have hA : DataW.TrodAll enc Try.prog W 0 (fun _ => true) true Try.f5.params.toList args.toList ds p := hA0
  rw [Try.params5] at hA hval
  obtain ⟨v0, vs0, d0, ds0, p0, q0, hargs, rfl, rfl, h0, r0⟩ := trodAll_cons hA
  obtain ⟨v1, vs1, d1, ds1, p1, q1, rfl, rfl, rfl, h1, r1⟩ := trodAll_cons r0
  obtain ⟨v2, vs2, d2, ds2, p2, q2, rfl, rfl, rfl, h2, r2⟩ := trodAll_cons r1
  obtain ⟨rfl, rfl, rfl⟩ := trodAll_nil r2
  obtain rfl : args = #[v0, v1, v2] := by cases args; simp_all
  obtain ⟨rfl, rfl⟩ := trodVars_none hV
  have k0 := h0
  have lt0 : ∀ x ∈ p0, x.block < W.heap.size := by obtain ⟨m, hm⟩ := k0; exact DataW.trod_lt m _ _ _ hm
  obtain ⟨⟨ll0⟩, rfl, _⟩ := okWide_struct Try.underlying24 (hval 0 24 v0 rfl rfl)
  obtain ⟨fu0, hf0⟩ := h0
  obtain ⟨⟨xx0_0, xx0_1, xx0_2⟩, hK0, w0⟩ := rd24_ W enc fu0 _ _ hf0
  obtain ⟨A0_1, c0_1, A0_2, c0_2, e0_, hc0_1, hr0_1, hc0_2, hr0_2⟩ := k24_open hK0
  have e0_' : ll0 = _ := e0_
  subst e0_'
  have k1 := h1
  have lt1 : ∀ x ∈ p1, x.block < W.heap.size := by obtain ⟨m, hm⟩ := k1; exact DataW.trod_lt m _ _ _ hm
  obtain ⟨a1, rfl, rfl, rfl, w1⟩ := open_int Try.underlying3 (hval 1 3 v1 rfl rfl) h1
  have k2 := h2
  have lt2 : ∀ x ∈ p2, x.block < W.heap.size := by obtain ⟨m, hm⟩ := k2; exact DataW.trod_lt m _ _ _ hm
  obtain ⟨a2, rfl, rfl, rfl, w2⟩ := open_int Try.underlying3 (hval 2 3 v2 rfl rfl) h2
  clear hA0 hval0 hsz0
  refine (laws_FnExactLockFree.walk Pure.FnExactLockFree _ _ _ _ _ _ _ _ _ W hr0_1 hc0_1 hr0_2 hc0_2 w0 w1 w2).mono fun e W' ⟨he, bel⟩ => ?_
  subst he
  exact ⟨_, rfl, _, _, _, [], _, [], hW', trodAll_mk1 (shut_bool Try.underlying4 _), (trodAll_cons_mk (Below.trod laidOut (by kernel_rfl) (of_decide_eq_true (by kernel_rfl)) k0 bel lt0) (trodAll_cons_mk (Below.trod laidOut (by kernel_rfl) (of_decide_eq_true (by kernel_rfl)) k1 bel lt1) (trodAll_cons_mk (Below.trod laidOut (by kernel_rfl) (of_decide_eq_true (by kernel_rfl)) k2 bel lt2) trodAll_mk0))), rfl, bel.frame _, fun h => by cases h⟩
theorem over : Rows.fnExactLockFreeRow.holds Try.pinned (OpenSpec.ofChange Rows.fnExactLockFreeSpec) :=
  OpenClaim.holds_of_wide 5 Try.f5 rfl rfl rfl rfl rfl rfl rfl ⟨rfl, rfl, rfl, rfl, rfl⟩ rfl rfl rfl rfl rfl (by kernel_rfl) Try.func5 (by kernel_rfl)
    (of_decide_eq_true (by kernel_rfl)) (by unfold Func.isWrapper; first | (rw [if_pos (by decide +kernel)]; kernel_rfl) | (rw [if_neg (by decide +kernel)]; exact ⟨rfl, rfl⟩))
    (fun os started H enc _ => lifted os started H enc)
theorem proved : Rows.FnExactLockFreeSaid := over
#print axioms proved
end Go.Proofs.Ytjldpnhlegbjkaa.fnExactLockFree
namespace Go.Proofs.Ytjldpnhlegbjkaa
/-- The row, under a short name, for the claim. -/
theorem fnExactLockFree_holds : Rows.FnExactLockFreeSaid := fnExactLockFree.proved
end Go.Proofs.Ytjldpnhlegbjkaa
