/- What spec.LockOk comes to. -/
import Derived.Test.YtjldpnhlegbjkaaS4
import Derived.Test.YtjldpnhlegbjkaaLockPa
import Derived.Deep.Cut
import Derived.Test.YtjldpnhlegbjkaaPAx0
import Derived.Test.YtjldpnhlegbjkaaPAx12
import Derived.Test.YtjldpnhlegbjkaaPAx13
namespace Go.Proofs.Ytjldpnhlegbjkaa.PA
open Go.RowKit Go.Proofs.YtjldpnhlegbjkaaW.PrintWords Go.Proofs.YtjldpnhlegbjkaaW.PrintLast Go.Proofs.YtjldpnhlegbjkaaW.PrintMore Go.Proofs.Ytjldpnhlegbjkaa.PB
attribute [local go_sem] max2_int min2_int max_two min_two max_three min_three max_four min_four
set_option linter.unusedVariables false
set_option linter.unusedSimpArgs false
theorem kb {W W' : World} {g : Nat} {o : Obj} (h : Aside0 (W.heap[g]? = some o)) (hb : Below W.heap.size W W') : Aside0 (W'.heap[g]? = some o) := ⟨blk_below h.out hb⟩
theorem kw {n lo hi : Nat} {W W' : World} {v : Value} {l : List S45} (h : Aside0 (Rw n W lo hi v l)) (hb : Below W.heap.size W W') : Aside0 (Rw n W' lo hi v l) := ⟨Rw.below h.out hb⟩
theorem kh {w W W' : World} (h : Aside0 (Below w.heap.size w W)) (hb : Below W.heap.size W W') : Aside0 (Below w.heap.size w W') := ⟨below_step h.out hb⟩
theorem kbd {W : World} {g : Nat} {o : Obj} (h : Aside0 (W.heap[g]? = some o)) : Aside0 (W.drew.heap[g]? = some o) := ⟨blk_drew h.out⟩
theorem kwd {n lo hi : Nat} {W : World} {v : Value} {l : List S45} (h : Aside0 (Rw n W lo hi v l)) : Aside0 (Rw n W.drew lo hi v l) := ⟨Kd.R_drew h.out⟩
theorem khd {B : Nat} {w W : World} (h : Aside0 (Below B w W)) : Aside0 (Below B w W.drew) := ⟨below_drew1 h.out⟩
theorem kbs {W W' : World} {a b : Nat} {o : Obj} {cs : Array Value} (h : Aside0 (W.heap[a]? = some o)) (e : W' = W.setRow b cs) (hn : a ≠ b) : Aside0 (W'.heap[a]? = some o) := ⟨by subst e; exact (setRow_other W b a cs hn).trans h.out⟩
theorem kws {n lo hi b : Nat} {W W' : World} {v : Value} {l : List S45} {cs : Array Value} (h : Aside0 (Rw n W lo hi v l)) (e : W' = W.setRow b cs) (hn : b < lo ∨ hi ≤ b) : Aside0 (Rw n W' lo hi v l) := ⟨by subst e; exact Rw.row h.out cs hn⟩
theorem kps {W W' : World} {b : Nat} {t : TypeId} {cs0 cs : Array Value} (h : Aside0 (W.heap[b]? = some (.cells cs0 t (0, 0)))) (e : W' = W.setRow b cs) : Aside0 (W'.heap[b]? = some (.cells cs t (0, 0))) := ⟨by subst e; exact setRow_heap W b _ cs t (0, 0) h.out⟩
theorem khs {B b : Nat} {w W W' : World} {cs : Array Value} (h : Aside0 (Below B w W)) (e : W' = W.setRow b cs) (hn : B ≤ b) : Aside0 (Below B w W') := ⟨by subst e; exact below_setRow' h.out hn cs⟩
theorem kzs {W W' : World} {b : Nat} {cs : Array Value} (e : W' = W.setRow b cs) : W.heap.size ≤ W'.heap.size := by subst e; exact Nat.le_of_eq (size_setRow _ _ _).symm
theorem lockB_range (s : Int) (h w : List S45) : lockB s h w = (decide (0 ≤ s ∧ s ≤ 7) && (decide (h.length + w.length ≤ 16) && ((List.range h.length).all (heldB h) && (List.range w.length).all (waitB h w)))) := by
 unfold lockB
 rw [held_eq, waits_eq]
 cases holdsB h <;> cases holdsB w <;> cases h.all (fun a => !h.any (meetB a)) <;> simp
theorem ok_h {s : Int} {h w : List S45} {n : Nat} (hn : n < h.length) (e : heldB h n = false) : lockB s h w = false := by
 have q : (List.range h.length).all (heldB h) = false := by
  rw [List.all_eq_false]
  exact ⟨n, List.mem_range.2 hn, by rw [e]; exact Bool.noConfusion⟩
 rw [lockB_range, q]
 simp
theorem ok_w {s : Int} {h w : List S45} {n : Nat} (hn : n < w.length) (e : waitB h w n = false) : lockB s h w = false := by
 have q : (List.range w.length).all (waitB h w) = false := by
  rw [List.all_eq_false]
  exact ⟨n, List.mem_range.2 hn, by rw [e]; exact Bool.noConfusion⟩
 rw [lockB_range, q]
 simp
theorem ok_t {s : Int} {h w : List S45} (h1 : 0 ≤ s ∧ s ≤ 7) (h2 : h.length + w.length ≤ 16) (h3 : ∀ j, j < h.length → heldB h j = true) (h4 : ∀ j, j < w.length → waitB h w j = true) : lockB s h w = true := by
 rw [lockB_range, decide_eq_true h1, decide_eq_true h2, List.all_eq_true.2 (fun j hj => h3 j (List.mem_range.1 hj)), List.all_eq_true.2 (fun j hj => h4 j (List.mem_range.1 hj))]
 rfl
set_option maxHeartbeats 8000000 in
set_option maxRecDepth 100000 in
theorem okH (s : Int) (A1 : Option Addr) (c1 : Nat) (l1 : List S45) (A2 : Option Addr) (c2 : Nat) (l2 : List S45) (w : World) (hr1 : Kd.C k45 w A1 l1.length l1) (hc1 : l1.length ≤ c1) (hr2 : Kd.C k45 w A2 l2.length l2) (hc2 : l2.length ≤ c2) (hl1 : l1.length ≤ 1048576) (hl2 : l2.length ≤ 1048576) :
 Calls Try.prog 16 #[.agg #[.int .i64 s, .slice A1 l1.length c1, .slice A2 l2.length c2]] w fun e w' => e = .returned (.bool (lockB s l1 l2)) ∧ Below w.heap.size w w' := by
 have hu29 := Try.underlying29
 have hu45 := Try.underlying45
 have HR1 := Aside0.mk hr1
 have HC1 := Aside0.mk hc1
 have HR2 := Aside0.mk hr2
 have HC2 := Aside0.mk hc2
 have HL := Aside0.mk (And.intro hl1 hl2)
 clear hr1 hc1 hr2 hc2 hl1 hl2
 have HB := Aside0.mk (below_alloc (Below.refl w.heap.size w) (.cells #[.int .i64 s, .slice A1 l1.length c1, .slice A2 l2.length c2] 29 (0, 0)))
 have P1 := Aside0.mk (blk_new w (.cells #[.int .i64 s, .slice A1 l1.length c1, .slice A2 l2.length c2] 29 (0, 0)))
 have Z1 := Aside0.mk (blk_lt P1.out)
 have ZZ := Aside0.mk Z1.out
 have h0 := (blk_cell P1.out 0).trans (show _ = some (.int .i64 s) from rfl)
 have h1 := (blk_cell P1.out 1).trans (show _ = some (.slice A1 l1.length c1) from rfl)
 have h2 := (blk_cell P1.out 2).trans (show _ = some (.slice A2 l2.length c2) from rfl)
 go_enter Try.func16, Try.ntmps16
 go_wp2_with (fail)
 clear h0 h1 h2
 generalize w.alloc (.cells #[.int .i64 s, .slice A1 l1.length c1, .slice A2 l2.length c2] 29 (0, 0)) = W1 at HB P1 ZZ ⊢
 refine (spec_l6In.calls s 0 7 (decide (0 ≤ s ∧ s ≤ 7)) W1 (l6In_eq s 0 7)).mono ?_
 rintro e wz_ ⟨rfl, ⟨nd, rfl⟩⟩
 have hb := pw_below_drewN (Below.refl W1.heap.size W1) nd
 generalize W1.drewN nd = W2 at hb ⊢
 have ZZ := Aside0.mk (And.intro ZZ.out ((hb).size))
 have P1 := kb P1 (hb)
 have HB := kh HB (hb)
 clear hb
 by_cases h1_ : 0 ≤ s ∧ s ≤ 7
 ·have h1d := decide_eq_true h1_
  rw [h1d]
  have H1 := Aside0.mk h1_
  clear h1d h1_
  have hwl : wrap64 ((l1.length : Int) + (l2.length : Int)) = (l1.length : Int) + (l2.length : Int) := by unfold wrap64; have := HL.out; omega
  by_cases h2_ : (16 : Int) < (l1.length : Int) + (l2.length : Int)
  ·have h2d : decide ((16 : Int) < (l1.length : Int) + (l2.length : Int)) = true := decide_eq_true h2_
   have H2 := Aside0.mk h2_
   clear h2_
   have hp1 := (blk_cell P1.out 1).trans (show _ = some (.slice A1 l1.length c1) from rfl)
   have hp2 := (blk_cell P1.out 2).trans (show _ = some (.slice A2 l2.length c2) from rfl)
   go_wp2_with (fail)
   go_ret
   exact ⟨congrArg (fun b : Bool => Ending.returned (.bool b)) (show _ = lockB s l1 l2 from (show lockB s l1 l2 = _ from by rw [lockB_range, decide_eq_false (show ¬ l1.length + l2.length ≤ 16 by have := H2.out; omega)]; simp).symm), HB.out⟩
  ·have h2d : decide ((16 : Int) < (l1.length : Int) + (l2.length : Int)) = false := decide_eq_false h2_
   have H2 := Aside0.mk (show l1.length + l2.length ≤ 16 by omega)
   clear h2_
   have hp1 := (blk_cell P1.out 1).trans (show _ = some (.slice A1 l1.length c1) from rfl)
   have hp2 := (blk_cell P1.out 2).trans (show _ = some (.slice A2 l2.length c2) from rfl)
   go_wp2_with (fail)
   clear hp1 hp2 hwl h2d
   go_loopw [3] (fun i wr => ∃ n : Nat, i = .int .i64 (n : Int) ∧ Aside0 (n ≤ l1.length) ∧ Aside0 (Below W2.heap.size W2 wr) ∧ Aside0 (∀ j, j < n → heldB l1 j = true)) (fun i _ => l1.length - (intOf i).toNat)
   case atStart => exact ⟨0, rfl, ⟨Nat.zero_le _⟩, ⟨Below.refl _ _⟩, ⟨fun j hj => absurd hj (by omega)⟩⟩
   case round =>
    obtain ⟨W3, e_⟩ : ∃ X, X = wr := ⟨_, rfl⟩
    subst e_
    obtain ⟨n, rfl, HXn, HLn, HIn⟩ := hrel
    have ZZ := Aside0.mk (And.intro ZZ.out ((HLn.out).size))
    have P1 := kb P1 (HLn.out)
    have HB := kh HB (HLn.out)
    by_cases hlt : n < l1.length
    ·have HTn := Aside0.mk hlt
     have hdl : decide (n < l1.length) = true := decide_eq_true hlt
     have hwn : wrap64 ((n : Int) + 1) = (n : Int) + 1 := by unfold wrap64; have := H2.out; omega
     obtain ⟨ad', hA', y0, y1, y2, y3⟩ := at_T45 (Kd.C_below HR1.out HB.out) (n : Int) (by have := HTn.out; omega) (by have := HTn.out; omega)
     subst hA'
     obtain ⟨ad1, e_⟩ : ∃ X, X = ad' := ⟨_, rfl⟩
     subst e_
     simp only [Int.toNat_natCast] at y0 y1 y2 y3
     generalize hY_ : rd_T45 l1 (n : Int) = y at y0 y1 y2 y3
     have HYy := Aside0.mk hY_
     clear hY_
     have hp1 := (blk_cell P1.out 1).trans (show _ = some (.slice (some ad1) l1.length c1) from rfl)
     go_wp2_with (fail)
     clear hp1
     by_cases h0_ : 0 < n
     ·have hgd : decide (0 < n) = true := decide_eq_true h0_
      have hw1 : wrap64 ((n : Int) - 1) = (n : Int) - 1 := by unfold wrap64; have := H2.out; have := HTn.out; omega
      have pi_ : (1 ≤ (n : Int)) = True := eq_true (by omega)
      have qi_ : ((n : Int) - 1 < (l1.length : Int)) = True := eq_true (by have := HTn.out; omega)
      have H0 := Aside0.mk h0_
      have ri_ : (0 < l1.length) = True := eq_true (by omega)
      clear h0_
      obtain ⟨ad', hA', u0, u1, u2, u3⟩ := at_T45 (Kd.C_below HR1.out HB.out) ((n - 1 : Nat) : Int) (by have := HTn.out; omega) (by have := HTn.out; omega)
      obtain rfl : ad1 = ad' := Option.some.inj hA'
      clear hA'
      simp only [Int.toNat_natCast] at u0 u1 u2 u3
      generalize hY_ : rd_T45 l1 ((n - 1 : Nat) : Int) = u at u0 u1 u2 u3
      have HYu := Aside0.mk hY_
      clear hY_
      obtain ⟨ad', hA', z0, z1, z2, z3⟩ := at_T45 (Kd.C_below HR1.out HB.out) 0 (by omega) (by have := HTn.out; omega)
      obtain rfl : ad1 = ad' := Option.some.inj hA'
      clear hA'
      generalize hY_ : rd_T45 l1 0 = z at z0 z1 z2 z3
      have HYz := Aside0.mk hY_
      clear hY_
      have z0 : W3.cell? ad1 = some (.int .i64 z.f0) := z0
      have z1 : W3.cell? ⟨ad1.block, ad1.off + 1, none⟩ = some (.int .i64 z.f1) := z1
      have z2 : W3.cell? ⟨ad1.block, ad1.off + 2, none⟩ = some (.bool z.f2) := z2
      have z3 : W3.cell? ⟨ad1.block, ad1.off + 3, none⟩ = some (.bool z.f3) := z3
      have P1 := kbd P1
      have HB := khd HB
      have HLn := khd HLn
      have ZZ := Aside0.mk (And.intro ZZ.out (show W3.heap.size ≤ (W3.drew).heap.size from Nat.le_refl _))
      have HSS := (show (W3.drew).cell? ⟨w.heap.size, 1, none⟩ = some (.slice (some ad1) l1.length c1) ∧ (W3.drew).cell? (ad1.add (n * 4)) = some (.int .i64 y.f0) ∧ (W3.drew).cell? ⟨(ad1.add (n * 4)).block, (ad1.add (n * 4)).off + 1, none⟩ = some (.int .i64 y.f1) ∧ (W3.drew).cell? ⟨(ad1.add (n * 4)).block, (ad1.add (n * 4)).off + 2, none⟩ = some (.bool y.f2) ∧ (W3.drew).cell? ⟨(ad1.add (n * 4)).block, (ad1.add (n * 4)).off + 3, none⟩ = some (.bool y.f3) ∧ (W3.drew).cell? (ad1.add ((n - 1) * 4)) = some (.int .i64 u.f0) ∧ (W3.drew).cell? ad1 = some (.int .i64 z.f0) ∧ (W3.drew).cell? ⟨ad1.block, ad1.off + 1, none⟩ = some (.int .i64 z.f1) ∧ (W3.drew).cell? ⟨ad1.block, ad1.off + 2, none⟩ = some (.bool z.f2) ∧ (W3.drew).cell? ⟨ad1.block, ad1.off + 3, none⟩ = some (.bool z.f3) from ⟨(blk_cell P1.out 1).trans rfl, y0, y1, y2, y3, u0, z0, z1, z2, z3⟩)
      refine start_ (n := 39) (S := fun w' => w'.cell? ⟨w.heap.size, 1, none⟩ = some (.slice (some ad1) l1.length c1) ∧ w'.cell? (ad1.add (n * 4)) = some (.int .i64 y.f0) ∧ w'.cell? ⟨(ad1.add (n * 4)).block, (ad1.add (n * 4)).off + 1, none⟩ = some (.int .i64 y.f1) ∧ w'.cell? ⟨(ad1.add (n * 4)).block, (ad1.add (n * 4)).off + 2, none⟩ = some (.bool y.f2) ∧ w'.cell? ⟨(ad1.add (n * 4)).block, (ad1.add (n * 4)).off + 3, none⟩ = some (.bool y.f3) ∧ w'.cell? (ad1.add ((n - 1) * 4)) = some (.int .i64 u.f0) ∧ w'.cell? ad1 = some (.int .i64 z.f0) ∧ w'.cell? ⟨ad1.block, ad1.off + 1, none⟩ = some (.int .i64 z.f1) ∧ w'.cell? ⟨ad1.block, ad1.off + 2, none⟩ = some (.bool z.f2) ∧ w'.cell? ⟨ad1.block, ad1.off + 3, none⟩ = some (.bool z.f3)) (ds := []) (bt_ 39 0) (by kernel_rfl) rfl rfl HSS (fun hHeld => ?_)
      clear HSS y0 y1 y2 y3 u0 u1 u2 u3 z0 z1 z2 z3
      generalize W3.drew = W4 at P1 HB HLn ZZ hHeld ⊢
      refine pu_ 0 (some 27) (bt_ 39 1) (by kernel_rfl) ?_
      refine tk_ 1 (some 28) (bt_ 39 3) (by kernel_rfl) hHeld ?_
      refine pu_ 2 (some 29) (bt_ 39 7) (by kernel_rfl) ?_
      refine pu_ 3 (some 30) (bt_ 39 15) (by kernel_rfl) ?_
      refine tk_ 4 (some 31) (bt_ 39 31) (by kernel_rfl) hHeld ?_
      clear hHeld
      refine one_ (i := 5) (N := some 32) (bt_ 39 63) rfl rfl (by kernel_rfl) (by decide) (fun K hK => ?_)
      refine goes_ Try.func39 (by kernel_rfl) rfl #[.agg #[.int .i64 y.f0, .int .i64 y.f1, .bool y.f2, .bool y.f3]] (by rfl) rfl rfl (by simp only [List.map_toArray, List.map_cons, List.map_nil]; rfl) ?_
      refine (spec_l11HoldOk.calls y.f0 y.f1 y.f2 y.f3 (holdB y) W4 (shold_eq y)).mono ?_
      rintro e W5 ⟨rfl, hb⟩
      refine ⟨_, rfl, ?_⟩
      have ZZ := Aside0.mk (And.intro ZZ.out ((hb).size))
      have P1 := kb P1 (hb)
      have HB := kh HB (hb)
      have HLn := kh HLn (hb)
      clear hb
      obtain ⟨ad', hA', y0, y1, y2, y3⟩ := at_T45 (Kd.C_below HR1.out HB.out) (n : Int) (by have := HTn.out; omega) (by have := HTn.out; omega)
      obtain rfl : ad1 = ad' := Option.some.inj hA'
      clear hA'
      simp only [Int.toNat_natCast] at y0 y1 y2 y3
      rw [HYy.out] at y0 y1 y2 y3
      obtain ⟨ad', hA', u0, u1, u2, u3⟩ := at_T45 (Kd.C_below HR1.out HB.out) ((n - 1 : Nat) : Int) (by have := HTn.out; omega) (by have := HTn.out; omega)
      obtain rfl : ad1 = ad' := Option.some.inj hA'
      clear hA'
      simp only [Int.toNat_natCast] at u0 u1 u2 u3
      rw [HYu.out] at u0 u1 u2 u3
      obtain ⟨ad', hA', z0, z1, z2, z3⟩ := at_T45 (Kd.C_below HR1.out HB.out) 0 (by omega) (by have := HTn.out; omega)
      obtain rfl : ad1 = ad' := Option.some.inj hA'
      clear hA'
      rw [HYz.out] at z0 z1 z2 z3
      have z0 : W5.cell? ad1 = some (.int .i64 z.f0) := z0
      have z1 : W5.cell? ⟨ad1.block, ad1.off + 1, none⟩ = some (.int .i64 z.f1) := z1
      have z2 : W5.cell? ⟨ad1.block, ad1.off + 2, none⟩ = some (.bool z.f2) := z2
      have z3 : W5.cell? ⟨ad1.block, ad1.off + 3, none⟩ = some (.bool z.f3) := z3
      refine hK.out _ _ ⟨(blk_cell P1.out 1).trans rfl, y0, y1, y2, y3, u0, z0, z1, z2, z3⟩ (fun hHeld => ?_)
      clear hK K y0 y1 y2 y3 u0 u1 u2 u3 z0 z1 z2 z3
      refine norm_ (a' := ?_) ?_ ?_
      rotate_left
      ·show Act.put _ (some 32) _ = _
       simp only [Act.put, List.setIfInBounds_toArray, List.set_cons_zero, List.set_cons_succ, i64_w, i32_w]
       rfl
      cases hb_ : holdB y with
      | false =>
       clear hHeld
       refine pu_ 6 (some 33) (bt_ 39 127) (by kernel_rfl) ?_
       refine pu_ 7 (some 34) (bt_ 39 255) (by kernel_rfl) ?_
       refine pn_ 8 (some 35) (bt_ 39 511) (by kernel_rfl) ?_
       refine pn_ 9 (some 36) (bt_ 39 1023) (by kernel_rfl) ?_
       refine pn_ 10 (some 37) (bt_ 39 2047) (by kernel_rfl) ?_
       refine pn_ 11 (some 38) (bt_ 39 4095) (by kernel_rfl) ?_
       refine pn_ 12 (some 39) (bt_ 39 8191) (by kernel_rfl) ?_
       refine pn_ 13 (some 40) (bt_ 39 16383) (by kernel_rfl) ?_
       refine pn_ 14 (some 41) (bt_ 39 32767) (by kernel_rfl) ?_
       refine pn_ 15 (some 42) (bt_ 39 65535) (by kernel_rfl) ?_
       refine pn_ 16 (some 43) (bt_ 39 131071) (by kernel_rfl) ?_
       refine pn_ 17 (some 44) (bt_ 39 262143) (by kernel_rfl) ?_
       refine pn_ 18 (some 45) (bt_ 39 524287) (by kernel_rfl) ?_
       refine pn_ 19 (some 46) (bt_ 39 1048575) (by kernel_rfl) ?_
       refine pn_ 20 (some 47) (bt_ 39 2097151) (by kernel_rfl) ?_
       refine pn_ 21 (some 48) (bt_ 39 4194303) (by kernel_rfl) ?_
       refine pn_ 22 (some 49) (bt_ 39 8388607) (by kernel_rfl) ?_
       refine pn_ 23 (some 50) (bt_ 39 16777215) (by kernel_rfl) ?_
       refine pn_ 24 (some 51) (bt_ 39 33554431) (by kernel_rfl) ?_
       refine pn_ 25 (some 52) (bt_ 39 67108863) (by kernel_rfl) ?_
       refine pn_ 26 (some 53) (bt_ 39 134217727) (by kernel_rfl) ?_
       refine pn_ 27 (some 54) (bt_ 39 268435455) (by kernel_rfl) ?_
       refine pn_ 28 (some 55) (bt_ 39 536870911) (by kernel_rfl) ?_
       refine pn_ 29 (some 56) (bt_ 39 1073741823) (by kernel_rfl) ?_
       refine pn_ 30 (some 57) (bt_ 39 2147483647) (by kernel_rfl) ?_
       refine pn_ 31 (some 58) (bt_ 39 4294967295) (by kernel_rfl) ?_
       refine pn_ 32 (some 59) (bt_ 39 8589934591) (by kernel_rfl) ?_
       refine pn_ 33 (some 60) (bt_ 39 17179869183) (by kernel_rfl) ?_
       refine pn_ 34 (some 61) (bt_ 39 34359738367) (by kernel_rfl) ?_
       refine pn_ 35 (some 62) (bt_ 39 68719476735) (by kernel_rfl) ?_
       refine pn_ 36 (some 63) (bt_ 39 137438953471) (by kernel_rfl) ?_
       refine pn_ 37 (some 64) (bt_ 39 274877906943) (by kernel_rfl) ?_
       refine pu_ 38 (some 65) (bt_ 39 549755813887) (by kernel_rfl) ?_
       refine done_ (by kernel_rfl) ?_
       go_wp2_with (fail)
       go_ret
       exact ⟨congrArg (fun b : Bool => Ending.returned (.bool b)) (show _ = lockB s l1 l2 from (show lockB s l1 l2 = _ from ok_h HTn.out (by unfold heldB; rw [HYy.out, hb_]; rfl)).symm), HB.out⟩
      | true =>
       refine pu_ 6 (some 33) (bt_ 39 127) (by kernel_rfl) ?_
       refine pu_ 7 (some 34) (bt_ 39 255) (by kernel_rfl) ?_
       refine pu_ 8 (some 35) (bt_ 39 511) (by kernel_rfl) ?_
       refine pu_ 9 (some 36) (bt_ 39 1023) (by kernel_rfl) ?_
       refine pu_ 10 (some 37) (bt_ 39 2047) (by kernel_rfl) ?_
       refine pu_ 11 (some 38) (bt_ 39 4095) (by kernel_rfl) ?_
       refine tk_ 12 (some 39) (bt_ 39 8191) (by kernel_rfl) hHeld ?_
       refine pu_ 13 (some 40) (bt_ 39 16383) (by kernel_rfl) ?_
       refine pu_ 14 (some 41) (bt_ 39 32767) (by kernel_rfl) ?_
       refine pu_ 15 (some 42) (bt_ 39 65535) (by kernel_rfl) ?_
       refine pu_ 16 (some 43) (bt_ 39 131071) (by kernel_rfl) ?_
       refine tk_ 17 (some 44) (bt_ 39 262143) (by kernel_rfl) hHeld ?_
       refine pu_ 18 (some 45) (bt_ 39 524287) (by kernel_rfl) ?_
       refine tk_ 19 (some 46) (bt_ 39 1048575) (by kernel_rfl) hHeld ?_
       refine pu_ 20 (some 47) (bt_ 39 2097151) (by kernel_rfl) ?_
       refine pu_ 21 (some 48) (bt_ 39 4194303) (by kernel_rfl) ?_
       refine pu_ 22 (some 49) (bt_ 39 8388607) (by kernel_rfl) ?_
       refine tk_ 23 (some 50) (bt_ 39 16777215) (by kernel_rfl) hHeld ?_
       by_cases hle : y.f0 ≤ u.f0
       ·have hld : decide (y.f0 ≤ u.f0) = true := decide_eq_true hle
        have HLE := Aside0.mk hle
        clear hle hHeld
        refine pu_ 24 (some 51) (bt_ 39 33554431) (by kernel_rfl) ?_
        refine pu_ 25 (some 52) (bt_ 39 67108863) (by kernel_rfl) ?_
        refine pn_ 26 (some 53) (bt_ 39 134217727) (by kernel_rfl) ?_
        refine pn_ 27 (some 54) (bt_ 39 268435455) (by kernel_rfl) ?_
        refine pn_ 28 (some 55) (bt_ 39 536870911) (by kernel_rfl) ?_
        refine pn_ 29 (some 56) (bt_ 39 1073741823) (by kernel_rfl) ?_
        refine pn_ 30 (some 57) (bt_ 39 2147483647) (by kernel_rfl) ?_
        refine pn_ 31 (some 58) (bt_ 39 4294967295) (by kernel_rfl) ?_
        refine pn_ 32 (some 59) (bt_ 39 8589934591) (by kernel_rfl) ?_
        refine pn_ 33 (some 60) (bt_ 39 17179869183) (by kernel_rfl) ?_
        refine pn_ 34 (some 61) (bt_ 39 34359738367) (by kernel_rfl) ?_
        refine pn_ 35 (some 62) (bt_ 39 68719476735) (by kernel_rfl) ?_
        refine pu_ 36 (some 63) (bt_ 39 137438953471) (by kernel_rfl) ?_
        refine pu_ 37 (some 64) (bt_ 39 274877906943) (by kernel_rfl) ?_
        refine pu_ 38 (some 65) (bt_ 39 549755813887) (by kernel_rfl) ?_
        refine done_ (by kernel_rfl) ?_
        go_wp2_with (fail)
        go_ret
        exact ⟨congrArg (fun b : Bool => Ending.returned (.bool b)) (show _ = lockB s l1 l2 from (show lockB s l1 l2 = _ from ok_h HTn.out (by unfold heldB; rw [HYy.out, HYu.out, hb_, decide_eq_false (show ¬ n = 0 by have := H0.out; omega), decide_eq_false (show ¬ u.f0 < y.f0 by have := HLE.out; omega)]; rfl)).symm), HB.out⟩
       ·have hld : decide (y.f0 ≤ u.f0) = false := decide_eq_false hle
        have HLE := Aside0.mk hle
        clear hle
        refine pu_ 24 (some 51) (bt_ 39 33554431) (by kernel_rfl) ?_
        refine pu_ 25 (some 52) (bt_ 39 67108863) (by kernel_rfl) ?_
        refine pu_ 26 (some 53) (bt_ 39 134217727) (by kernel_rfl) ?_
        refine tk_ 27 (some 54) (bt_ 39 268435455) (by kernel_rfl) hHeld ?_
        refine pu_ 28 (some 55) (bt_ 39 536870911) (by kernel_rfl) ?_
        refine tk_ 29 (some 56) (bt_ 39 1073741823) (by kernel_rfl) hHeld ?_
        refine pu_ 30 (some 57) (bt_ 39 2147483647) (by kernel_rfl) ?_
        refine tk_ 31 (some 58) (bt_ 39 4294967295) (by kernel_rfl) hHeld ?_
        refine pu_ 32 (some 59) (bt_ 39 8589934591) (by kernel_rfl) ?_
        refine pu_ 33 (some 60) (bt_ 39 17179869183) (by kernel_rfl) ?_
        refine tk_ 34 (some 61) (bt_ 39 34359738367) (by kernel_rfl) hHeld ?_
        clear hHeld
        refine one_ (i := 35) (N := some 62) (bt_ 39 68719476735) rfl rfl (by kernel_rfl) (by decide) (fun K hK => ?_)
        refine goes_ Try.func40 (by kernel_rfl) rfl #[.agg #[.int .i64 z.f0, .int .i64 z.f1, .bool z.f2, .bool z.f3], .agg #[.int .i64 y.f0, .int .i64 y.f1, .bool y.f2, .bool y.f3]] (by rfl) rfl rfl (by simp only [List.map_toArray, List.map_cons, List.map_nil]; rfl) ?_
        refine (spec_l11Meet.calls z.f0 z.f1 z.f2 z.f3 y.f0 y.f1 y.f2 y.f3 (meetB z y) W5 (smeet_eq z y)).mono ?_
        rintro e W6 ⟨rfl, hb⟩
        refine ⟨_, rfl, ?_⟩
        have ZZ := Aside0.mk (And.intro ZZ.out ((hb).size))
        have P1 := kb P1 (hb)
        have HB := kh HB (hb)
        have HLn := kh HLn (hb)
        clear hb
        obtain ⟨ad', hA', y0, y1, y2, y3⟩ := at_T45 (Kd.C_below HR1.out HB.out) (n : Int) (by have := HTn.out; omega) (by have := HTn.out; omega)
        obtain rfl : ad1 = ad' := Option.some.inj hA'
        clear hA'
        simp only [Int.toNat_natCast] at y0 y1 y2 y3
        rw [HYy.out] at y0 y1 y2 y3
        obtain ⟨ad', hA', u0, u1, u2, u3⟩ := at_T45 (Kd.C_below HR1.out HB.out) ((n - 1 : Nat) : Int) (by have := HTn.out; omega) (by have := HTn.out; omega)
        obtain rfl : ad1 = ad' := Option.some.inj hA'
        clear hA'
        simp only [Int.toNat_natCast] at u0 u1 u2 u3
        rw [HYu.out] at u0 u1 u2 u3
        obtain ⟨ad', hA', z0, z1, z2, z3⟩ := at_T45 (Kd.C_below HR1.out HB.out) 0 (by omega) (by have := HTn.out; omega)
        obtain rfl : ad1 = ad' := Option.some.inj hA'
        clear hA'
        rw [HYz.out] at z0 z1 z2 z3
        have z0 : W6.cell? ad1 = some (.int .i64 z.f0) := z0
        have z1 : W6.cell? ⟨ad1.block, ad1.off + 1, none⟩ = some (.int .i64 z.f1) := z1
        have z2 : W6.cell? ⟨ad1.block, ad1.off + 2, none⟩ = some (.bool z.f2) := z2
        have z3 : W6.cell? ⟨ad1.block, ad1.off + 3, none⟩ = some (.bool z.f3) := z3
        refine hK.out _ _ ⟨(blk_cell P1.out 1).trans rfl, y0, y1, y2, y3, u0, z0, z1, z2, z3⟩ (fun hHeld => ?_)
        clear hK K y0 y1 y2 y3 u0 u1 u2 u3 z0 z1 z2 z3
        refine norm_ (a' := ?_) ?_ ?_
        rotate_left
        ·show Act.put _ (some 62) _ = _
         simp only [Act.put, List.setIfInBounds_toArray, List.set_cons_zero, List.set_cons_succ, i64_w, i32_w]
         rfl
        clear hHeld
        refine pu_ 36 (some 63) (bt_ 39 137438953471) (by kernel_rfl) ?_
        refine pu_ 37 (some 64) (bt_ 39 274877906943) (by kernel_rfl) ?_
        refine pu_ 38 (some 65) (bt_ 39 549755813887) (by kernel_rfl) ?_
        refine done_ (by kernel_rfl) ?_
        cases hm_ : meetB z y with
        | true =>
         go_wp2_with (fail)
         go_ret
         exact ⟨congrArg (fun b : Bool => Ending.returned (.bool b)) (show _ = lockB s l1 l2 from (show lockB s l1 l2 = _ from ok_h HTn.out (by unfold heldB; rw [HYy.out, HYu.out, HYz.out, hb_, decide_eq_false (show ¬ n = 0 by have := H0.out; omega), decide_eq_true (show u.f0 < y.f0 by have := HLE.out; omega), hm_]; rfl)).symm), HB.out⟩
        | false =>
         go_wp2_with (fail)
         try (go_wp2_with (fail))
         go_roundw
         case rel => exact ⟨n + 1, (by first | rfl | exact congrArg (Value.int .i64) (by omega)), ⟨HTn.out⟩, HLn, ⟨fun j hj => by
          rcases Nat.lt_or_ge j n with q | q
          ·exact HIn.out j q
          ·obtain rfl : n = j := by omega
           exact (by unfold heldB; rw [HYy.out, HYu.out, HYz.out, hb_, decide_eq_false (show ¬ n = 0 by have := H0.out; omega), decide_eq_true (show u.f0 < y.f0 by have := HLE.out; omega), hm_]; rfl)⟩⟩
         case measure =>
          (try rw [hwn])
          show l1.length - ((n : Int) + 1).toNat < l1.length - (n : Int).toNat
          have := HTn.out
          omega
     ·have hgd : decide (0 < n) = false := decide_eq_false h0_
      have H0 := Aside0.mk h0_
      clear h0_
      have P1 := kbd P1
      have HB := khd HB
      have HLn := khd HLn
      have ZZ := Aside0.mk (And.intro ZZ.out (show W3.heap.size ≤ (W3.drew).heap.size from Nat.le_refl _))
      have HSS := (show (W3.drew).cell? ⟨w.heap.size, 1, none⟩ = some (.slice (some ad1) l1.length c1) ∧ (W3.drew).cell? (ad1.add (n * 4)) = some (.int .i64 y.f0) ∧ (W3.drew).cell? ⟨(ad1.add (n * 4)).block, (ad1.add (n * 4)).off + 1, none⟩ = some (.int .i64 y.f1) ∧ (W3.drew).cell? ⟨(ad1.add (n * 4)).block, (ad1.add (n * 4)).off + 2, none⟩ = some (.bool y.f2) ∧ (W3.drew).cell? ⟨(ad1.add (n * 4)).block, (ad1.add (n * 4)).off + 3, none⟩ = some (.bool y.f3) from ⟨(blk_cell P1.out 1).trans rfl, y0, y1, y2, y3⟩)
      refine start_ (n := 39) (S := fun w' => w'.cell? ⟨w.heap.size, 1, none⟩ = some (.slice (some ad1) l1.length c1) ∧ w'.cell? (ad1.add (n * 4)) = some (.int .i64 y.f0) ∧ w'.cell? ⟨(ad1.add (n * 4)).block, (ad1.add (n * 4)).off + 1, none⟩ = some (.int .i64 y.f1) ∧ w'.cell? ⟨(ad1.add (n * 4)).block, (ad1.add (n * 4)).off + 2, none⟩ = some (.bool y.f2) ∧ w'.cell? ⟨(ad1.add (n * 4)).block, (ad1.add (n * 4)).off + 3, none⟩ = some (.bool y.f3)) (ds := []) (bt_ 39 0) (by kernel_rfl) rfl rfl HSS (fun hHeld => ?_)
      clear HSS y0 y1 y2 y3
      generalize W3.drew = W7 at P1 HB HLn ZZ hHeld ⊢
      refine pu_ 0 (some 27) (bt_ 39 1) (by kernel_rfl) ?_
      refine tk_ 1 (some 28) (bt_ 39 3) (by kernel_rfl) hHeld ?_
      refine pu_ 2 (some 29) (bt_ 39 7) (by kernel_rfl) ?_
      refine pu_ 3 (some 30) (bt_ 39 15) (by kernel_rfl) ?_
      refine tk_ 4 (some 31) (bt_ 39 31) (by kernel_rfl) hHeld ?_
      clear hHeld
      refine one_ (i := 5) (N := some 32) (bt_ 39 63) rfl rfl (by kernel_rfl) (by decide) (fun K hK => ?_)
      refine goes_ Try.func39 (by kernel_rfl) rfl #[.agg #[.int .i64 y.f0, .int .i64 y.f1, .bool y.f2, .bool y.f3]] (by rfl) rfl rfl (by simp only [List.map_toArray, List.map_cons, List.map_nil]; rfl) ?_
      refine (spec_l11HoldOk.calls y.f0 y.f1 y.f2 y.f3 (holdB y) W7 (shold_eq y)).mono ?_
      rintro e W8 ⟨rfl, hb⟩
      refine ⟨_, rfl, ?_⟩
      have ZZ := Aside0.mk (And.intro ZZ.out ((hb).size))
      have P1 := kb P1 (hb)
      have HB := kh HB (hb)
      have HLn := kh HLn (hb)
      clear hb
      obtain ⟨ad', hA', y0, y1, y2, y3⟩ := at_T45 (Kd.C_below HR1.out HB.out) (n : Int) (by have := HTn.out; omega) (by have := HTn.out; omega)
      obtain rfl : ad1 = ad' := Option.some.inj hA'
      clear hA'
      simp only [Int.toNat_natCast] at y0 y1 y2 y3
      rw [HYy.out] at y0 y1 y2 y3
      refine hK.out _ _ ⟨(blk_cell P1.out 1).trans rfl, y0, y1, y2, y3⟩ (fun hHeld => ?_)
      clear hK K hHeld y0 y1 y2 y3
      refine norm_ (a' := ?_) ?_ ?_
      rotate_left
      ·show Act.put _ (some 32) _ = _
       simp only [Act.put, List.setIfInBounds_toArray, List.set_cons_zero, List.set_cons_succ, i64_w, i32_w]
       rfl
      cases hb_ : holdB y with
      | false =>
       refine pu_ 6 (some 33) (bt_ 39 127) (by kernel_rfl) ?_
       refine pu_ 7 (some 34) (bt_ 39 255) (by kernel_rfl) ?_
       refine pn_ 8 (some 35) (bt_ 39 511) (by kernel_rfl) ?_
       refine pn_ 9 (some 36) (bt_ 39 1023) (by kernel_rfl) ?_
       refine pn_ 10 (some 37) (bt_ 39 2047) (by kernel_rfl) ?_
       refine pn_ 11 (some 38) (bt_ 39 4095) (by kernel_rfl) ?_
       refine pn_ 12 (some 39) (bt_ 39 8191) (by kernel_rfl) ?_
       refine pn_ 13 (some 40) (bt_ 39 16383) (by kernel_rfl) ?_
       refine pn_ 14 (some 41) (bt_ 39 32767) (by kernel_rfl) ?_
       refine pn_ 15 (some 42) (bt_ 39 65535) (by kernel_rfl) ?_
       refine pn_ 16 (some 43) (bt_ 39 131071) (by kernel_rfl) ?_
       refine pn_ 17 (some 44) (bt_ 39 262143) (by kernel_rfl) ?_
       refine pn_ 18 (some 45) (bt_ 39 524287) (by kernel_rfl) ?_
       refine pn_ 19 (some 46) (bt_ 39 1048575) (by kernel_rfl) ?_
       refine pn_ 20 (some 47) (bt_ 39 2097151) (by kernel_rfl) ?_
       refine pn_ 21 (some 48) (bt_ 39 4194303) (by kernel_rfl) ?_
       refine pn_ 22 (some 49) (bt_ 39 8388607) (by kernel_rfl) ?_
       refine pn_ 23 (some 50) (bt_ 39 16777215) (by kernel_rfl) ?_
       refine pn_ 24 (some 51) (bt_ 39 33554431) (by kernel_rfl) ?_
       refine pn_ 25 (some 52) (bt_ 39 67108863) (by kernel_rfl) ?_
       refine pn_ 26 (some 53) (bt_ 39 134217727) (by kernel_rfl) ?_
       refine pn_ 27 (some 54) (bt_ 39 268435455) (by kernel_rfl) ?_
       refine pn_ 28 (some 55) (bt_ 39 536870911) (by kernel_rfl) ?_
       refine pn_ 29 (some 56) (bt_ 39 1073741823) (by kernel_rfl) ?_
       refine pn_ 30 (some 57) (bt_ 39 2147483647) (by kernel_rfl) ?_
       refine pn_ 31 (some 58) (bt_ 39 4294967295) (by kernel_rfl) ?_
       refine pn_ 32 (some 59) (bt_ 39 8589934591) (by kernel_rfl) ?_
       refine pn_ 33 (some 60) (bt_ 39 17179869183) (by kernel_rfl) ?_
       refine pn_ 34 (some 61) (bt_ 39 34359738367) (by kernel_rfl) ?_
       refine pn_ 35 (some 62) (bt_ 39 68719476735) (by kernel_rfl) ?_
       refine pn_ 36 (some 63) (bt_ 39 137438953471) (by kernel_rfl) ?_
       refine pn_ 37 (some 64) (bt_ 39 274877906943) (by kernel_rfl) ?_
       refine pu_ 38 (some 65) (bt_ 39 549755813887) (by kernel_rfl) ?_
       refine done_ (by kernel_rfl) ?_
       go_wp2_with (fail)
       go_ret
       exact ⟨congrArg (fun b : Bool => Ending.returned (.bool b)) (show _ = lockB s l1 l2 from (show lockB s l1 l2 = _ from ok_h HTn.out (by unfold heldB; rw [HYy.out, hb_]; rfl)).symm), HB.out⟩
      | true =>
       refine pu_ 6 (some 33) (bt_ 39 127) (by kernel_rfl) ?_
       refine pu_ 7 (some 34) (bt_ 39 255) (by kernel_rfl) ?_
       refine pu_ 8 (some 35) (bt_ 39 511) (by kernel_rfl) ?_
       refine pu_ 9 (some 36) (bt_ 39 1023) (by kernel_rfl) ?_
       refine pu_ 10 (some 37) (bt_ 39 2047) (by kernel_rfl) ?_
       refine pn_ 11 (some 38) (bt_ 39 4095) (by kernel_rfl) ?_
       refine pn_ 12 (some 39) (bt_ 39 8191) (by kernel_rfl) ?_
       refine pn_ 13 (some 40) (bt_ 39 16383) (by kernel_rfl) ?_
       refine pn_ 14 (some 41) (bt_ 39 32767) (by kernel_rfl) ?_
       refine pn_ 15 (some 42) (bt_ 39 65535) (by kernel_rfl) ?_
       refine pn_ 16 (some 43) (bt_ 39 131071) (by kernel_rfl) ?_
       refine pn_ 17 (some 44) (bt_ 39 262143) (by kernel_rfl) ?_
       refine pn_ 18 (some 45) (bt_ 39 524287) (by kernel_rfl) ?_
       refine pn_ 19 (some 46) (bt_ 39 1048575) (by kernel_rfl) ?_
       refine pn_ 20 (some 47) (bt_ 39 2097151) (by kernel_rfl) ?_
       refine pn_ 21 (some 48) (bt_ 39 4194303) (by kernel_rfl) ?_
       refine pn_ 22 (some 49) (bt_ 39 8388607) (by kernel_rfl) ?_
       refine pn_ 23 (some 50) (bt_ 39 16777215) (by kernel_rfl) ?_
       refine pn_ 24 (some 51) (bt_ 39 33554431) (by kernel_rfl) ?_
       refine pn_ 25 (some 52) (bt_ 39 67108863) (by kernel_rfl) ?_
       refine pn_ 26 (some 53) (bt_ 39 134217727) (by kernel_rfl) ?_
       refine pn_ 27 (some 54) (bt_ 39 268435455) (by kernel_rfl) ?_
       refine pn_ 28 (some 55) (bt_ 39 536870911) (by kernel_rfl) ?_
       refine pn_ 29 (some 56) (bt_ 39 1073741823) (by kernel_rfl) ?_
       refine pn_ 30 (some 57) (bt_ 39 2147483647) (by kernel_rfl) ?_
       refine pn_ 31 (some 58) (bt_ 39 4294967295) (by kernel_rfl) ?_
       refine pn_ 32 (some 59) (bt_ 39 8589934591) (by kernel_rfl) ?_
       refine pn_ 33 (some 60) (bt_ 39 17179869183) (by kernel_rfl) ?_
       refine pn_ 34 (some 61) (bt_ 39 34359738367) (by kernel_rfl) ?_
       refine pn_ 35 (some 62) (bt_ 39 68719476735) (by kernel_rfl) ?_
       refine pn_ 36 (some 63) (bt_ 39 137438953471) (by kernel_rfl) ?_
       refine pu_ 37 (some 64) (bt_ 39 274877906943) (by kernel_rfl) ?_
       refine pu_ 38 (some 65) (bt_ 39 549755813887) (by kernel_rfl) ?_
       refine done_ (by kernel_rfl) ?_
       go_wp2_with (fail)
       try (go_wp2_with (fail))
       go_roundw
       case rel => exact ⟨n + 1, (by first | rfl | exact congrArg (Value.int .i64) (by omega)), ⟨HTn.out⟩, HLn, ⟨fun j hj => by
        obtain rfl : n = j := by have := H0.out; omega
        unfold heldB
        rw [HYy.out, hb_, decide_eq_true (show n = 0 by have := H0.out; omega)]
        rfl⟩⟩
       case measure =>
        (try rw [hwn])
        show l1.length - ((n : Int) + 1).toNat < l1.length - (n : Int).toNat
        have := HTn.out
        omega
    ·have hdl : decide (n < l1.length) = false := decide_eq_false hlt
     obtain rfl : l1.length = n := by have := HXn.out; omega
     clear hlt
     have H3 := HIn
     have hp1 := (blk_cell P1.out 1).trans (show _ = some (.slice A1 l1.length c1) from rfl)
     go_wp2_with (fail)
     clear hp1 hdl
     go_loopw [4] (fun i wr => ∃ m : Nat, i = .int .i64 (m : Int) ∧ Aside0 (m ≤ l2.length) ∧ Aside0 (Below W3.heap.size W3 wr) ∧ Aside0 (∀ j, j < m → waitB l1 l2 j = true)) (fun i _ => l2.length - (intOf i).toNat)
     case atStart => exact ⟨0, rfl, ⟨Nat.zero_le _⟩, ⟨Below.refl _ _⟩, ⟨fun j hj => absurd hj (by omega)⟩⟩
     case round =>
      obtain ⟨W9, e_⟩ : ∃ X, X = wr := ⟨_, rfl⟩
      subst e_
      obtain ⟨m, rfl, HXm, HLm, HIm⟩ := hrel
      have ZZ := Aside0.mk (And.intro ZZ.out ((HLm.out).size))
      have P1 := kb P1 (HLm.out)
      have HB := kh HB (HLm.out)
      by_cases hlt : m < l2.length
      ·have HTm := Aside0.mk hlt
       have hdl : decide (m < l2.length) = true := decide_eq_true hlt
       have hwm : wrap64 ((m : Int) + 1) = (m : Int) + 1 := by unfold wrap64; have := H2.out; omega
       obtain ⟨ad', hA', y0, y1, y2, y3⟩ := at_T45 (Kd.C_below HR2.out HB.out) (m : Int) (by have := HTm.out; omega) (by have := HTm.out; omega)
       subst hA'
       obtain ⟨ad2, e_⟩ : ∃ X, X = ad' := ⟨_, rfl⟩
       subst e_
       simp only [Int.toNat_natCast] at y0 y1 y2 y3
       generalize hY_ : rd_T45 l2 (m : Int) = y at y0 y1 y2 y3
       have HYy := Aside0.mk hY_
       clear hY_
       have hp2 := (blk_cell P1.out 2).trans (show _ = some (.slice (some ad2) l2.length c2) from rfl)
       go_wp2_with (fail)
       clear hp2
       cases hf_ : y.f3 with
       | true =>
        rw [hf_] at y3
        have HF3 := Aside0.mk hf_
        clear hf_
        have P1 := kbd P1
        have HB := khd HB
        have HLm := khd HLm
        have ZZ := Aside0.mk (And.intro ZZ.out (show W9.heap.size ≤ (W9.drew).heap.size from Nat.le_refl _))
        have HSS := (show (W9.drew).cell? ⟨w.heap.size, 2, none⟩ = some (.slice (some ad2) l2.length c2) ∧ (W9.drew).cell? (ad2.add (m * 4)) = some (.int .i64 y.f0) ∧ (W9.drew).cell? ⟨(ad2.add (m * 4)).block, (ad2.add (m * 4)).off + 1, none⟩ = some (.int .i64 y.f1) ∧ (W9.drew).cell? ⟨(ad2.add (m * 4)).block, (ad2.add (m * 4)).off + 2, none⟩ = some (.bool y.f2) ∧ (W9.drew).cell? ⟨(ad2.add (m * 4)).block, (ad2.add (m * 4)).off + 3, none⟩ = some (.bool true) from ⟨(blk_cell P1.out 2).trans rfl, y0, y1, y2, y3⟩)
        refine start_ (n := 35) (S := fun w' => w'.cell? ⟨w.heap.size, 2, none⟩ = some (.slice (some ad2) l2.length c2) ∧ w'.cell? (ad2.add (m * 4)) = some (.int .i64 y.f0) ∧ w'.cell? ⟨(ad2.add (m * 4)).block, (ad2.add (m * 4)).off + 1, none⟩ = some (.int .i64 y.f1) ∧ w'.cell? ⟨(ad2.add (m * 4)).block, (ad2.add (m * 4)).off + 2, none⟩ = some (.bool y.f2) ∧ w'.cell? ⟨(ad2.add (m * 4)).block, (ad2.add (m * 4)).off + 3, none⟩ = some (.bool true)) (ds := []) (bt_ 35 0) (by kernel_rfl) rfl rfl HSS (fun hHeld => ?_)
        clear HSS y0 y1 y2 y3
        generalize W9.drew = W10 at P1 HB HLm ZZ hHeld ⊢
        refine pu_ 0 (some 73) (bt_ 35 1) (by kernel_rfl) ?_
        refine tk_ 1 (some 74) (bt_ 35 3) (by kernel_rfl) hHeld ?_
        refine pu_ 2 (some 75) (bt_ 35 7) (by kernel_rfl) ?_
        refine pu_ 3 (some 76) (bt_ 35 15) (by kernel_rfl) ?_
        refine tk_ 4 (some 77) (bt_ 35 31) (by kernel_rfl) hHeld ?_
        clear hHeld
        refine one_ (i := 5) (N := some 78) (bt_ 35 63) rfl rfl (by kernel_rfl) (by decide) (fun K hK => ?_)
        refine goes_ Try.func39 (by kernel_rfl) rfl #[.agg #[.int .i64 y.f0, .int .i64 y.f1, .bool y.f2, .bool true]] (by rfl) rfl rfl (by simp only [List.map_toArray, List.map_cons, List.map_nil]; rfl) ?_
        refine (spec_l11HoldOk.calls y.f0 y.f1 y.f2 true (holdB y) W10 (by rw [← HF3.out]; exact shold_eq y)).mono ?_
        rintro e W11 ⟨rfl, hb⟩
        refine ⟨_, rfl, ?_⟩
        have ZZ := Aside0.mk (And.intro ZZ.out ((hb).size))
        have P1 := kb P1 (hb)
        have HB := kh HB (hb)
        have HLm := kh HLm (hb)
        clear hb
        obtain ⟨ad', hA', y0, y1, y2, y3⟩ := at_T45 (Kd.C_below HR2.out HB.out) (m : Int) (by have := HTm.out; omega) (by have := HTm.out; omega)
        obtain rfl : ad2 = ad' := Option.some.inj hA'
        clear hA'
        simp only [Int.toNat_natCast] at y0 y1 y2 y3
        rw [HYy.out] at y0 y1 y2 y3
        rw [HF3.out] at y3
        refine hK.out _ _ ⟨(blk_cell P1.out 2).trans rfl, y0, y1, y2, y3⟩ (fun hHeld => ?_)
        clear hK K y0 y1 y2 y3
        refine norm_ (a' := ?_) ?_ ?_
        rotate_left
        ·show Act.put _ (some 78) _ = _
         simp only [Act.put, List.setIfInBounds_toArray, List.set_cons_zero, List.set_cons_succ, i64_w, i32_w]
         rfl
        cases hb_ : holdB y with
        | false =>
         clear hHeld
         refine pu_ 6 (some 79) (bt_ 35 127) (by kernel_rfl) ?_
         refine pu_ 7 (some 80) (bt_ 35 255) (by kernel_rfl) ?_
         refine pn_ 8 (some 81) (bt_ 35 511) (by kernel_rfl) ?_
         refine pn_ 9 (some 82) (bt_ 35 1023) (by kernel_rfl) ?_
         refine pn_ 10 (some 83) (bt_ 35 2047) (by kernel_rfl) ?_
         refine pn_ 11 (some 84) (bt_ 35 4095) (by kernel_rfl) ?_
         refine pn_ 12 (some 85) (bt_ 35 8191) (by kernel_rfl) ?_
         refine pn_ 13 (some 86) (bt_ 35 16383) (by kernel_rfl) ?_
         refine pu_ 14 (some 87) (bt_ 35 32767) (by kernel_rfl) ?_
         refine pu_ 15 (some 88) (bt_ 35 65535) (by kernel_rfl) ?_
         refine pn_ 16 (some 89) (bt_ 35 131071) (by kernel_rfl) ?_
         refine pn_ 17 (some 90) (bt_ 35 262143) (by kernel_rfl) ?_
         refine pn_ 18 (some 91) (bt_ 35 524287) (by kernel_rfl) ?_
         refine pn_ 19 (some 92) (bt_ 35 1048575) (by kernel_rfl) ?_
         refine pn_ 20 (some 93) (bt_ 35 2097151) (by kernel_rfl) ?_
         refine pn_ 21 (some 94) (bt_ 35 4194303) (by kernel_rfl) ?_
         refine pn_ 22 (some 95) (bt_ 35 8388607) (by kernel_rfl) ?_
         refine pn_ 23 (some 96) (bt_ 35 16777215) (by kernel_rfl) ?_
         refine pn_ 24 (some 97) (bt_ 35 33554431) (by kernel_rfl) ?_
         refine pn_ 25 (some 98) (bt_ 35 67108863) (by kernel_rfl) ?_
         refine pn_ 26 (some 99) (bt_ 35 134217727) (by kernel_rfl) ?_
         refine pn_ 27 (some 100) (bt_ 35 268435455) (by kernel_rfl) ?_
         refine pn_ 28 (some 101) (bt_ 35 536870911) (by kernel_rfl) ?_
         refine pn_ 29 (some 102) (bt_ 35 1073741823) (by kernel_rfl) ?_
         refine pn_ 30 (some 103) (bt_ 35 2147483647) (by kernel_rfl) ?_
         refine pn_ 31 (some 104) (bt_ 35 4294967295) (by kernel_rfl) ?_
         refine pn_ 32 (some 105) (bt_ 35 8589934591) (by kernel_rfl) ?_
         refine pn_ 33 (some 106) (bt_ 35 17179869183) (by kernel_rfl) ?_
         refine pu_ 34 (some 107) (bt_ 35 34359738367) (by kernel_rfl) ?_
         refine done_ (by kernel_rfl) ?_
         go_wp2_with (fail)
         go_ret
         exact ⟨congrArg (fun b : Bool => Ending.returned (.bool b)) (show _ = lockB s l1 l2 from (show lockB s l1 l2 = _ from ok_w HTm.out (by unfold waitB; rw [HYy.out, hb_]; rfl)).symm), HB.out⟩
        | true =>
         refine pu_ 6 (some 79) (bt_ 35 127) (by kernel_rfl) ?_
         refine pu_ 7 (some 80) (bt_ 35 255) (by kernel_rfl) ?_
         refine pu_ 8 (some 81) (bt_ 35 511) (by kernel_rfl) ?_
         refine tk_ 9 (some 82) (bt_ 35 1023) (by kernel_rfl) hHeld ?_
         refine pu_ 10 (some 83) (bt_ 35 2047) (by kernel_rfl) ?_
         refine pu_ 11 (some 84) (bt_ 35 4095) (by kernel_rfl) ?_
         refine pu_ 12 (some 85) (bt_ 35 8191) (by kernel_rfl) ?_
         refine tk_ 13 (some 86) (bt_ 35 16383) (by kernel_rfl) hHeld ?_
         refine pu_ 14 (some 87) (bt_ 35 32767) (by kernel_rfl) ?_
         refine pu_ 15 (some 88) (bt_ 35 65535) (by kernel_rfl) ?_
         clear hHeld
         refine pn_ 16 (some 89) (bt_ 35 131071) (by kernel_rfl) ?_
         refine pn_ 17 (some 90) (bt_ 35 262143) (by kernel_rfl) ?_
         refine pn_ 18 (some 91) (bt_ 35 524287) (by kernel_rfl) ?_
         refine pn_ 19 (some 92) (bt_ 35 1048575) (by kernel_rfl) ?_
         refine pn_ 20 (some 93) (bt_ 35 2097151) (by kernel_rfl) ?_
         refine pn_ 21 (some 94) (bt_ 35 4194303) (by kernel_rfl) ?_
         refine pn_ 22 (some 95) (bt_ 35 8388607) (by kernel_rfl) ?_
         refine pn_ 23 (some 96) (bt_ 35 16777215) (by kernel_rfl) ?_
         refine pn_ 24 (some 97) (bt_ 35 33554431) (by kernel_rfl) ?_
         refine pn_ 25 (some 98) (bt_ 35 67108863) (by kernel_rfl) ?_
         refine pn_ 26 (some 99) (bt_ 35 134217727) (by kernel_rfl) ?_
         refine pn_ 27 (some 100) (bt_ 35 268435455) (by kernel_rfl) ?_
         refine pn_ 28 (some 101) (bt_ 35 536870911) (by kernel_rfl) ?_
         refine pn_ 29 (some 102) (bt_ 35 1073741823) (by kernel_rfl) ?_
         refine pn_ 30 (some 103) (bt_ 35 2147483647) (by kernel_rfl) ?_
         refine pn_ 31 (some 104) (bt_ 35 4294967295) (by kernel_rfl) ?_
         refine pn_ 32 (some 105) (bt_ 35 8589934591) (by kernel_rfl) ?_
         refine pn_ 33 (some 106) (bt_ 35 17179869183) (by kernel_rfl) ?_
         refine pu_ 34 (some 107) (bt_ 35 34359738367) (by kernel_rfl) ?_
         refine done_ (by kernel_rfl) ?_
         go_wp2_with (fail)
         go_ret
         exact ⟨congrArg (fun b : Bool => Ending.returned (.bool b)) (show _ = lockB s l1 l2 from (show lockB s l1 l2 = _ from ok_w HTm.out (by unfold waitB; rw [HYy.out, hb_, HF3.out]; rfl)).symm), HB.out⟩
       | false =>
        rw [hf_] at y3
        have HF3 := Aside0.mk hf_
        clear hf_
        by_cases h0_ : 0 < m
        ·have hgd : decide (0 < m) = true := decide_eq_true h0_
         have hw1 : wrap64 ((m : Int) - 1) = (m : Int) - 1 := by unfold wrap64; have := H2.out; have := HTm.out; omega
         have pi_ : (1 ≤ (m : Int)) = True := eq_true (by omega)
         have qi_ : ((m : Int) - 1 < (l2.length : Int)) = True := eq_true (by have := HTm.out; omega)
         have H0 := Aside0.mk h0_
         clear h0_
         obtain ⟨ad', hA', u0, u1, u2, u3⟩ := at_T45 (Kd.C_below HR2.out HB.out) ((m - 1 : Nat) : Int) (by have := HTm.out; omega) (by have := HTm.out; omega)
         obtain rfl : ad2 = ad' := Option.some.inj hA'
         clear hA'
         simp only [Int.toNat_natCast] at u0 u1 u2 u3
         generalize hY_ : rd_T45 l2 ((m - 1 : Nat) : Int) = u at u0 u1 u2 u3
         have HYu := Aside0.mk hY_
         clear hY_
         have P1 := kbd P1
         have HB := khd HB
         have HLm := khd HLm
         have ZZ := Aside0.mk (And.intro ZZ.out (show W9.heap.size ≤ (W9.drew).heap.size from Nat.le_refl _))
         have HSS := (show (W9.drew).cell? ⟨w.heap.size, 2, none⟩ = some (.slice (some ad2) l2.length c2) ∧ (W9.drew).cell? (ad2.add (m * 4)) = some (.int .i64 y.f0) ∧ (W9.drew).cell? ⟨(ad2.add (m * 4)).block, (ad2.add (m * 4)).off + 1, none⟩ = some (.int .i64 y.f1) ∧ (W9.drew).cell? ⟨(ad2.add (m * 4)).block, (ad2.add (m * 4)).off + 2, none⟩ = some (.bool y.f2) ∧ (W9.drew).cell? ⟨(ad2.add (m * 4)).block, (ad2.add (m * 4)).off + 3, none⟩ = some (.bool false) ∧ (W9.drew).cell? (ad2.add ((m - 1) * 4)) = some (.int .i64 u.f0) from ⟨(blk_cell P1.out 2).trans rfl, y0, y1, y2, y3, u0⟩)
         refine start_ (n := 35) (S := fun w' => w'.cell? ⟨w.heap.size, 2, none⟩ = some (.slice (some ad2) l2.length c2) ∧ w'.cell? (ad2.add (m * 4)) = some (.int .i64 y.f0) ∧ w'.cell? ⟨(ad2.add (m * 4)).block, (ad2.add (m * 4)).off + 1, none⟩ = some (.int .i64 y.f1) ∧ w'.cell? ⟨(ad2.add (m * 4)).block, (ad2.add (m * 4)).off + 2, none⟩ = some (.bool y.f2) ∧ w'.cell? ⟨(ad2.add (m * 4)).block, (ad2.add (m * 4)).off + 3, none⟩ = some (.bool false) ∧ w'.cell? (ad2.add ((m - 1) * 4)) = some (.int .i64 u.f0)) (ds := []) (bt_ 35 0) (by kernel_rfl) rfl rfl HSS (fun hHeld => ?_)
         clear HSS y0 y1 y2 y3 u0 u1 u2 u3
         generalize W9.drew = W12 at P1 HB HLm ZZ hHeld ⊢
         refine pu_ 0 (some 73) (bt_ 35 1) (by kernel_rfl) ?_
         refine tk_ 1 (some 74) (bt_ 35 3) (by kernel_rfl) hHeld ?_
         refine pu_ 2 (some 75) (bt_ 35 7) (by kernel_rfl) ?_
         refine pu_ 3 (some 76) (bt_ 35 15) (by kernel_rfl) ?_
         refine tk_ 4 (some 77) (bt_ 35 31) (by kernel_rfl) hHeld ?_
         clear hHeld
         refine one_ (i := 5) (N := some 78) (bt_ 35 63) rfl rfl (by kernel_rfl) (by decide) (fun K hK => ?_)
         refine goes_ Try.func39 (by kernel_rfl) rfl #[.agg #[.int .i64 y.f0, .int .i64 y.f1, .bool y.f2, .bool false]] (by rfl) rfl rfl (by simp only [List.map_toArray, List.map_cons, List.map_nil]; rfl) ?_
         refine (spec_l11HoldOk.calls y.f0 y.f1 y.f2 false (holdB y) W12 (by rw [← HF3.out]; exact shold_eq y)).mono ?_
         rintro e W13 ⟨rfl, hb⟩
         refine ⟨_, rfl, ?_⟩
         have ZZ := Aside0.mk (And.intro ZZ.out ((hb).size))
         have P1 := kb P1 (hb)
         have HB := kh HB (hb)
         have HLm := kh HLm (hb)
         clear hb
         obtain ⟨ad', hA', y0, y1, y2, y3⟩ := at_T45 (Kd.C_below HR2.out HB.out) (m : Int) (by have := HTm.out; omega) (by have := HTm.out; omega)
         obtain rfl : ad2 = ad' := Option.some.inj hA'
         clear hA'
         simp only [Int.toNat_natCast] at y0 y1 y2 y3
         rw [HYy.out] at y0 y1 y2 y3
         rw [HF3.out] at y3
         obtain ⟨ad', hA', u0, u1, u2, u3⟩ := at_T45 (Kd.C_below HR2.out HB.out) ((m - 1 : Nat) : Int) (by have := HTm.out; omega) (by have := HTm.out; omega)
         obtain rfl : ad2 = ad' := Option.some.inj hA'
         clear hA'
         simp only [Int.toNat_natCast] at u0 u1 u2 u3
         rw [HYu.out] at u0 u1 u2 u3
         refine hK.out _ _ ⟨(blk_cell P1.out 2).trans rfl, y0, y1, y2, y3, u0⟩ (fun hHeld => ?_)
         clear hK K y0 y1 y2 y3 u0 u1 u2 u3
         refine norm_ (a' := ?_) ?_ ?_
         rotate_left
         ·show Act.put _ (some 78) _ = _
          simp only [Act.put, List.setIfInBounds_toArray, List.set_cons_zero, List.set_cons_succ, i64_w, i32_w]
          rfl
         cases hb_ : holdB y with
         | false =>
          clear hHeld
          refine pu_ 6 (some 79) (bt_ 35 127) (by kernel_rfl) ?_
          refine pu_ 7 (some 80) (bt_ 35 255) (by kernel_rfl) ?_
          refine pn_ 8 (some 81) (bt_ 35 511) (by kernel_rfl) ?_
          refine pn_ 9 (some 82) (bt_ 35 1023) (by kernel_rfl) ?_
          refine pn_ 10 (some 83) (bt_ 35 2047) (by kernel_rfl) ?_
          refine pn_ 11 (some 84) (bt_ 35 4095) (by kernel_rfl) ?_
          refine pn_ 12 (some 85) (bt_ 35 8191) (by kernel_rfl) ?_
          refine pn_ 13 (some 86) (bt_ 35 16383) (by kernel_rfl) ?_
          refine pu_ 14 (some 87) (bt_ 35 32767) (by kernel_rfl) ?_
          refine pu_ 15 (some 88) (bt_ 35 65535) (by kernel_rfl) ?_
          refine pn_ 16 (some 89) (bt_ 35 131071) (by kernel_rfl) ?_
          refine pn_ 17 (some 90) (bt_ 35 262143) (by kernel_rfl) ?_
          refine pn_ 18 (some 91) (bt_ 35 524287) (by kernel_rfl) ?_
          refine pn_ 19 (some 92) (bt_ 35 1048575) (by kernel_rfl) ?_
          refine pn_ 20 (some 93) (bt_ 35 2097151) (by kernel_rfl) ?_
          refine pn_ 21 (some 94) (bt_ 35 4194303) (by kernel_rfl) ?_
          refine pn_ 22 (some 95) (bt_ 35 8388607) (by kernel_rfl) ?_
          refine pn_ 23 (some 96) (bt_ 35 16777215) (by kernel_rfl) ?_
          refine pn_ 24 (some 97) (bt_ 35 33554431) (by kernel_rfl) ?_
          refine pn_ 25 (some 98) (bt_ 35 67108863) (by kernel_rfl) ?_
          refine pn_ 26 (some 99) (bt_ 35 134217727) (by kernel_rfl) ?_
          refine pn_ 27 (some 100) (bt_ 35 268435455) (by kernel_rfl) ?_
          refine pn_ 28 (some 101) (bt_ 35 536870911) (by kernel_rfl) ?_
          refine pn_ 29 (some 102) (bt_ 35 1073741823) (by kernel_rfl) ?_
          refine pn_ 30 (some 103) (bt_ 35 2147483647) (by kernel_rfl) ?_
          refine pn_ 31 (some 104) (bt_ 35 4294967295) (by kernel_rfl) ?_
          refine pn_ 32 (some 105) (bt_ 35 8589934591) (by kernel_rfl) ?_
          refine pn_ 33 (some 106) (bt_ 35 17179869183) (by kernel_rfl) ?_
          refine pu_ 34 (some 107) (bt_ 35 34359738367) (by kernel_rfl) ?_
          refine done_ (by kernel_rfl) ?_
          go_wp2_with (fail)
          go_ret
          exact ⟨congrArg (fun b : Bool => Ending.returned (.bool b)) (show _ = lockB s l1 l2 from (show lockB s l1 l2 = _ from ok_w HTm.out (by unfold waitB; rw [HYy.out, hb_]; rfl)).symm), HB.out⟩
         | true =>
          refine pu_ 6 (some 79) (bt_ 35 127) (by kernel_rfl) ?_
          refine pu_ 7 (some 80) (bt_ 35 255) (by kernel_rfl) ?_
          refine pu_ 8 (some 81) (bt_ 35 511) (by kernel_rfl) ?_
          refine tk_ 9 (some 82) (bt_ 35 1023) (by kernel_rfl) hHeld ?_
          refine pu_ 10 (some 83) (bt_ 35 2047) (by kernel_rfl) ?_
          refine pu_ 11 (some 84) (bt_ 35 4095) (by kernel_rfl) ?_
          refine pu_ 12 (some 85) (bt_ 35 8191) (by kernel_rfl) ?_
          refine tk_ 13 (some 86) (bt_ 35 16383) (by kernel_rfl) hHeld ?_
          refine pu_ 14 (some 87) (bt_ 35 32767) (by kernel_rfl) ?_
          refine pu_ 15 (some 88) (bt_ 35 65535) (by kernel_rfl) ?_
          refine pu_ 16 (some 89) (bt_ 35 131071) (by kernel_rfl) ?_
          refine pu_ 17 (some 90) (bt_ 35 262143) (by kernel_rfl) ?_
          refine pu_ 18 (some 91) (bt_ 35 524287) (by kernel_rfl) ?_
          refine pu_ 19 (some 92) (bt_ 35 1048575) (by kernel_rfl) ?_
          refine tk_ 20 (some 93) (bt_ 35 2097151) (by kernel_rfl) hHeld ?_
          refine pu_ 21 (some 94) (bt_ 35 4194303) (by kernel_rfl) ?_
          refine pu_ 22 (some 95) (bt_ 35 8388607) (by kernel_rfl) ?_
          refine pu_ 23 (some 96) (bt_ 35 16777215) (by kernel_rfl) ?_
          refine pu_ 24 (some 97) (bt_ 35 33554431) (by kernel_rfl) ?_
          refine tk_ 25 (some 98) (bt_ 35 67108863) (by kernel_rfl) hHeld ?_
          refine pu_ 26 (some 99) (bt_ 35 134217727) (by kernel_rfl) ?_
          refine tk_ 27 (some 100) (bt_ 35 268435455) (by kernel_rfl) hHeld ?_
          refine pu_ 28 (some 101) (bt_ 35 536870911) (by kernel_rfl) ?_
          refine pu_ 29 (some 102) (bt_ 35 1073741823) (by kernel_rfl) ?_
          refine pu_ 30 (some 103) (bt_ 35 2147483647) (by kernel_rfl) ?_
          refine tk_ 31 (some 104) (bt_ 35 4294967295) (by kernel_rfl) hHeld ?_
          clear hHeld
          by_cases hle : y.f0 ≤ u.f0
          ·have hld : decide (y.f0 ≤ u.f0) = true := decide_eq_true hle
           have HLE := Aside0.mk hle
           clear hle
           refine pu_ 32 (some 105) (bt_ 35 8589934591) (by kernel_rfl) ?_
           refine pu_ 33 (some 106) (bt_ 35 17179869183) (by kernel_rfl) ?_
           refine pu_ 34 (some 107) (bt_ 35 34359738367) (by kernel_rfl) ?_
           refine done_ (by kernel_rfl) ?_
           go_wp2_with (fail)
           go_ret
           exact ⟨congrArg (fun b : Bool => Ending.returned (.bool b)) (show _ = lockB s l1 l2 from (show lockB s l1 l2 = _ from ok_w HTm.out (by unfold waitB; rw [HYy.out, HYu.out, hb_, HF3.out, decide_eq_false (show ¬ m = 0 by have := H0.out; omega), decide_eq_false (show ¬ u.f0 < y.f0 by have := HLE.out; omega)]; rfl)).symm), HB.out⟩
          ·have hld : decide (y.f0 ≤ u.f0) = false := decide_eq_false hle
           have HLE := Aside0.mk hle
           clear hle
           refine pu_ 32 (some 105) (bt_ 35 8589934591) (by kernel_rfl) ?_
           refine pu_ 33 (some 106) (bt_ 35 17179869183) (by kernel_rfl) ?_
           refine pu_ 34 (some 107) (bt_ 35 34359738367) (by kernel_rfl) ?_
           refine done_ (by kernel_rfl) ?_
           go_wp2_with (fail)
           clear pi_ qi_ hw1
           go_loopw [5] (fun i wr => ∃ k : Nat, i = .int .i64 (k : Int) ∧ Aside0 (k ≤ l1.length) ∧ Aside0 (Below W13.heap.size W13 wr) ∧ Aside0 (∀ j : Nat, j < k → (rd_T45 l1 (j : Int)).f0 ≠ y.f0)) (fun i _ => l1.length - (intOf i).toNat)
           case atStart => exact ⟨0, rfl, ⟨Nat.zero_le _⟩, ⟨Below.refl _ _⟩, ⟨fun j hj => absurd hj (by omega)⟩⟩
           case round =>
            obtain ⟨W14, e_⟩ : ∃ X, X = wr := ⟨_, rfl⟩
            subst e_
            obtain ⟨k, rfl, HXk, HLk, HIk⟩ := hrel
            have ZZ := Aside0.mk (And.intro ZZ.out ((HLk.out).size))
            have P1 := kb P1 (HLk.out)
            have HB := kh HB (HLk.out)
            have HLm := kh HLm (HLk.out)
            by_cases hlt : k < l1.length
            ·have HTk := Aside0.mk hlt
             have hdl : decide (k < l1.length) = true := decide_eq_true hlt
             have hwk : wrap64 ((k : Int) + 1) = (k : Int) + 1 := by unfold wrap64; have := H2.out; omega
             obtain ⟨ad', hA', y0, y1, y2, y3⟩ := at_T45 (Kd.C_below HR2.out HB.out) (m : Int) (by have := HTm.out; omega) (by have := HTm.out; omega)
             obtain rfl : ad2 = ad' := Option.some.inj hA'
             clear hA'
             simp only [Int.toNat_natCast] at y0 y1 y2 y3
             rw [HYy.out] at y0 y1 y2 y3
             obtain ⟨ad', hA', v0, v1, v2, v3⟩ := at_T45 (Kd.C_below HR1.out HB.out) (k : Int) (by have := HTk.out; omega) (by have := HTk.out; omega)
             subst hA'
             obtain ⟨ad1, e_⟩ : ∃ X, X = ad' := ⟨_, rfl⟩
             subst e_
             simp only [Int.toNat_natCast] at v0 v1 v2 v3
             generalize hY_ : rd_T45 l1 (k : Int) = v at v0 v1 v2 v3
             have HYv := Aside0.mk hY_
             clear hY_
             have hp1 := (blk_cell P1.out 1).trans (show _ = some (.slice (some ad1) l1.length c1) from rfl)
             have hltm : m < l2.length := HTm.out
             go_wp2_with (fail)
             clear hp1
             have P1 := kbd P1
             have HB := khd HB
             have HLm := khd HLm
             have HLk := khd HLk
             have ZZ := Aside0.mk (And.intro ZZ.out (show W14.heap.size ≤ (W14.drew).heap.size from Nat.le_refl _))
             have HSS := (show (W14.drew).cell? ⟨w.heap.size, 1, none⟩ = some (.slice (some ad1) l1.length c1) ∧ (W14.drew).cell? (ad1.add (k * 4)) = some (.int .i64 v.f0) ∧ (W14.drew).cell? ⟨w.heap.size, 2, none⟩ = some (.slice (some ad2) l2.length c2) ∧ (W14.drew).cell? (ad2.add (m * 4)) = some (.int .i64 y.f0) from ⟨(blk_cell P1.out 1).trans rfl, v0, (blk_cell P1.out 2).trans rfl, y0⟩)
             refine start_ (n := 13) (S := fun w' => w'.cell? ⟨w.heap.size, 1, none⟩ = some (.slice (some ad1) l1.length c1) ∧ w'.cell? (ad1.add (k * 4)) = some (.int .i64 v.f0) ∧ w'.cell? ⟨w.heap.size, 2, none⟩ = some (.slice (some ad2) l2.length c2) ∧ w'.cell? (ad2.add (m * 4)) = some (.int .i64 y.f0)) (ds := []) (bt_ 13 0) (by kernel_rfl) rfl rfl HSS (fun hHeld => ?_)
             clear HSS y0 y1 y2 y3 v0 v1 v2 v3
             generalize W14.drew = W15 at P1 HB HLm HLk ZZ hHeld ⊢
             refine pu_ 0 (some 115) (bt_ 13 1) (by kernel_rfl) ?_
             refine tk_ 1 (some 116) (bt_ 13 3) (by kernel_rfl) hHeld ?_
             refine pu_ 2 (some 117) (bt_ 13 7) (by kernel_rfl) ?_
             refine pu_ 3 (some 118) (bt_ 13 15) (by kernel_rfl) ?_
             refine pu_ 4 (some 119) (bt_ 13 31) (by kernel_rfl) ?_
             refine tk_ 5 (some 120) (bt_ 13 63) (by kernel_rfl) hHeld ?_
             refine pu_ 6 (some 121) (bt_ 13 127) (by kernel_rfl) ?_
             refine tk_ 7 (some 122) (bt_ 13 255) (by kernel_rfl) hHeld ?_
             refine pu_ 8 (some 123) (bt_ 13 511) (by kernel_rfl) ?_
             refine pu_ 9 (some 124) (bt_ 13 1023) (by kernel_rfl) ?_
             refine pu_ 10 (some 125) (bt_ 13 2047) (by kernel_rfl) ?_
             refine tk_ 11 (some 126) (bt_ 13 4095) (by kernel_rfl) hHeld ?_
             refine pu_ 12 (some 127) (bt_ 13 8191) (by kernel_rfl) ?_
             clear hHeld
             refine done_ (by kernel_rfl) ?_
             by_cases he_ : v.f0 = y.f0
             ·have he : (v.f0 == y.f0) = true := beq_iff_eq.mpr he_
              have HE_ := Aside0.mk he_
              clear he_
              go_wp2_with (fail)
              go_ret
              exact ⟨congrArg (fun b : Bool => Ending.returned (.bool b)) (show _ = lockB s l1 l2 from (show lockB s l1 l2 = _ from ok_w HTm.out (by
               have q : l1.all (fun a => !decide (a.f0 = y.f0)) = false := by
                rw [← Bool.not_eq_true]
                intro e
                have e1 := all_rd.1 e k HTk.out
                rw [HYv.out, decide_eq_true HE_.out] at e1
                cases e1
               unfold waitB
               rw [HYy.out, q]
               simp)).symm), HB.out⟩
             ·have he : (v.f0 == y.f0) = false := beq_eq_false_iff_ne.mpr he_
              have HE_ := Aside0.mk he_
              clear he_
              go_wp2_with (fail)
              try (go_wp2_with (fail))
              go_roundw
              case rel => exact ⟨k + 1, (by first | rfl | exact congrArg (Value.int .i64) (by omega)), ⟨HTk.out⟩, HLk, ⟨fun j hj => by
               rcases Nat.lt_or_ge j k with q | q
               ·exact HIk.out j q
               ·obtain rfl : k = j := by omega
                rw [HYv.out]; exact HE_.out⟩⟩
              case measure =>
               (try rw [hwk])
               show l1.length - ((k : Int) + 1).toNat < l1.length - (k : Int).toNat
               have := HTk.out
               omega
            ·have hdl : decide (k < l1.length) = false := decide_eq_false hlt
             obtain rfl : l1.length = k := by have := HXk.out; omega
             clear hlt
             have hp1 := (blk_cell P1.out 1).trans (show _ = some (.slice A1 l1.length c1) from rfl)
             go_wp2_with (fail)
             clear hp1
             try (go_wp2_with (fail))
             go_roundw
             case rel => exact ⟨m + 1, (by first | rfl | exact congrArg (Value.int .i64) (by omega)), ⟨HTm.out⟩, HLm, ⟨fun j hj => by
              rcases Nat.lt_or_ge j m with q | q
              ·exact HIm.out j q
              ·obtain rfl : m = j := by omega
               have q2 : l1.all (fun a => !decide (a.f0 = y.f0)) = true := all_rd.2 (fun i hi => by have := HIk.out i hi; simp [this])
               unfold waitB
               rw [HYy.out, hb_, HF3.out, q2, HYu.out, decide_eq_true (show u.f0 < y.f0 by have := HLE.out; omega), Bool.or_true]
               rfl⟩⟩
             case measure =>
              (try rw [hwm])
              show l2.length - ((m : Int) + 1).toNat < l2.length - (m : Int).toNat
              have := HTm.out
              omega
        ·have hgd : decide (0 < m) = false := decide_eq_false h0_
         have H0 := Aside0.mk h0_
         clear h0_
         have P1 := kbd P1
         have HB := khd HB
         have HLm := khd HLm
         have ZZ := Aside0.mk (And.intro ZZ.out (show W9.heap.size ≤ (W9.drew).heap.size from Nat.le_refl _))
         have HSS := (show (W9.drew).cell? ⟨w.heap.size, 2, none⟩ = some (.slice (some ad2) l2.length c2) ∧ (W9.drew).cell? (ad2.add (m * 4)) = some (.int .i64 y.f0) ∧ (W9.drew).cell? ⟨(ad2.add (m * 4)).block, (ad2.add (m * 4)).off + 1, none⟩ = some (.int .i64 y.f1) ∧ (W9.drew).cell? ⟨(ad2.add (m * 4)).block, (ad2.add (m * 4)).off + 2, none⟩ = some (.bool y.f2) ∧ (W9.drew).cell? ⟨(ad2.add (m * 4)).block, (ad2.add (m * 4)).off + 3, none⟩ = some (.bool false) from ⟨(blk_cell P1.out 2).trans rfl, y0, y1, y2, y3⟩)
         refine start_ (n := 35) (S := fun w' => w'.cell? ⟨w.heap.size, 2, none⟩ = some (.slice (some ad2) l2.length c2) ∧ w'.cell? (ad2.add (m * 4)) = some (.int .i64 y.f0) ∧ w'.cell? ⟨(ad2.add (m * 4)).block, (ad2.add (m * 4)).off + 1, none⟩ = some (.int .i64 y.f1) ∧ w'.cell? ⟨(ad2.add (m * 4)).block, (ad2.add (m * 4)).off + 2, none⟩ = some (.bool y.f2) ∧ w'.cell? ⟨(ad2.add (m * 4)).block, (ad2.add (m * 4)).off + 3, none⟩ = some (.bool false)) (ds := []) (bt_ 35 0) (by kernel_rfl) rfl rfl HSS (fun hHeld => ?_)
         clear HSS y0 y1 y2 y3
         generalize W9.drew = W16 at P1 HB HLm ZZ hHeld ⊢
         refine pu_ 0 (some 73) (bt_ 35 1) (by kernel_rfl) ?_
         refine tk_ 1 (some 74) (bt_ 35 3) (by kernel_rfl) hHeld ?_
         refine pu_ 2 (some 75) (bt_ 35 7) (by kernel_rfl) ?_
         refine pu_ 3 (some 76) (bt_ 35 15) (by kernel_rfl) ?_
         refine tk_ 4 (some 77) (bt_ 35 31) (by kernel_rfl) hHeld ?_
         clear hHeld
         refine one_ (i := 5) (N := some 78) (bt_ 35 63) rfl rfl (by kernel_rfl) (by decide) (fun K hK => ?_)
         refine goes_ Try.func39 (by kernel_rfl) rfl #[.agg #[.int .i64 y.f0, .int .i64 y.f1, .bool y.f2, .bool false]] (by rfl) rfl rfl (by simp only [List.map_toArray, List.map_cons, List.map_nil]; rfl) ?_
         refine (spec_l11HoldOk.calls y.f0 y.f1 y.f2 false (holdB y) W16 (by rw [← HF3.out]; exact shold_eq y)).mono ?_
         rintro e W17 ⟨rfl, hb⟩
         refine ⟨_, rfl, ?_⟩
         have ZZ := Aside0.mk (And.intro ZZ.out ((hb).size))
         have P1 := kb P1 (hb)
         have HB := kh HB (hb)
         have HLm := kh HLm (hb)
         clear hb
         obtain ⟨ad', hA', y0, y1, y2, y3⟩ := at_T45 (Kd.C_below HR2.out HB.out) (m : Int) (by have := HTm.out; omega) (by have := HTm.out; omega)
         obtain rfl : ad2 = ad' := Option.some.inj hA'
         clear hA'
         simp only [Int.toNat_natCast] at y0 y1 y2 y3
         rw [HYy.out] at y0 y1 y2 y3
         rw [HF3.out] at y3
         refine hK.out _ _ ⟨(blk_cell P1.out 2).trans rfl, y0, y1, y2, y3⟩ (fun hHeld => ?_)
         clear hK K y0 y1 y2 y3
         refine norm_ (a' := ?_) ?_ ?_
         rotate_left
         ·show Act.put _ (some 78) _ = _
          simp only [Act.put, List.setIfInBounds_toArray, List.set_cons_zero, List.set_cons_succ, i64_w, i32_w]
          rfl
         cases hb_ : holdB y with
         | false =>
          clear hHeld
          refine pu_ 6 (some 79) (bt_ 35 127) (by kernel_rfl) ?_
          refine pu_ 7 (some 80) (bt_ 35 255) (by kernel_rfl) ?_
          refine pn_ 8 (some 81) (bt_ 35 511) (by kernel_rfl) ?_
          refine pn_ 9 (some 82) (bt_ 35 1023) (by kernel_rfl) ?_
          refine pn_ 10 (some 83) (bt_ 35 2047) (by kernel_rfl) ?_
          refine pn_ 11 (some 84) (bt_ 35 4095) (by kernel_rfl) ?_
          refine pn_ 12 (some 85) (bt_ 35 8191) (by kernel_rfl) ?_
          refine pn_ 13 (some 86) (bt_ 35 16383) (by kernel_rfl) ?_
          refine pu_ 14 (some 87) (bt_ 35 32767) (by kernel_rfl) ?_
          refine pu_ 15 (some 88) (bt_ 35 65535) (by kernel_rfl) ?_
          refine pn_ 16 (some 89) (bt_ 35 131071) (by kernel_rfl) ?_
          refine pn_ 17 (some 90) (bt_ 35 262143) (by kernel_rfl) ?_
          refine pn_ 18 (some 91) (bt_ 35 524287) (by kernel_rfl) ?_
          refine pn_ 19 (some 92) (bt_ 35 1048575) (by kernel_rfl) ?_
          refine pn_ 20 (some 93) (bt_ 35 2097151) (by kernel_rfl) ?_
          refine pn_ 21 (some 94) (bt_ 35 4194303) (by kernel_rfl) ?_
          refine pn_ 22 (some 95) (bt_ 35 8388607) (by kernel_rfl) ?_
          refine pn_ 23 (some 96) (bt_ 35 16777215) (by kernel_rfl) ?_
          refine pn_ 24 (some 97) (bt_ 35 33554431) (by kernel_rfl) ?_
          refine pn_ 25 (some 98) (bt_ 35 67108863) (by kernel_rfl) ?_
          refine pn_ 26 (some 99) (bt_ 35 134217727) (by kernel_rfl) ?_
          refine pn_ 27 (some 100) (bt_ 35 268435455) (by kernel_rfl) ?_
          refine pn_ 28 (some 101) (bt_ 35 536870911) (by kernel_rfl) ?_
          refine pn_ 29 (some 102) (bt_ 35 1073741823) (by kernel_rfl) ?_
          refine pn_ 30 (some 103) (bt_ 35 2147483647) (by kernel_rfl) ?_
          refine pn_ 31 (some 104) (bt_ 35 4294967295) (by kernel_rfl) ?_
          refine pn_ 32 (some 105) (bt_ 35 8589934591) (by kernel_rfl) ?_
          refine pn_ 33 (some 106) (bt_ 35 17179869183) (by kernel_rfl) ?_
          refine pu_ 34 (some 107) (bt_ 35 34359738367) (by kernel_rfl) ?_
          refine done_ (by kernel_rfl) ?_
          go_wp2_with (fail)
          go_ret
          exact ⟨congrArg (fun b : Bool => Ending.returned (.bool b)) (show _ = lockB s l1 l2 from (show lockB s l1 l2 = _ from ok_w HTm.out (by unfold waitB; rw [HYy.out, hb_]; rfl)).symm), HB.out⟩
         | true =>
          refine pu_ 6 (some 79) (bt_ 35 127) (by kernel_rfl) ?_
          refine pu_ 7 (some 80) (bt_ 35 255) (by kernel_rfl) ?_
          refine pu_ 8 (some 81) (bt_ 35 511) (by kernel_rfl) ?_
          refine tk_ 9 (some 82) (bt_ 35 1023) (by kernel_rfl) hHeld ?_
          refine pu_ 10 (some 83) (bt_ 35 2047) (by kernel_rfl) ?_
          refine pu_ 11 (some 84) (bt_ 35 4095) (by kernel_rfl) ?_
          refine pu_ 12 (some 85) (bt_ 35 8191) (by kernel_rfl) ?_
          refine tk_ 13 (some 86) (bt_ 35 16383) (by kernel_rfl) hHeld ?_
          refine pu_ 14 (some 87) (bt_ 35 32767) (by kernel_rfl) ?_
          refine pu_ 15 (some 88) (bt_ 35 65535) (by kernel_rfl) ?_
          refine pu_ 16 (some 89) (bt_ 35 131071) (by kernel_rfl) ?_
          refine pu_ 17 (some 90) (bt_ 35 262143) (by kernel_rfl) ?_
          refine pu_ 18 (some 91) (bt_ 35 524287) (by kernel_rfl) ?_
          refine pn_ 19 (some 92) (bt_ 35 1048575) (by kernel_rfl) ?_
          refine pn_ 20 (some 93) (bt_ 35 2097151) (by kernel_rfl) ?_
          refine pn_ 21 (some 94) (bt_ 35 4194303) (by kernel_rfl) ?_
          refine pn_ 22 (some 95) (bt_ 35 8388607) (by kernel_rfl) ?_
          refine pn_ 23 (some 96) (bt_ 35 16777215) (by kernel_rfl) ?_
          refine pn_ 24 (some 97) (bt_ 35 33554431) (by kernel_rfl) ?_
          refine pn_ 25 (some 98) (bt_ 35 67108863) (by kernel_rfl) ?_
          refine pn_ 26 (some 99) (bt_ 35 134217727) (by kernel_rfl) ?_
          refine pn_ 27 (some 100) (bt_ 35 268435455) (by kernel_rfl) ?_
          refine pn_ 28 (some 101) (bt_ 35 536870911) (by kernel_rfl) ?_
          refine pn_ 29 (some 102) (bt_ 35 1073741823) (by kernel_rfl) ?_
          refine pn_ 30 (some 103) (bt_ 35 2147483647) (by kernel_rfl) ?_
          refine pn_ 31 (some 104) (bt_ 35 4294967295) (by kernel_rfl) ?_
          refine pn_ 32 (some 105) (bt_ 35 8589934591) (by kernel_rfl) ?_
          refine pu_ 33 (some 106) (bt_ 35 17179869183) (by kernel_rfl) ?_
          refine pu_ 34 (some 107) (bt_ 35 34359738367) (by kernel_rfl) ?_
          clear hHeld
          refine done_ (by kernel_rfl) ?_
          go_wp2_with (fail)
          go_loopw [5] (fun i wr => ∃ k : Nat, i = .int .i64 (k : Int) ∧ Aside0 (k ≤ l1.length) ∧ Aside0 (Below W17.heap.size W17 wr) ∧ Aside0 (∀ j : Nat, j < k → (rd_T45 l1 (j : Int)).f0 ≠ y.f0)) (fun i _ => l1.length - (intOf i).toNat)
          case atStart => exact ⟨0, rfl, ⟨Nat.zero_le _⟩, ⟨Below.refl _ _⟩, ⟨fun j hj => absurd hj (by omega)⟩⟩
          case round =>
           obtain ⟨W18, e_⟩ : ∃ X, X = wr := ⟨_, rfl⟩
           subst e_
           obtain ⟨k, rfl, HXk, HLk, HIk⟩ := hrel
           have ZZ := Aside0.mk (And.intro ZZ.out ((HLk.out).size))
           have P1 := kb P1 (HLk.out)
           have HB := kh HB (HLk.out)
           have HLm := kh HLm (HLk.out)
           by_cases hlt : k < l1.length
           ·have HTk := Aside0.mk hlt
            have hdl : decide (k < l1.length) = true := decide_eq_true hlt
            have hwk : wrap64 ((k : Int) + 1) = (k : Int) + 1 := by unfold wrap64; have := H2.out; omega
            obtain ⟨ad', hA', y0, y1, y2, y3⟩ := at_T45 (Kd.C_below HR2.out HB.out) (m : Int) (by have := HTm.out; omega) (by have := HTm.out; omega)
            obtain rfl : ad2 = ad' := Option.some.inj hA'
            clear hA'
            simp only [Int.toNat_natCast] at y0 y1 y2 y3
            rw [HYy.out] at y0 y1 y2 y3
            obtain ⟨ad', hA', v0, v1, v2, v3⟩ := at_T45 (Kd.C_below HR1.out HB.out) (k : Int) (by have := HTk.out; omega) (by have := HTk.out; omega)
            subst hA'
            obtain ⟨ad1, e_⟩ : ∃ X, X = ad' := ⟨_, rfl⟩
            subst e_
            simp only [Int.toNat_natCast] at v0 v1 v2 v3
            generalize hY_ : rd_T45 l1 (k : Int) = v at v0 v1 v2 v3
            have HYv := Aside0.mk hY_
            clear hY_
            have hp1 := (blk_cell P1.out 1).trans (show _ = some (.slice (some ad1) l1.length c1) from rfl)
            have hltm : m < l2.length := HTm.out
            go_wp2_with (fail)
            clear hp1
            have P1 := kbd P1
            have HB := khd HB
            have HLm := khd HLm
            have HLk := khd HLk
            have ZZ := Aside0.mk (And.intro ZZ.out (show W18.heap.size ≤ (W18.drew).heap.size from Nat.le_refl _))
            have HSS := (show (W18.drew).cell? ⟨w.heap.size, 1, none⟩ = some (.slice (some ad1) l1.length c1) ∧ (W18.drew).cell? (ad1.add (k * 4)) = some (.int .i64 v.f0) ∧ (W18.drew).cell? ⟨w.heap.size, 2, none⟩ = some (.slice (some ad2) l2.length c2) ∧ (W18.drew).cell? (ad2.add (m * 4)) = some (.int .i64 y.f0) from ⟨(blk_cell P1.out 1).trans rfl, v0, (blk_cell P1.out 2).trans rfl, y0⟩)
            refine start_ (n := 13) (S := fun w' => w'.cell? ⟨w.heap.size, 1, none⟩ = some (.slice (some ad1) l1.length c1) ∧ w'.cell? (ad1.add (k * 4)) = some (.int .i64 v.f0) ∧ w'.cell? ⟨w.heap.size, 2, none⟩ = some (.slice (some ad2) l2.length c2) ∧ w'.cell? (ad2.add (m * 4)) = some (.int .i64 y.f0)) (ds := []) (bt_ 13 0) (by kernel_rfl) rfl rfl HSS (fun hHeld => ?_)
            clear HSS y0 y1 y2 y3 v0 v1 v2 v3
            generalize W18.drew = W19 at P1 HB HLm HLk ZZ hHeld ⊢
            refine pu_ 0 (some 115) (bt_ 13 1) (by kernel_rfl) ?_
            refine tk_ 1 (some 116) (bt_ 13 3) (by kernel_rfl) hHeld ?_
            refine pu_ 2 (some 117) (bt_ 13 7) (by kernel_rfl) ?_
            refine pu_ 3 (some 118) (bt_ 13 15) (by kernel_rfl) ?_
            refine pu_ 4 (some 119) (bt_ 13 31) (by kernel_rfl) ?_
            refine tk_ 5 (some 120) (bt_ 13 63) (by kernel_rfl) hHeld ?_
            refine pu_ 6 (some 121) (bt_ 13 127) (by kernel_rfl) ?_
            refine tk_ 7 (some 122) (bt_ 13 255) (by kernel_rfl) hHeld ?_
            refine pu_ 8 (some 123) (bt_ 13 511) (by kernel_rfl) ?_
            refine pu_ 9 (some 124) (bt_ 13 1023) (by kernel_rfl) ?_
            refine pu_ 10 (some 125) (bt_ 13 2047) (by kernel_rfl) ?_
            refine tk_ 11 (some 126) (bt_ 13 4095) (by kernel_rfl) hHeld ?_
            refine pu_ 12 (some 127) (bt_ 13 8191) (by kernel_rfl) ?_
            clear hHeld
            refine done_ (by kernel_rfl) ?_
            by_cases he_ : v.f0 = y.f0
            ·have he : (v.f0 == y.f0) = true := beq_iff_eq.mpr he_
             have HE_ := Aside0.mk he_
             clear he_
             go_wp2_with (fail)
             go_ret
             exact ⟨congrArg (fun b : Bool => Ending.returned (.bool b)) (show _ = lockB s l1 l2 from (show lockB s l1 l2 = _ from ok_w HTm.out (by
              have q : l1.all (fun a => !decide (a.f0 = y.f0)) = false := by
               rw [← Bool.not_eq_true]
               intro e
               have e1 := all_rd.1 e k HTk.out
               rw [HYv.out, decide_eq_true HE_.out] at e1
               cases e1
              unfold waitB
              rw [HYy.out, q]
              simp)).symm), HB.out⟩
            ·have he : (v.f0 == y.f0) = false := beq_eq_false_iff_ne.mpr he_
             have HE_ := Aside0.mk he_
             clear he_
             go_wp2_with (fail)
             try (go_wp2_with (fail))
             go_roundw
             case rel => exact ⟨k + 1, (by first | rfl | exact congrArg (Value.int .i64) (by omega)), ⟨HTk.out⟩, HLk, ⟨fun j hj => by
              rcases Nat.lt_or_ge j k with q | q
              ·exact HIk.out j q
              ·obtain rfl : k = j := by omega
               rw [HYv.out]; exact HE_.out⟩⟩
             case measure =>
              (try rw [hwk])
              show l1.length - ((k : Int) + 1).toNat < l1.length - (k : Int).toNat
              have := HTk.out
              omega
           ·have hdl : decide (k < l1.length) = false := decide_eq_false hlt
            obtain rfl : l1.length = k := by have := HXk.out; omega
            clear hlt
            have hp1 := (blk_cell P1.out 1).trans (show _ = some (.slice A1 l1.length c1) from rfl)
            go_wp2_with (fail)
            clear hp1
            try (go_wp2_with (fail))
            go_roundw
            case rel => exact ⟨m + 1, (by first | rfl | exact congrArg (Value.int .i64) (by omega)), ⟨HTm.out⟩, HLm, ⟨fun j hj => by
             rcases Nat.lt_or_ge j m with q | q
             ·exact HIm.out j q
             ·obtain rfl : m = j := by omega
              have q2 : l1.all (fun a => !decide (a.f0 = y.f0)) = true := all_rd.2 (fun i hi => by have := HIk.out i hi; simp [this])
              unfold waitB
              rw [HYy.out, hb_, HF3.out, q2, decide_eq_true (show m = 0 by have := H0.out; omega), Bool.true_or]
              rfl⟩⟩
            case measure =>
             (try rw [hwm])
             show l2.length - ((m : Int) + 1).toNat < l2.length - (m : Int).toNat
             have := HTm.out
             omega
      ·have hdl : decide (m < l2.length) = false := decide_eq_false hlt
       obtain rfl : l2.length = m := by have := HXm.out; omega
       clear hlt
       have hp2 := (blk_cell P1.out 2).trans (show _ = some (.slice A2 l2.length c2) from rfl)
       go_wp2_with (fail)
       go_ret
       exact ⟨congrArg (fun b : Bool => Ending.returned (.bool b)) (show _ = lockB s l1 l2 from (show lockB s l1 l2 = _ from ok_t H1.out H2.out H3.out HIm.out).symm), HB.out⟩
 ·have h1d := decide_eq_false h1_
  rw [h1d]
  have H1 := Aside0.mk h1_
  clear h1d h1_
  go_wp2_with (fail)
  go_ret
  exact ⟨congrArg (fun b : Bool => Ending.returned (.bool b)) (show _ = lockB s l1 l2 from (show lockB s l1 l2 = _ from by rw [lockB_range, decide_eq_false H1.out]; simp).symm), HB.out⟩
theorem okHF (s : Int) (A1 : Option Addr) (c1 : Nat) (l1 : List S45) (A2 : Option Addr) (c2 : Nat) (l2 : List S45) (r : Bool) (w : World) (hr1 : Kd.C k45 w A1 l1.length l1) (hc1 : l1.length ≤ c1) (hr2 : Kd.C k45 w A2 l2.length l2) (hc2 : l2.length ≤ c2) (h : impl_LockOk.f s l1 l2 = some r) :
 Calls Try.prog 16 #[.agg #[.int .i64 s, .slice A1 l1.length c1, .slice A2 l2.length c2]] w fun e w' => e = .returned (.bool r) ∧ Below w.heap.size w w' := by
 unfold impl_LockOk.f at h
 split at h
 ·rename_i q
  obtain rfl := Option.some.inj h
  exact okH s A1 c1 l1 A2 c2 l2 w hr1 hc1 hr2 hc2 q.1 q.2
 ·cases h
end Go.Proofs.Ytjldpnhlegbjkaa.PA
