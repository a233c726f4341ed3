import Derived.Test.YtjldpnhlegbjkaaPAx0
import Derived.Test.YtjldpnhlegbjkaaPAx21
namespace Go.Proofs.Ytjldpnhlegbjkaa.PA
open Go.RowKit Go.Proofs.YtjldpnhlegbjkaaW.PrintWords Go.Proofs.YtjldpnhlegbjkaaW.PrintLast Go.Proofs.YtjldpnhlegbjkaaW.PrintMore
attribute [local go_sem] max2_int min2_int max_two min_two max_three min_three max_four min_four
set_option linter.unusedVariables false
set_option linter.unusedSimpArgs false

def impl_holdsOk.l0 : Nat → List (S45) → List (S45) → Int → Int → Option (Bool)
 | 0, _, _, _, _ => none
 | k + 1, x0, x5, x6, x7 => if x7 < x6 then (if 0 ≤ x7 then (if x7 < (x5.length : Int) then ((impl_Hold_ok.f ((rd_T45 x5 x7).f0) ((rd_T45 x5 x7).f1) ((rd_T45 x5 x7).f2) ((rd_T45 x5 x7).f3)).bind fun t440003 => (if t440003 = true then (if x7 > 0 then (if 0 ≤ (wrap64 (x7 - 1)) then (if (wrap64 (x7 - 1)) < (x0.length : Int) then (if ((rd_T45 x0 (wrap64 (x7 - 1))).f0) ≥ ((rd_T45 x5 x7).f0) then (some false) else (impl_holdsOk.l0 k x0 x5 x6 (wrap64 (x7 + 1)))) else (none)) else (none)) else (impl_holdsOk.l0 k x0 x5 x6 (wrap64 (x7 + 1)))) else (some false))) else (none)) else (none)) else (some true)
def impl_holdsOk.f (k : Nat) (l0 : List (S45)) : Option (Bool) := impl_holdsOk.l0 k l0 l0 (l0.length : Int) 0
theorem impl_holdsOk.mono_l : ∀ k, (∀ y0 y1 y2 y3, LeO (impl_holdsOk.l0 k y0 y1 y2 y3) (impl_holdsOk.l0 (k + 1) y0 y1 y2 y3))
 | 0 => fun _ _ _ _ r h => by simp [impl_holdsOk.l0] at h
 | k + 1 => by
  have ih0 := impl_holdsOk.mono_l k
  ·intro y0 y1 y2 y3
   unfold impl_holdsOk.l0
   repeat' first
   | (with_reducible exact ih0 _ _ _ _)
   | (with_reducible exact LeO.refl _)
   | (with_reducible exact LeO.none _)
   | (with_reducible refine LeO.ite ?_ ?_)
   | (with_reducible refine LeO.bind ?_ (fun _ => ?_))
   | exact ih0 _ _ _ _
   | exact LeO.none _
   | refine LeO.ite ?_ ?_
   | refine LeO.bind ?_ (fun _ => ?_)
theorem impl_holdsOk.mono : ∀ a0 k, LeO (impl_holdsOk.f k a0) (impl_holdsOk.f (k + 1) a0) := by
 intro a0 k
 have ih0 := impl_holdsOk.mono_l k
 unfold impl_holdsOk.f
 repeat' first
  | (with_reducible exact ih0 _ _ _ _)
  | (with_reducible exact LeO.refl _)
  | (with_reducible exact LeO.none _)
  | (with_reducible refine LeO.ite ?_ ?_)
  | (with_reducible refine LeO.bind ?_ (fun _ => ?_))
  | exact ih0 _ _ _ _
  | exact LeO.none _
  | refine LeO.ite ?_ ?_
  | refine LeO.bind ?_ (fun _ => ?_)
def impl_holdsOk.T4 : Bool × List (List Nat × List Nat) := (true, [([], []), ([0], [0]), ([1], [1]), ([2, 1], [2]), ([3], [3]), ([4, 3], [3, 4]), ([5, 3, 3], [3, 5]), ([6], [6]), ([6], [6]), ([8, 6], [6, 8]), ([7, 9, 6], [6, 7, 9]), ([10, 6], [6, 10]), ([11, 6], [6, 11]), ([6], [6]), ([13, 6], [6, 13]), ([12, 14, 6], [6, 12, 14]), ([6, 15, 3], [3, 6, 15]), ([3, 16], [3, 16])])
def impl_holdsOk.B4 : List Nat := [0, 1, 3, 7, 15, 31, 63, 127, 127, 383, 1023, 2047, 4095, 127, 8319, 32767, 65535, 131071]
theorem impl_holdsOk.tab4 : rtab .any (opsOf Try.f43 4) = impl_holdsOk.T4 := by kernel_rfl
theorem impl_holdsOk.bits4 : waitsOk impl_holdsOk.T4.2 impl_holdsOk.B4 = true := by kernel_rfl
set_option maxHeartbeats 8000000 in
set_option maxRecDepth 100000 in
theorem impl_holdsOk.calls (k : Nat) (A0 : Option Addr) (c0 : Nat) (l0 : List (S45)) (r : Bool) (w : World) (hr0 : Kd.C k45 w A0 l0.length l0) (hc0 : l0.length ≤ c0) (h : impl_holdsOk.f k l0 = some r) :
 Calls Try.prog 43 #[.slice A0 l0.length c0] w fun e w' => e = .returned (.bool r) ∧ Below w.heap.size w w' := by
 have hu45 := Try.underlying45
 have HR0 := Aside0.mk hr0
 have HC0 := Aside0.mk hc0
 clear hr0 hc0
 have HB := Aside0.mk (Below.refl w.heap.size w)
 have H : (impl_holdsOk.l0 k l0 l0 (l0.length : Int) 0) = some r := h
 clear h
 have H' := Aside0.mk H
 clear H
 go_enter Try.func43, Try.ntmps43
 go_wp2
 go_loopg [7] k (fun kq v7 w' => ∃ (x7_1 : Int), v7 = .int .i64 x7_1 ∧ Aside0 (impl_holdsOk.l0 kq l0 l0 (l0.length : Int) x7_1 = some r) ∧ Aside0 (kq ≤ k) ∧ Aside0 (Below w.heap.size w w'))
 case atStart => exact ⟨(0), (by first | rfl | (simp; done) | (simp [*]; done)), H', ⟨Nat.le_refl _⟩, ⟨hb_ HB.out⟩⟩
 case round =>
  clear H'
  obtain ⟨x7_1, rfl, HA, HK1, HB⟩ := hrel
  cases gk with
  | zero => exact absurd HA.out (by simp [impl_holdsOk.l0])
  | succ k1 =>
   have H := HA.out
   clear HA
   simp only [impl_holdsOk.l0] at H
   by_cases c2 : x7_1 < (l0.length : Int)
   ·rw [if_pos c2] at H
    have c2b0 : decide (x7_1 < (l0.length : Int)) = true := decide_eq_true c2
    clear c2
    by_cases c3 : 0 ≤ x7_1
    ·rw [if_pos c3] at H
     have c3b0 : decide (0 ≤ x7_1) = true := decide_eq_true c3
     clear c3
     by_cases c4 : x7_1 < (l0.length : Int)
     ·rw [if_pos c4] at H
      have c4b0 : decide (x7_1 < (l0.length : Int)) = true := decide_eq_true c4
      clear c4
      replace H := Option.bind_eq_some_iff.mp H
      obtain ⟨jy, A50, H⟩ := H
      replace H : (if jy = true then (if x7_1 > 0 then (if 0 ≤ (wrap64 (x7_1 - 1)) then (if (wrap64 (x7_1 - 1)) < (l0.length : Int) then (if ((rd_T45 l0 (wrap64 (x7_1 - 1))).f0) ≥ ((rd_T45 l0 x7_1).f0) then (some false) else (impl_holdsOk.l0 k1 l0 l0 (l0.length : Int) (wrap64 (x7_1 + 1)))) else (none)) else (none)) else (impl_holdsOk.l0 k1 l0 l0 (l0.length : Int) (wrap64 (x7_1 + 1)))) else (some false)) = some r := H
      have A5 := Aside0.mk A50
      clear A50
      by_cases c6 : jy = true
      ·subst c6
       have H1 : (if x7_1 > 0 then (if 0 ≤ (wrap64 (x7_1 - 1)) then (if (wrap64 (x7_1 - 1)) < (l0.length : Int) then (if ((rd_T45 l0 (wrap64 (x7_1 - 1))).f0) ≥ ((rd_T45 l0 x7_1).f0) then (some false) else (impl_holdsOk.l0 k1 l0 l0 (l0.length : Int) (wrap64 (x7_1 + 1)))) else (none)) else (none)) else (impl_holdsOk.l0 k1 l0 l0 (l0.length : Int) (wrap64 (x7_1 + 1)))) = some r := by rw [if_pos rfl] at H; exact H
       clear H
       have H := H1
       clear H1
       by_cases c7 : x7_1 > 0
       ·rw [if_pos c7] at H
        have c7b0 : decide (0 < x7_1) = true := decide_eq_true c7
        clear c7
        obtain ⟨ji8, hji8⟩ : ∃ j_ : Int, (wrap64 (x7_1 - 1)) = j_ := ⟨_, rfl⟩
        replace H : (if 0 ≤ (ji8) then (if (ji8) < (l0.length : Int) then (if ((rd_T45 l0 (ji8)).f0) ≥ ((rd_T45 l0 x7_1).f0) then (some false) else (impl_holdsOk.l0 k1 l0 l0 (l0.length : Int) (wrap64 (x7_1 + 1)))) else (none)) else (none)) = some r := by first | (rw [hji8] at H; exact H) | (simp only [hji8] at H ⊢; exact H)
        (try rw [hji8] at A5)
        have hji8w : (IntKind.i64.wrap (x7_1 - 1)) = ji8 := (i64_w _).trans hji8
        by_cases c9 : 0 ≤ (ji8)
        ·rw [if_pos c9] at H
         have c9b0 : decide (0 ≤ (ji8)) = true := decide_eq_true c9
         clear c9
         by_cases c10 : (ji8) < (l0.length : Int)
         ·rw [if_pos c10] at H
          have c10b0 : decide ((ji8) < (l0.length : Int)) = true := decide_eq_true c10
          clear c10
          by_cases c11 : ((rd_T45 l0 (ji8)).f0) ≥ ((rd_T45 l0 x7_1).f0)
          ·rw [if_pos c11] at H
           have c11b0 : decide (((rd_T45 l0 x7_1).f0) ≤ ((rd_T45 l0 (ji8)).f0)) = true := decide_eq_true c11
           clear c11
           obtain rfl := Option.some.inj H
           have ji : 0 ≤ (x7_1 : Int) := of_decide_eq_true (by first | (with_reducible assumption) | assumption)
           have je : x7_1 < (l0.length : Int) := of_decide_eq_true (by first | (with_reducible assumption) | assumption)
           obtain ⟨jc, jr, jd, jh, jf, jg⟩ := at_T45 HR0.out x7_1 ji je
           cases jr
           replace jd := (HB.out.cell (World.block_lt_of_cell? w _ jd)).trans jd
           replace jh := (HB.out.cell (World.block_lt_of_cell? w _ jh)).trans jh
           replace jf := (HB.out.cell (World.block_lt_of_cell? w _ jf)).trans jf
           replace jg := (HB.out.cell (World.block_lt_of_cell? w _ jg)).trans jg
           replace ji := eq_true ji
           replace je := eq_true je
           try go_wp2_with (first | ((with_reducible refine gate_dst (N := 4) rfl ?_); refine box_event ?hg (N := 4) ?hd (cs := #[.int .i64 0, .int .i64 0, .bool false, .bool false]) (t := 45) ?hr ?_; (case hd => rfl); (case hg => rfl); (case hr => first | (go_simp; done) | (go_simp; rfl)); intro jb hg w12 hbox hb; have n0_ := Aside0.mk (below_step (hb_ HB.out) hb); have n1_ := Aside0.mk (hbox); have n2_ := Aside0.mk ((by rw [hg]; exact (below_size (hb_ HB.out)) : w.heap.size ≤ jb)); have n3_ := Aside0.mk ((by rw [hg]; exact (below_size (hb_ HB.out)) : w.heap.size ≤ jb)); clear HB; have HB := n0_; have ja := n1_; have jv := n2_; have ju := n3_; clear n0_ n1_ n2_ n3_; clear hb hbox hg; have hcz13_0 : w12.cell? ⟨jb, 0, none⟩ = some (.int .i64 0) := (blk_cell ja.out 0).trans rfl; have hcz13_1 : w12.cell? ⟨jb, 1, none⟩ = some (.int .i64 0) := (blk_cell ja.out 1).trans rfl; have hcz13_2 : w12.cell? ⟨jb, 2, none⟩ = some (.bool false) := (blk_cell ja.out 2).trans rfl; have hcz13_3 : w12.cell? ⟨jb, 3, none⟩ = some (.bool false) := (blk_cell ja.out 3).trans rfl; have hfz13_0 := blk_frozen ja.out 0; have hfz13_1 := blk_frozen ja.out 1; have hfz13_2 := blk_frozen ja.out 2; have hfz13_3 := blk_frozen ja.out 3))
           have n0_ : Aside0 (((((w12.setCell ⟨jb, 0, none⟩ (.int .i64 ((rd_T45 l0 x7_1).f0))).setCell ⟨jb, 1, none⟩ (.int .i64 ((rd_T45 l0 x7_1).f1))).setCell ⟨jb, 2, none⟩ (.bool ((rd_T45 l0 x7_1).f2))).setCell ⟨jb, 3, none⟩ (.bool ((rd_T45 l0 x7_1).f3))).heap[jb]? = some (.cells #[.int .i64 ((rd_T45 l0 x7_1).f0), .int .i64 ((rd_T45 l0 x7_1).f1), .bool ((rd_T45 l0 x7_1).f2), .bool ((rd_T45 l0 x7_1).f3)] 45 (0, 0))) := ⟨by (with_reducible repeat (first | refine blk_drewN ?_ _ | refine blk_drew ?_ | refine blk_alloc ?_ _)); refine blk_put (cs := #[.int .i64 ((rd_T45 l0 x7_1).f0), .int .i64 ((rd_T45 l0 x7_1).f1), .bool ((rd_T45 l0 x7_1).f2), .bool false]) ?_ 3 _ rfl; (with_reducible repeat (first | refine blk_drewN ?_ _ | refine blk_drew ?_ | refine blk_alloc ?_ _)); refine blk_put (cs := #[.int .i64 ((rd_T45 l0 x7_1).f0), .int .i64 ((rd_T45 l0 x7_1).f1), .bool false, .bool false]) ?_ 2 _ rfl; (with_reducible repeat (first | refine blk_drewN ?_ _ | refine blk_drew ?_ | refine blk_alloc ?_ _)); refine blk_put (cs := #[.int .i64 ((rd_T45 l0 x7_1).f0), .int .i64 0, .bool false, .bool false]) ?_ 1 _ rfl; (with_reducible repeat (first | refine blk_drewN ?_ _ | refine blk_drew ?_ | refine blk_alloc ?_ _)); refine blk_put (cs := #[.int .i64 0, .int .i64 0, .bool false, .bool false]) ?_ 0 _ rfl; (with_reducible repeat (first | refine blk_drewN ?_ _ | refine blk_drew ?_ | refine blk_alloc ?_ _)); exact ja.out⟩
           have n1_ : Aside0 (Below w.heap.size w ((((w12.setCell ⟨jb, 0, none⟩ (.int .i64 ((rd_T45 l0 x7_1).f0))).setCell ⟨jb, 1, none⟩ (.int .i64 ((rd_T45 l0 x7_1).f1))).setCell ⟨jb, 2, none⟩ (.bool ((rd_T45 l0 x7_1).f2))).setCell ⟨jb, 3, none⟩ (.bool ((rd_T45 l0 x7_1).f3)))) := ⟨hb_ HB.out⟩
           (try clear ja)
           (try clear HB)
           generalize ((((w12.setCell ⟨jb, 0, none⟩ (.int .i64 ((rd_T45 l0 x7_1).f0))).setCell ⟨jb, 1, none⟩ (.int .i64 ((rd_T45 l0 x7_1).f1))).setCell ⟨jb, 2, none⟩ (.bool ((rd_T45 l0 x7_1).f2))).setCell ⟨jb, 3, none⟩ (.bool ((rd_T45 l0 x7_1).f3))) = w14 at n0_ n1_ ⊢
           have ja := n0_
           have HB := n1_
           clear n0_ n1_
           have n0_ := Aside0.mk (blk_drew ja.out)
           have n1_ := Aside0.mk (below_drew1 HB.out)
           clear ja
           clear HB
           have ja := n0_
           have HB := n1_
           clear n0_ n1_
           have js : 0 ≤ ((ji8) : Int) := of_decide_eq_true (by first | (with_reducible assumption) | assumption)
           have jt : (ji8) < (l0.length : Int) := of_decide_eq_true (by first | (with_reducible assumption) | assumption)
           obtain ⟨jw, jx, jj, jm, jk, jl⟩ := at_T45 HR0.out (ji8) js jt
           have jo := jl
           have jp := jk
           have jq := jm
           have jn := jj
           obtain rfl : jc = jw := (by injection jx)
           replace jj := (HB.out.cell (World.block_lt_of_cell? w _ jj)).trans jj
           replace jm := (HB.out.cell (World.block_lt_of_cell? w _ jm)).trans jm
           replace jk := (HB.out.cell (World.block_lt_of_cell? w _ jk)).trans jk
           replace jl := (HB.out.cell (World.block_lt_of_cell? w _ jl)).trans jl
           replace js := eq_true js
           replace jt := eq_true jt
           refine start_ (n := 18) (S := fun w' => w'.cell? ⟨jb, 0, none⟩ = some (.int .i64 ((rd_T45 l0 x7_1).f0)) ∧ w'.cell? ⟨jb, 1, none⟩ = some (.int .i64 ((rd_T45 l0 x7_1).f1)) ∧ w'.cell? ⟨jb, 2, none⟩ = some (.bool ((rd_T45 l0 x7_1).f2)) ∧ w'.cell? ⟨jb, 3, none⟩ = some (.bool ((rd_T45 l0 x7_1).f3)) ∧ w'.cell? (jc.add (((ji8)).toNat * 4)) = some (.int .i64 ((rd_T45 l0 (ji8)).f0)) ∧ w'.cell? ⟨(jc.add (((ji8)).toNat * 4)).block, (jc.add (((ji8)).toNat * 4)).off + 1, none⟩ = some (.int .i64 ((rd_T45 l0 (ji8)).f1)) ∧ w'.cell? ⟨(jc.add (((ji8)).toNat * 4)).block, (jc.add (((ji8)).toNat * 4)).off + 2, none⟩ = some (.bool ((rd_T45 l0 (ji8)).f2)) ∧ w'.cell? ⟨(jc.add (((ji8)).toNat * 4)).block, (jc.add (((ji8)).toNat * 4)).off + 3, none⟩ = some (.bool ((rd_T45 l0 (ji8)).f3))) (ds := []) (bt_ 18 0) (by kernel_rfl) rfl rfl ⟨(blk_cell ja.out 0).trans rfl, (blk_cell ja.out 1).trans rfl, (blk_cell ja.out 2).trans rfl, (blk_cell ja.out 3).trans rfl, ((HB.out.cell (World.block_lt_of_cell? w _ jn)).trans jn), ((HB.out.cell (World.block_lt_of_cell? w _ jq)).trans jq), ((HB.out.cell (World.block_lt_of_cell? w _ jp)).trans jp), ((HB.out.cell (World.block_lt_of_cell? w _ jo)).trans jo)⟩ (fun hHeld => ?_); refine with_tabW impl_holdsOk.tab4 impl_holdsOk.bits4 (fun HT_ HW_ => ?_)
           generalize w14.drew = w15 at ja HB jj jm jk jl hHeld ⊢
           refine tk_ 0 (some 12) (bt_ 18 1) (take_ofW HT_.out HW_.out (by kernel_rfl)) hHeld ?_
           refine one_ (i := 1) (N := some 13) (bt_ 18 3) rfl rfl (one_of HT_.out (by kernel_rfl)) (by decide) (fun K hK => ?_)
           refine goes_ Try.func61 (by kernel_rfl) rfl #[.agg #[.int .i64 ((rd_T45 l0 x7_1).f0), .int .i64 ((rd_T45 l0 x7_1).f1), .bool ((rd_T45 l0 x7_1).f2), .bool ((rd_T45 l0 x7_1).f3)]] (by rfl) rfl rfl (by (try simp only [List.map_toArray, List.map_cons, List.map_nil]); first | done | rfl | (simp only [List.length_drop, List.length_take]; rfl)) ?_
           with_reducible refine (impl_Hold_ok.calls ((rd_T45 l0 x7_1).f0) ((rd_T45 l0 x7_1).f1) ((rd_T45 l0 x7_1).f2) ((rd_T45 l0 x7_1).f3) true _ A5.out).mono ?_
           rintro e w16 ⟨rfl, hb⟩
           refine ⟨_, rfl, ?_⟩
           have n0_ := Aside0.mk (blk_below (bk_ ja.out) hb)
           have n1_ := Aside0.mk (below_step (hb_ HB.out) hb)
           clear ja
           clear HB
           have ja := n0_
           have HB := n1_
           clear n0_ n1_
           (try clear hb)
           (try clear hb2)
           (try clear hk)
           (try clear hi)
           refine hK.out _ _ ⟨(blk_cell ja.out 0).trans rfl, (blk_cell ja.out 1).trans rfl, (blk_cell ja.out 2).trans rfl, (blk_cell ja.out 3).trans rfl, ((HB.out.cell (World.block_lt_of_cell? w _ jn)).trans jn), ((HB.out.cell (World.block_lt_of_cell? w _ jq)).trans jq), ((HB.out.cell (World.block_lt_of_cell? w _ jp)).trans jp), ((HB.out.cell (World.block_lt_of_cell? w _ jo)).trans jo)⟩ (fun hHeld => ?_)
           clear hK K
           refine norm_ (a' := ?_) ?_ ?_
           rotate_left
           ·show Act.put _ (some 13) _ = _
            simp only [Act.put, List.setIfInBounds_toArray, List.set_cons_zero, List.set_cons_succ, i64_w, i32_w]
            rfl
           refine pu_ 2 (some 14) (bt_ 18 7) (any_of HT_.out (by kernel_rfl)) ?_
           refine pu_ 3 (some 15) (bt_ 18 15) (any_of HT_.out (by kernel_rfl)) ?_
           refine pu_ 4 (some 16) (bt_ 18 31) (any_of HT_.out (by kernel_rfl)) ?_
           refine pu_ 5 (some 17) (bt_ 18 63) (any_of HT_.out (by kernel_rfl)) ?_
           refine pu_ 6 (some 18) (bt_ 18 127) (any_of HT_.out (by kernel_rfl)) ?_
           refine pu_ 7 (some 19) (bt_ 18 255) (any_of HT_.out (by kernel_rfl)) ?_
           refine pu_ 8 (some 20) (bt_ 18 511) (any_of HT_.out (by kernel_rfl)) ?_
           refine pu_ 9 (some 21) (bt_ 18 1023) (any_of HT_.out (by kernel_rfl)) ?_
           refine pu_ 10 (some 22) (bt_ 18 2047) (any_of HT_.out (by kernel_rfl)) ?_
           refine pu_ 11 (some 23) (bt_ 18 4095) (any_of HT_.out (by kernel_rfl)) ?_
           refine pu_ 13 (some 25) (bt_ 18 12287) (any_of HT_.out (by kernel_rfl)) ?_
           refine tk_ 12 (some 24) (bt_ 18 16383) (take_ofW HT_.out HW_.out (by kernel_rfl)) hHeld ?_
           refine tk_ 14 (some 26) (bt_ 18 32767) (take_ofW HT_.out HW_.out (by kernel_rfl)) hHeld ?_
           refine pu_ 15 (some 27) (bt_ 18 65535) (any_of HT_.out (by kernel_rfl)) ?_
           refine pu_ 16 (some 28) (bt_ 18 131071) (any_of HT_.out (by kernel_rfl)) ?_
           refine pu_ 17 (some 29) (bt_ 18 262143) (any_of HT_.out (by kernel_rfl)) ?_
           refine done_ (done_of HT_.out (by kernel_rfl)) ?_
           try go_wp2
           go_ret
           exact ⟨by first | rfl | (simp [errW_none, errW_some] <;> rfl) | (simp only [← hji8]; first | rfl | (simp [errW_none, errW_some] <;> rfl)) | (simp [*, errW_none, errW_some] <;> rfl), by repeat (first | (with_reducible first | exact HB.out | apply below_alloc | apply pw_below_drewN | apply below_drew1 | refine below_set ?_ ju.out) | exact HB.out)⟩
          ·rw [if_neg c11] at H
           have c11b0 : decide (((rd_T45 l0 x7_1).f0) ≤ ((rd_T45 l0 (ji8)).f0)) = false := decide_eq_false c11
           clear c11
           have H' := Aside0.mk H
           clear H
           have ji : 0 ≤ (x7_1 : Int) := of_decide_eq_true (by first | (with_reducible assumption) | assumption)
           have je : x7_1 < (l0.length : Int) := of_decide_eq_true (by first | (with_reducible assumption) | assumption)
           obtain ⟨jc, jr, jd, jh, jf, jg⟩ := at_T45 HR0.out x7_1 ji je
           cases jr
           replace jd := (HB.out.cell (World.block_lt_of_cell? w _ jd)).trans jd
           replace jh := (HB.out.cell (World.block_lt_of_cell? w _ jh)).trans jh
           replace jf := (HB.out.cell (World.block_lt_of_cell? w _ jf)).trans jf
           replace jg := (HB.out.cell (World.block_lt_of_cell? w _ jg)).trans jg
           replace ji := eq_true ji
           replace je := eq_true je
           try go_wp2_with (first | ((with_reducible refine gate_dst (N := 4) rfl ?_); refine box_event ?hg (N := 4) ?hd (cs := #[.int .i64 0, .int .i64 0, .bool false, .bool false]) (t := 45) ?hr ?_; (case hd => rfl); (case hg => rfl); (case hr => first | (go_simp; done) | (go_simp; rfl)); intro jb hg w17 hbox hb; have n0_ := Aside0.mk (below_step (hb_ HB.out) hb); have n1_ := Aside0.mk (hbox); have n2_ := Aside0.mk ((by rw [hg]; exact (below_size (hb_ HB.out)) : w.heap.size ≤ jb)); have n3_ := Aside0.mk ((by rw [hg]; exact (below_size (hb_ HB.out)) : w.heap.size ≤ jb)); clear HB; have HB := n0_; have ja := n1_; have jv := n2_; have ju := n3_; clear n0_ n1_ n2_ n3_; clear hb hbox hg; have hcz18_0 : w17.cell? ⟨jb, 0, none⟩ = some (.int .i64 0) := (blk_cell ja.out 0).trans rfl; have hcz18_1 : w17.cell? ⟨jb, 1, none⟩ = some (.int .i64 0) := (blk_cell ja.out 1).trans rfl; have hcz18_2 : w17.cell? ⟨jb, 2, none⟩ = some (.bool false) := (blk_cell ja.out 2).trans rfl; have hcz18_3 : w17.cell? ⟨jb, 3, none⟩ = some (.bool false) := (blk_cell ja.out 3).trans rfl; have hfz18_0 := blk_frozen ja.out 0; have hfz18_1 := blk_frozen ja.out 1; have hfz18_2 := blk_frozen ja.out 2; have hfz18_3 := blk_frozen ja.out 3))
           have n0_ : Aside0 (((((w17.setCell ⟨jb, 0, none⟩ (.int .i64 ((rd_T45 l0 x7_1).f0))).setCell ⟨jb, 1, none⟩ (.int .i64 ((rd_T45 l0 x7_1).f1))).setCell ⟨jb, 2, none⟩ (.bool ((rd_T45 l0 x7_1).f2))).setCell ⟨jb, 3, none⟩ (.bool ((rd_T45 l0 x7_1).f3))).heap[jb]? = some (.cells #[.int .i64 ((rd_T45 l0 x7_1).f0), .int .i64 ((rd_T45 l0 x7_1).f1), .bool ((rd_T45 l0 x7_1).f2), .bool ((rd_T45 l0 x7_1).f3)] 45 (0, 0))) := ⟨by (with_reducible repeat (first | refine blk_drewN ?_ _ | refine blk_drew ?_ | refine blk_alloc ?_ _)); refine blk_put (cs := #[.int .i64 ((rd_T45 l0 x7_1).f0), .int .i64 ((rd_T45 l0 x7_1).f1), .bool ((rd_T45 l0 x7_1).f2), .bool false]) ?_ 3 _ rfl; (with_reducible repeat (first | refine blk_drewN ?_ _ | refine blk_drew ?_ | refine blk_alloc ?_ _)); refine blk_put (cs := #[.int .i64 ((rd_T45 l0 x7_1).f0), .int .i64 ((rd_T45 l0 x7_1).f1), .bool false, .bool false]) ?_ 2 _ rfl; (with_reducible repeat (first | refine blk_drewN ?_ _ | refine blk_drew ?_ | refine blk_alloc ?_ _)); refine blk_put (cs := #[.int .i64 ((rd_T45 l0 x7_1).f0), .int .i64 0, .bool false, .bool false]) ?_ 1 _ rfl; (with_reducible repeat (first | refine blk_drewN ?_ _ | refine blk_drew ?_ | refine blk_alloc ?_ _)); refine blk_put (cs := #[.int .i64 0, .int .i64 0, .bool false, .bool false]) ?_ 0 _ rfl; (with_reducible repeat (first | refine blk_drewN ?_ _ | refine blk_drew ?_ | refine blk_alloc ?_ _)); exact ja.out⟩
           have n1_ : Aside0 (Below w.heap.size w ((((w17.setCell ⟨jb, 0, none⟩ (.int .i64 ((rd_T45 l0 x7_1).f0))).setCell ⟨jb, 1, none⟩ (.int .i64 ((rd_T45 l0 x7_1).f1))).setCell ⟨jb, 2, none⟩ (.bool ((rd_T45 l0 x7_1).f2))).setCell ⟨jb, 3, none⟩ (.bool ((rd_T45 l0 x7_1).f3)))) := ⟨hb_ HB.out⟩
           (try clear ja)
           (try clear HB)
           generalize ((((w17.setCell ⟨jb, 0, none⟩ (.int .i64 ((rd_T45 l0 x7_1).f0))).setCell ⟨jb, 1, none⟩ (.int .i64 ((rd_T45 l0 x7_1).f1))).setCell ⟨jb, 2, none⟩ (.bool ((rd_T45 l0 x7_1).f2))).setCell ⟨jb, 3, none⟩ (.bool ((rd_T45 l0 x7_1).f3))) = w19 at n0_ n1_ ⊢
           have ja := n0_
           have HB := n1_
           clear n0_ n1_
           have n0_ := Aside0.mk (blk_drew ja.out)
           have n1_ := Aside0.mk (below_drew1 HB.out)
           clear ja
           clear HB
           have ja := n0_
           have HB := n1_
           clear n0_ n1_
           have js : 0 ≤ ((ji8) : Int) := of_decide_eq_true (by first | (with_reducible assumption) | assumption)
           have jt : (ji8) < (l0.length : Int) := of_decide_eq_true (by first | (with_reducible assumption) | assumption)
           obtain ⟨jw, jx, jj, jm, jk, jl⟩ := at_T45 HR0.out (ji8) js jt
           have jo := jl
           have jp := jk
           have jq := jm
           have jn := jj
           obtain rfl : jc = jw := (by injection jx)
           replace jj := (HB.out.cell (World.block_lt_of_cell? w _ jj)).trans jj
           replace jm := (HB.out.cell (World.block_lt_of_cell? w _ jm)).trans jm
           replace jk := (HB.out.cell (World.block_lt_of_cell? w _ jk)).trans jk
           replace jl := (HB.out.cell (World.block_lt_of_cell? w _ jl)).trans jl
           replace js := eq_true js
           replace jt := eq_true jt
           refine start_ (n := 18) (S := fun w' => w'.cell? ⟨jb, 0, none⟩ = some (.int .i64 ((rd_T45 l0 x7_1).f0)) ∧ w'.cell? ⟨jb, 1, none⟩ = some (.int .i64 ((rd_T45 l0 x7_1).f1)) ∧ w'.cell? ⟨jb, 2, none⟩ = some (.bool ((rd_T45 l0 x7_1).f2)) ∧ w'.cell? ⟨jb, 3, none⟩ = some (.bool ((rd_T45 l0 x7_1).f3)) ∧ w'.cell? (jc.add (((ji8)).toNat * 4)) = some (.int .i64 ((rd_T45 l0 (ji8)).f0)) ∧ w'.cell? ⟨(jc.add (((ji8)).toNat * 4)).block, (jc.add (((ji8)).toNat * 4)).off + 1, none⟩ = some (.int .i64 ((rd_T45 l0 (ji8)).f1)) ∧ w'.cell? ⟨(jc.add (((ji8)).toNat * 4)).block, (jc.add (((ji8)).toNat * 4)).off + 2, none⟩ = some (.bool ((rd_T45 l0 (ji8)).f2)) ∧ w'.cell? ⟨(jc.add (((ji8)).toNat * 4)).block, (jc.add (((ji8)).toNat * 4)).off + 3, none⟩ = some (.bool ((rd_T45 l0 (ji8)).f3))) (ds := []) (bt_ 18 0) (by kernel_rfl) rfl rfl ⟨(blk_cell ja.out 0).trans rfl, (blk_cell ja.out 1).trans rfl, (blk_cell ja.out 2).trans rfl, (blk_cell ja.out 3).trans rfl, ((HB.out.cell (World.block_lt_of_cell? w _ jn)).trans jn), ((HB.out.cell (World.block_lt_of_cell? w _ jq)).trans jq), ((HB.out.cell (World.block_lt_of_cell? w _ jp)).trans jp), ((HB.out.cell (World.block_lt_of_cell? w _ jo)).trans jo)⟩ (fun hHeld => ?_); refine with_tabW impl_holdsOk.tab4 impl_holdsOk.bits4 (fun HT_ HW_ => ?_)
           generalize w19.drew = w20 at ja HB jj jm jk jl hHeld ⊢
           refine tk_ 0 (some 12) (bt_ 18 1) (take_ofW HT_.out HW_.out (by kernel_rfl)) hHeld ?_
           refine one_ (i := 1) (N := some 13) (bt_ 18 3) rfl rfl (one_of HT_.out (by kernel_rfl)) (by decide) (fun K hK => ?_)
           refine goes_ Try.func61 (by kernel_rfl) rfl #[.agg #[.int .i64 ((rd_T45 l0 x7_1).f0), .int .i64 ((rd_T45 l0 x7_1).f1), .bool ((rd_T45 l0 x7_1).f2), .bool ((rd_T45 l0 x7_1).f3)]] (by rfl) rfl rfl (by (try simp only [List.map_toArray, List.map_cons, List.map_nil]); first | done | rfl | (simp only [List.length_drop, List.length_take]; rfl)) ?_
           with_reducible refine (impl_Hold_ok.calls ((rd_T45 l0 x7_1).f0) ((rd_T45 l0 x7_1).f1) ((rd_T45 l0 x7_1).f2) ((rd_T45 l0 x7_1).f3) true _ A5.out).mono ?_
           rintro e w21 ⟨rfl, hb⟩
           refine ⟨_, rfl, ?_⟩
           have n0_ := Aside0.mk (blk_below (bk_ ja.out) hb)
           have n1_ := Aside0.mk (below_step (hb_ HB.out) hb)
           clear ja
           clear HB
           have ja := n0_
           have HB := n1_
           clear n0_ n1_
           (try clear hb)
           (try clear hb2)
           (try clear hk)
           (try clear hi)
           refine hK.out _ _ ⟨(blk_cell ja.out 0).trans rfl, (blk_cell ja.out 1).trans rfl, (blk_cell ja.out 2).trans rfl, (blk_cell ja.out 3).trans rfl, ((HB.out.cell (World.block_lt_of_cell? w _ jn)).trans jn), ((HB.out.cell (World.block_lt_of_cell? w _ jq)).trans jq), ((HB.out.cell (World.block_lt_of_cell? w _ jp)).trans jp), ((HB.out.cell (World.block_lt_of_cell? w _ jo)).trans jo)⟩ (fun hHeld => ?_)
           clear hK K
           refine norm_ (a' := ?_) ?_ ?_
           rotate_left
           ·show Act.put _ (some 13) _ = _
            simp only [Act.put, List.setIfInBounds_toArray, List.set_cons_zero, List.set_cons_succ, i64_w, i32_w]
            rfl
           refine pu_ 2 (some 14) (bt_ 18 7) (any_of HT_.out (by kernel_rfl)) ?_
           refine pu_ 3 (some 15) (bt_ 18 15) (any_of HT_.out (by kernel_rfl)) ?_
           refine pu_ 4 (some 16) (bt_ 18 31) (any_of HT_.out (by kernel_rfl)) ?_
           refine pu_ 5 (some 17) (bt_ 18 63) (any_of HT_.out (by kernel_rfl)) ?_
           refine pu_ 6 (some 18) (bt_ 18 127) (any_of HT_.out (by kernel_rfl)) ?_
           refine pu_ 7 (some 19) (bt_ 18 255) (any_of HT_.out (by kernel_rfl)) ?_
           refine pu_ 8 (some 20) (bt_ 18 511) (any_of HT_.out (by kernel_rfl)) ?_
           refine pu_ 9 (some 21) (bt_ 18 1023) (any_of HT_.out (by kernel_rfl)) ?_
           refine pu_ 10 (some 22) (bt_ 18 2047) (any_of HT_.out (by kernel_rfl)) ?_
           refine pu_ 11 (some 23) (bt_ 18 4095) (any_of HT_.out (by kernel_rfl)) ?_
           refine pu_ 13 (some 25) (bt_ 18 12287) (any_of HT_.out (by kernel_rfl)) ?_
           refine tk_ 12 (some 24) (bt_ 18 16383) (take_ofW HT_.out HW_.out (by kernel_rfl)) hHeld ?_
           refine tk_ 14 (some 26) (bt_ 18 32767) (take_ofW HT_.out HW_.out (by kernel_rfl)) hHeld ?_
           refine pu_ 15 (some 27) (bt_ 18 65535) (any_of HT_.out (by kernel_rfl)) ?_
           refine pu_ 16 (some 28) (bt_ 18 131071) (any_of HT_.out (by kernel_rfl)) ?_
           refine pu_ 17 (some 29) (bt_ 18 262143) (any_of HT_.out (by kernel_rfl)) ?_
           refine done_ (done_of HT_.out (by kernel_rfl)) ?_
           try go_wp2
           go_roundg k1
           case measure => have := HK1.out; omega
           case rel => exact ⟨(wrap64 (x7_1 + 1)), (by first | rfl | (simp; done) | (simp [*]; done)), H', ⟨by have := HK1.out; omega⟩, ⟨hb_ HB.out⟩⟩
         ·rw [if_neg c10] at H
          exact absurd H (by simp)
        ·rw [if_neg c9] at H
         exact absurd H (by simp)
       ·rw [if_neg c7] at H
        have c7b0 : decide (0 < x7_1) = false := decide_eq_false c7
        clear c7
        have H' := Aside0.mk H
        clear H
        have ji : 0 ≤ (x7_1 : Int) := of_decide_eq_true (by first | (with_reducible assumption) | assumption)
        have je : x7_1 < (l0.length : Int) := of_decide_eq_true (by first | (with_reducible assumption) | assumption)
        obtain ⟨jc, jr, jd, jh, jf, jg⟩ := at_T45 HR0.out x7_1 ji je
        cases jr
        replace jd := (HB.out.cell (World.block_lt_of_cell? w _ jd)).trans jd
        replace jh := (HB.out.cell (World.block_lt_of_cell? w _ jh)).trans jh
        replace jf := (HB.out.cell (World.block_lt_of_cell? w _ jf)).trans jf
        replace jg := (HB.out.cell (World.block_lt_of_cell? w _ jg)).trans jg
        replace ji := eq_true ji
        replace je := eq_true je
        try go_wp2_with (first | ((with_reducible refine gate_dst (N := 4) rfl ?_); refine box_event ?hg (N := 4) ?hd (cs := #[.int .i64 0, .int .i64 0, .bool false, .bool false]) (t := 45) ?hr ?_; (case hd => rfl); (case hg => rfl); (case hr => first | (go_simp; done) | (go_simp; rfl)); intro jb hg w22 hbox hb; have n0_ := Aside0.mk (below_step (hb_ HB.out) hb); have n1_ := Aside0.mk (hbox); have n2_ := Aside0.mk ((by rw [hg]; exact (below_size (hb_ HB.out)) : w.heap.size ≤ jb)); have n3_ := Aside0.mk ((by rw [hg]; exact (below_size (hb_ HB.out)) : w.heap.size ≤ jb)); clear HB; have HB := n0_; have ja := n1_; have jv := n2_; have ju := n3_; clear n0_ n1_ n2_ n3_; clear hb hbox hg; have hcz23_0 : w22.cell? ⟨jb, 0, none⟩ = some (.int .i64 0) := (blk_cell ja.out 0).trans rfl; have hcz23_1 : w22.cell? ⟨jb, 1, none⟩ = some (.int .i64 0) := (blk_cell ja.out 1).trans rfl; have hcz23_2 : w22.cell? ⟨jb, 2, none⟩ = some (.bool false) := (blk_cell ja.out 2).trans rfl; have hcz23_3 : w22.cell? ⟨jb, 3, none⟩ = some (.bool false) := (blk_cell ja.out 3).trans rfl; have hfz23_0 := blk_frozen ja.out 0; have hfz23_1 := blk_frozen ja.out 1; have hfz23_2 := blk_frozen ja.out 2; have hfz23_3 := blk_frozen ja.out 3))
        have n0_ : Aside0 (((((w22.setCell ⟨jb, 0, none⟩ (.int .i64 ((rd_T45 l0 x7_1).f0))).setCell ⟨jb, 1, none⟩ (.int .i64 ((rd_T45 l0 x7_1).f1))).setCell ⟨jb, 2, none⟩ (.bool ((rd_T45 l0 x7_1).f2))).setCell ⟨jb, 3, none⟩ (.bool ((rd_T45 l0 x7_1).f3))).heap[jb]? = some (.cells #[.int .i64 ((rd_T45 l0 x7_1).f0), .int .i64 ((rd_T45 l0 x7_1).f1), .bool ((rd_T45 l0 x7_1).f2), .bool ((rd_T45 l0 x7_1).f3)] 45 (0, 0))) := ⟨by (with_reducible repeat (first | refine blk_drewN ?_ _ | refine blk_drew ?_ | refine blk_alloc ?_ _)); refine blk_put (cs := #[.int .i64 ((rd_T45 l0 x7_1).f0), .int .i64 ((rd_T45 l0 x7_1).f1), .bool ((rd_T45 l0 x7_1).f2), .bool false]) ?_ 3 _ rfl; (with_reducible repeat (first | refine blk_drewN ?_ _ | refine blk_drew ?_ | refine blk_alloc ?_ _)); refine blk_put (cs := #[.int .i64 ((rd_T45 l0 x7_1).f0), .int .i64 ((rd_T45 l0 x7_1).f1), .bool false, .bool false]) ?_ 2 _ rfl; (with_reducible repeat (first | refine blk_drewN ?_ _ | refine blk_drew ?_ | refine blk_alloc ?_ _)); refine blk_put (cs := #[.int .i64 ((rd_T45 l0 x7_1).f0), .int .i64 0, .bool false, .bool false]) ?_ 1 _ rfl; (with_reducible repeat (first | refine blk_drewN ?_ _ | refine blk_drew ?_ | refine blk_alloc ?_ _)); refine blk_put (cs := #[.int .i64 0, .int .i64 0, .bool false, .bool false]) ?_ 0 _ rfl; (with_reducible repeat (first | refine blk_drewN ?_ _ | refine blk_drew ?_ | refine blk_alloc ?_ _)); exact ja.out⟩
        have n1_ : Aside0 (Below w.heap.size w ((((w22.setCell ⟨jb, 0, none⟩ (.int .i64 ((rd_T45 l0 x7_1).f0))).setCell ⟨jb, 1, none⟩ (.int .i64 ((rd_T45 l0 x7_1).f1))).setCell ⟨jb, 2, none⟩ (.bool ((rd_T45 l0 x7_1).f2))).setCell ⟨jb, 3, none⟩ (.bool ((rd_T45 l0 x7_1).f3)))) := ⟨hb_ HB.out⟩
        (try clear ja)
        (try clear HB)
        generalize ((((w22.setCell ⟨jb, 0, none⟩ (.int .i64 ((rd_T45 l0 x7_1).f0))).setCell ⟨jb, 1, none⟩ (.int .i64 ((rd_T45 l0 x7_1).f1))).setCell ⟨jb, 2, none⟩ (.bool ((rd_T45 l0 x7_1).f2))).setCell ⟨jb, 3, none⟩ (.bool ((rd_T45 l0 x7_1).f3))) = w24 at n0_ n1_ ⊢
        have ja := n0_
        have HB := n1_
        clear n0_ n1_
        have n0_ := Aside0.mk (blk_drew ja.out)
        have n1_ := Aside0.mk (below_drew1 HB.out)
        clear ja
        clear HB
        have ja := n0_
        have HB := n1_
        clear n0_ n1_
        refine start_ (n := 18) (S := fun w' => w'.cell? ⟨jb, 0, none⟩ = some (.int .i64 ((rd_T45 l0 x7_1).f0)) ∧ w'.cell? ⟨jb, 1, none⟩ = some (.int .i64 ((rd_T45 l0 x7_1).f1)) ∧ w'.cell? ⟨jb, 2, none⟩ = some (.bool ((rd_T45 l0 x7_1).f2)) ∧ w'.cell? ⟨jb, 3, none⟩ = some (.bool ((rd_T45 l0 x7_1).f3))) (ds := []) (bt_ 18 0) (by kernel_rfl) rfl rfl ⟨(blk_cell ja.out 0).trans rfl, (blk_cell ja.out 1).trans rfl, (blk_cell ja.out 2).trans rfl, (blk_cell ja.out 3).trans rfl⟩ (fun hHeld => ?_); refine with_tabW impl_holdsOk.tab4 impl_holdsOk.bits4 (fun HT_ HW_ => ?_)
        generalize w24.drew = w25 at ja HB hHeld ⊢
        refine tk_ 0 (some 12) (bt_ 18 1) (take_ofW HT_.out HW_.out (by kernel_rfl)) hHeld ?_
        refine one_ (i := 1) (N := some 13) (bt_ 18 3) rfl rfl (one_of HT_.out (by kernel_rfl)) (by decide) (fun K hK => ?_)
        refine goes_ Try.func61 (by kernel_rfl) rfl #[.agg #[.int .i64 ((rd_T45 l0 x7_1).f0), .int .i64 ((rd_T45 l0 x7_1).f1), .bool ((rd_T45 l0 x7_1).f2), .bool ((rd_T45 l0 x7_1).f3)]] (by rfl) rfl rfl (by (try simp only [List.map_toArray, List.map_cons, List.map_nil]); first | done | rfl | (simp only [List.length_drop, List.length_take]; rfl)) ?_
        with_reducible refine (impl_Hold_ok.calls ((rd_T45 l0 x7_1).f0) ((rd_T45 l0 x7_1).f1) ((rd_T45 l0 x7_1).f2) ((rd_T45 l0 x7_1).f3) true _ A5.out).mono ?_
        rintro e w26 ⟨rfl, hb⟩
        refine ⟨_, rfl, ?_⟩
        have n0_ := Aside0.mk (blk_below (bk_ ja.out) hb)
        have n1_ := Aside0.mk (below_step (hb_ HB.out) hb)
        clear ja
        clear HB
        have ja := n0_
        have HB := n1_
        clear n0_ n1_
        (try clear hb)
        (try clear hb2)
        (try clear hk)
        (try clear hi)
        refine hK.out _ _ ⟨(blk_cell ja.out 0).trans rfl, (blk_cell ja.out 1).trans rfl, (blk_cell ja.out 2).trans rfl, (blk_cell ja.out 3).trans rfl⟩ (fun hHeld => ?_)
        clear hK K
        refine norm_ (a' := ?_) ?_ ?_
        rotate_left
        ·show Act.put _ (some 13) _ = _
         simp only [Act.put, List.setIfInBounds_toArray, List.set_cons_zero, List.set_cons_succ, i64_w, i32_w]
         rfl
        refine pu_ 2 (some 14) (bt_ 18 7) (any_of HT_.out (by kernel_rfl)) ?_
        refine pu_ 3 (some 15) (bt_ 18 15) (any_of HT_.out (by kernel_rfl)) ?_
        refine pu_ 4 (some 16) (bt_ 18 31) (any_of HT_.out (by kernel_rfl)) ?_
        refine pu_ 5 (some 17) (bt_ 18 63) (any_of HT_.out (by kernel_rfl)) ?_
        refine pu_ 6 (some 18) (bt_ 18 127) (any_of HT_.out (by kernel_rfl)) ?_
        refine pn_ 7 (some 19) (bt_ 18 255) (any_of HT_.out (by kernel_rfl)) ?_
        refine pn_ 8 (some 20) (bt_ 18 511) (any_of HT_.out (by kernel_rfl)) ?_
        refine pn_ 9 (some 21) (bt_ 18 1023) (any_of HT_.out (by kernel_rfl)) ?_
        refine pn_ 10 (some 22) (bt_ 18 2047) (any_of HT_.out (by kernel_rfl)) ?_
        refine pn_ 11 (some 23) (bt_ 18 4095) (any_of HT_.out (by kernel_rfl)) ?_
        refine pn_ 12 (some 24) (bt_ 18 8191) (any_of HT_.out (by kernel_rfl)) ?_
        refine pn_ 13 (some 25) (bt_ 18 16383) (any_of HT_.out (by kernel_rfl)) ?_
        refine pn_ 14 (some 26) (bt_ 18 32767) (any_of HT_.out (by kernel_rfl)) ?_
        refine pn_ 15 (some 27) (bt_ 18 65535) (any_of HT_.out (by kernel_rfl)) ?_
        refine pu_ 16 (some 28) (bt_ 18 131071) (any_of HT_.out (by kernel_rfl)) ?_
        refine pu_ 17 (some 29) (bt_ 18 262143) (any_of HT_.out (by kernel_rfl)) ?_
        refine done_ (done_of HT_.out (by kernel_rfl)) ?_
        try go_wp2
        go_roundg k1
        case measure => have := HK1.out; omega
        case rel => exact ⟨(wrap64 (x7_1 + 1)), (by first | rfl | (simp; done) | (simp [*]; done)), H', ⟨by have := HK1.out; omega⟩, ⟨hb_ HB.out⟩⟩
      ·replace c6 := Bool.eq_false_iff.mpr c6
       subst c6
       have H1 : (some false) = some r := by rw [if_neg (show ¬ (false = true) by decide)] at H; exact H
       clear H
       have H := H1
       clear H1
       obtain rfl := Option.some.inj H
       have ji : 0 ≤ (x7_1 : Int) := of_decide_eq_true (by first | (with_reducible assumption) | assumption)
       have je : x7_1 < (l0.length : Int) := of_decide_eq_true (by first | (with_reducible assumption) | assumption)
       obtain ⟨jc, jr, jd, jh, jf, jg⟩ := at_T45 HR0.out x7_1 ji je
       cases jr
       replace jd := (HB.out.cell (World.block_lt_of_cell? w _ jd)).trans jd
       replace jh := (HB.out.cell (World.block_lt_of_cell? w _ jh)).trans jh
       replace jf := (HB.out.cell (World.block_lt_of_cell? w _ jf)).trans jf
       replace jg := (HB.out.cell (World.block_lt_of_cell? w _ jg)).trans jg
       replace ji := eq_true ji
       replace je := eq_true je
       try go_wp2_with (first | ((with_reducible refine gate_dst (N := 4) rfl ?_); refine box_event ?hg (N := 4) ?hd (cs := #[.int .i64 0, .int .i64 0, .bool false, .bool false]) (t := 45) ?hr ?_; (case hd => rfl); (case hg => rfl); (case hr => first | (go_simp; done) | (go_simp; rfl)); intro jb hg w27 hbox hb; have n0_ := Aside0.mk (below_step (hb_ HB.out) hb); have n1_ := Aside0.mk (hbox); have n2_ := Aside0.mk ((by rw [hg]; exact (below_size (hb_ HB.out)) : w.heap.size ≤ jb)); have n3_ := Aside0.mk ((by rw [hg]; exact (below_size (hb_ HB.out)) : w.heap.size ≤ jb)); clear HB; have HB := n0_; have ja := n1_; have jv := n2_; have ju := n3_; clear n0_ n1_ n2_ n3_; clear hb hbox hg; have hcz28_0 : w27.cell? ⟨jb, 0, none⟩ = some (.int .i64 0) := (blk_cell ja.out 0).trans rfl; have hcz28_1 : w27.cell? ⟨jb, 1, none⟩ = some (.int .i64 0) := (blk_cell ja.out 1).trans rfl; have hcz28_2 : w27.cell? ⟨jb, 2, none⟩ = some (.bool false) := (blk_cell ja.out 2).trans rfl; have hcz28_3 : w27.cell? ⟨jb, 3, none⟩ = some (.bool false) := (blk_cell ja.out 3).trans rfl; have hfz28_0 := blk_frozen ja.out 0; have hfz28_1 := blk_frozen ja.out 1; have hfz28_2 := blk_frozen ja.out 2; have hfz28_3 := blk_frozen ja.out 3))
       have n0_ : Aside0 (((((w27.setCell ⟨jb, 0, none⟩ (.int .i64 ((rd_T45 l0 x7_1).f0))).setCell ⟨jb, 1, none⟩ (.int .i64 ((rd_T45 l0 x7_1).f1))).setCell ⟨jb, 2, none⟩ (.bool ((rd_T45 l0 x7_1).f2))).setCell ⟨jb, 3, none⟩ (.bool ((rd_T45 l0 x7_1).f3))).heap[jb]? = some (.cells #[.int .i64 ((rd_T45 l0 x7_1).f0), .int .i64 ((rd_T45 l0 x7_1).f1), .bool ((rd_T45 l0 x7_1).f2), .bool ((rd_T45 l0 x7_1).f3)] 45 (0, 0))) := ⟨by (with_reducible repeat (first | refine blk_drewN ?_ _ | refine blk_drew ?_ | refine blk_alloc ?_ _)); refine blk_put (cs := #[.int .i64 ((rd_T45 l0 x7_1).f0), .int .i64 ((rd_T45 l0 x7_1).f1), .bool ((rd_T45 l0 x7_1).f2), .bool false]) ?_ 3 _ rfl; (with_reducible repeat (first | refine blk_drewN ?_ _ | refine blk_drew ?_ | refine blk_alloc ?_ _)); refine blk_put (cs := #[.int .i64 ((rd_T45 l0 x7_1).f0), .int .i64 ((rd_T45 l0 x7_1).f1), .bool false, .bool false]) ?_ 2 _ rfl; (with_reducible repeat (first | refine blk_drewN ?_ _ | refine blk_drew ?_ | refine blk_alloc ?_ _)); refine blk_put (cs := #[.int .i64 ((rd_T45 l0 x7_1).f0), .int .i64 0, .bool false, .bool false]) ?_ 1 _ rfl; (with_reducible repeat (first | refine blk_drewN ?_ _ | refine blk_drew ?_ | refine blk_alloc ?_ _)); refine blk_put (cs := #[.int .i64 0, .int .i64 0, .bool false, .bool false]) ?_ 0 _ rfl; (with_reducible repeat (first | refine blk_drewN ?_ _ | refine blk_drew ?_ | refine blk_alloc ?_ _)); exact ja.out⟩
       have n1_ : Aside0 (Below w.heap.size w ((((w27.setCell ⟨jb, 0, none⟩ (.int .i64 ((rd_T45 l0 x7_1).f0))).setCell ⟨jb, 1, none⟩ (.int .i64 ((rd_T45 l0 x7_1).f1))).setCell ⟨jb, 2, none⟩ (.bool ((rd_T45 l0 x7_1).f2))).setCell ⟨jb, 3, none⟩ (.bool ((rd_T45 l0 x7_1).f3)))) := ⟨hb_ HB.out⟩
       (try clear ja)
       (try clear HB)
       generalize ((((w27.setCell ⟨jb, 0, none⟩ (.int .i64 ((rd_T45 l0 x7_1).f0))).setCell ⟨jb, 1, none⟩ (.int .i64 ((rd_T45 l0 x7_1).f1))).setCell ⟨jb, 2, none⟩ (.bool ((rd_T45 l0 x7_1).f2))).setCell ⟨jb, 3, none⟩ (.bool ((rd_T45 l0 x7_1).f3))) = w29 at n0_ n1_ ⊢
       have ja := n0_
       have HB := n1_
       clear n0_ n1_
       have n0_ := Aside0.mk (blk_drew ja.out)
       have n1_ := Aside0.mk (below_drew1 HB.out)
       clear ja
       clear HB
       have ja := n0_
       have HB := n1_
       clear n0_ n1_
       refine start_ (n := 18) (S := fun w' => w'.cell? ⟨jb, 0, none⟩ = some (.int .i64 ((rd_T45 l0 x7_1).f0)) ∧ w'.cell? ⟨jb, 1, none⟩ = some (.int .i64 ((rd_T45 l0 x7_1).f1)) ∧ w'.cell? ⟨jb, 2, none⟩ = some (.bool ((rd_T45 l0 x7_1).f2)) ∧ w'.cell? ⟨jb, 3, none⟩ = some (.bool ((rd_T45 l0 x7_1).f3))) (ds := []) (bt_ 18 0) (by kernel_rfl) rfl rfl ⟨(blk_cell ja.out 0).trans rfl, (blk_cell ja.out 1).trans rfl, (blk_cell ja.out 2).trans rfl, (blk_cell ja.out 3).trans rfl⟩ (fun hHeld => ?_); refine with_tabW impl_holdsOk.tab4 impl_holdsOk.bits4 (fun HT_ HW_ => ?_)
       generalize w29.drew = w30 at ja HB hHeld ⊢
       refine tk_ 0 (some 12) (bt_ 18 1) (take_ofW HT_.out HW_.out (by kernel_rfl)) hHeld ?_
       refine one_ (i := 1) (N := some 13) (bt_ 18 3) rfl rfl (one_of HT_.out (by kernel_rfl)) (by decide) (fun K hK => ?_)
       refine goes_ Try.func61 (by kernel_rfl) rfl #[.agg #[.int .i64 ((rd_T45 l0 x7_1).f0), .int .i64 ((rd_T45 l0 x7_1).f1), .bool ((rd_T45 l0 x7_1).f2), .bool ((rd_T45 l0 x7_1).f3)]] (by rfl) rfl rfl (by (try simp only [List.map_toArray, List.map_cons, List.map_nil]); first | done | rfl | (simp only [List.length_drop, List.length_take]; rfl)) ?_
       with_reducible refine (impl_Hold_ok.calls ((rd_T45 l0 x7_1).f0) ((rd_T45 l0 x7_1).f1) ((rd_T45 l0 x7_1).f2) ((rd_T45 l0 x7_1).f3) false _ A5.out).mono ?_
       rintro e w31 ⟨rfl, hb⟩
       refine ⟨_, rfl, ?_⟩
       have n0_ := Aside0.mk (blk_below (bk_ ja.out) hb)
       have n1_ := Aside0.mk (below_step (hb_ HB.out) hb)
       clear ja
       clear HB
       have ja := n0_
       have HB := n1_
       clear n0_ n1_
       (try clear hb)
       (try clear hb2)
       (try clear hk)
       (try clear hi)
       refine hK.out _ _ ⟨(blk_cell ja.out 0).trans rfl, (blk_cell ja.out 1).trans rfl, (blk_cell ja.out 2).trans rfl, (blk_cell ja.out 3).trans rfl⟩ (fun hHeld => ?_)
       clear hK K
       refine norm_ (a' := ?_) ?_ ?_
       rotate_left
       ·show Act.put _ (some 13) _ = _
        simp only [Act.put, List.setIfInBounds_toArray, List.set_cons_zero, List.set_cons_succ, i64_w, i32_w]
        rfl
       refine pu_ 2 (some 14) (bt_ 18 7) (any_of HT_.out (by kernel_rfl)) ?_
       refine pu_ 3 (some 15) (bt_ 18 15) (any_of HT_.out (by kernel_rfl)) ?_
       refine pn_ 4 (some 16) (bt_ 18 31) (any_of HT_.out (by kernel_rfl)) ?_
       refine pn_ 5 (some 17) (bt_ 18 63) (any_of HT_.out (by kernel_rfl)) ?_
       refine pn_ 6 (some 18) (bt_ 18 127) (any_of HT_.out (by kernel_rfl)) ?_
       refine pn_ 7 (some 19) (bt_ 18 255) (any_of HT_.out (by kernel_rfl)) ?_
       refine pn_ 8 (some 20) (bt_ 18 511) (any_of HT_.out (by kernel_rfl)) ?_
       refine pn_ 9 (some 21) (bt_ 18 1023) (any_of HT_.out (by kernel_rfl)) ?_
       refine pn_ 10 (some 22) (bt_ 18 2047) (any_of HT_.out (by kernel_rfl)) ?_
       refine pn_ 11 (some 23) (bt_ 18 4095) (any_of HT_.out (by kernel_rfl)) ?_
       refine pn_ 12 (some 24) (bt_ 18 8191) (any_of HT_.out (by kernel_rfl)) ?_
       refine pn_ 13 (some 25) (bt_ 18 16383) (any_of HT_.out (by kernel_rfl)) ?_
       refine pn_ 14 (some 26) (bt_ 18 32767) (any_of HT_.out (by kernel_rfl)) ?_
       refine pn_ 15 (some 27) (bt_ 18 65535) (any_of HT_.out (by kernel_rfl)) ?_
       refine pn_ 16 (some 28) (bt_ 18 131071) (any_of HT_.out (by kernel_rfl)) ?_
       refine pu_ 17 (some 29) (bt_ 18 262143) (any_of HT_.out (by kernel_rfl)) ?_
       refine done_ (done_of HT_.out (by kernel_rfl)) ?_
       try go_wp2
       go_ret
       exact ⟨by first | rfl | (simp [errW_none, errW_some] <;> rfl) | (simp [*, errW_none, errW_some] <;> rfl), by repeat (first | (with_reducible first | exact HB.out | apply below_alloc | apply pw_below_drewN | apply below_drew1 | refine below_set ?_ ju.out) | exact HB.out)⟩
     ·rw [if_neg c4] at H
      exact absurd H (by simp)
    ·rw [if_neg c3] at H
     exact absurd H (by simp)
   ·rw [if_neg c2] at H
    have c2b0 : decide (x7_1 < (l0.length : Int)) = false := decide_eq_false c2
    clear c2
    obtain rfl := Option.some.inj H
    go_wp2
    go_ret
    exact ⟨by first | rfl | (simp [errW_none, errW_some] <;> rfl) | (simp [*, errW_none, errW_some] <;> rfl), by repeat (first | (with_reducible first | exact HB.out | apply below_alloc | apply pw_below_drewN | apply below_drew1) | exact HB.out)⟩

end Go.Proofs.Ytjldpnhlegbjkaa.PA
