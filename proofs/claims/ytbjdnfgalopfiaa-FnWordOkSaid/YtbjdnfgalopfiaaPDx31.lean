import Derived.Test.YtbjdnfgalopfiaaPDx0
import Derived.Test.YtbjdnfgalopfiaaPDx28
import Derived.Test.YtbjdnfgalopfiaaPDx29
import Derived.Test.YtbjdnfgalopfiaaPDx30
namespace Go.Proofs.Ytbjdnfgalopfiaa.PD
open Go.RowKit Go.Proofs.YtbjdnfgalopfiaaW.PrintWords Go.Proofs.YtbjdnfgalopfiaaW.PrintLast Go.Proofs.YtbjdnfgalopfiaaW.PrintMore
attribute [local go_sem] max2_int min2_int max_two min_two max_three min_three max_four min_four
set_option linter.unusedVariables false
set_option linter.unusedSimpArgs false

def spec_DealWrite.l0 : Nat → List (S119) → ByteArray → Int → Option (ByteArray)
 | 0, _, _, _ => none
 | k + 1, x0, x3, x4 => if x4 < (x0.length : Int) then (if 0 ≤ x4 then ((some (([(⟨#[]⟩ : ByteArray), (⟨#[103, 101, 116, 32]⟩ : ByteArray), (⟨#[112, 117, 116, 32]⟩ : ByteArray), (⟨#[97, 100, 100, 32]⟩ : ByteArray), (⟨#[110, 101, 101, 100, 32]⟩ : ByteArray)] : List ByteArray) : List ByteArray)).bind fun y690004 => (if 0 ≤ ((rd_T119 x0 x4).f0) then (if ((rd_T119 x0 x4).f0) < (y690004.length : Int) then (if x3.size + (rdOf ByteArray.empty y690004 ((rd_T119 x0 x4).f0)).size ≤ 9223372036854775807 then ((spec_l6Dec.f k ((rd_T119 x0 x4).f1)).bind fun t690008 => (if (x3 ++ (rdOf ByteArray.empty y690004 ((rd_T119 x0 x4).f0))).size + t690008.size ≤ 9223372036854775807 then (if ((rd_T119 x0 x4).f0) = 1 then (if ((x3 ++ (rdOf ByteArray.empty y690004 ((rd_T119 x0 x4).f0))) ++ t690008).size + 1 ≤ 9223372036854775807 then (spec_DealWrite.l0 k x0 (((x3 ++ (rdOf ByteArray.empty y690004 ((rd_T119 x0 x4).f0))) ++ t690008) ++ (⟨#[59]⟩ : ByteArray)) (wrap64 (x4 + 1))) else (none)) else (if ((x3 ++ (rdOf ByteArray.empty y690004 ((rd_T119 x0 x4).f0))) ++ t690008).size + 1 ≤ 9223372036854775807 then ((spec_l1Int.f k ((rd_T119 x0 x4).f2)).bind fun t690009 => (if (((x3 ++ (rdOf ByteArray.empty y690004 ((rd_T119 x0 x4).f0))) ++ t690008) ++ (⟨#[32]⟩ : ByteArray)).size + t690009.size ≤ 9223372036854775807 then (if ((((x3 ++ (rdOf ByteArray.empty y690004 ((rd_T119 x0 x4).f0))) ++ t690008) ++ (⟨#[32]⟩ : ByteArray)) ++ t690009).size + 1 ≤ 9223372036854775807 then (spec_DealWrite.l0 k x0 (((((x3 ++ (rdOf ByteArray.empty y690004 ((rd_T119 x0 x4).f0))) ++ t690008) ++ (⟨#[32]⟩ : ByteArray)) ++ t690009) ++ (⟨#[59]⟩ : ByteArray)) (wrap64 (x4 + 1))) else (none)) else (none))) else (none))) else (none))) else (none)) else (none)) else (none))) else (none)) else (some x3)
def spec_DealWrite.f (k : Nat) (l0 : List (S119)) : Option (ByteArray) := (spec_DealOk.f k l0).bind fun t690001 => (if t690001 = true then (spec_DealWrite.l0 k l0 (⟨#[]⟩ : ByteArray) 0) else (some (⟨#[]⟩ : ByteArray)))
theorem spec_DealWrite.mono_l : ∀ k, (∀ y0 y1 y2, LeO (spec_DealWrite.l0 k y0 y1 y2) (spec_DealWrite.l0 (k + 1) y0 y1 y2))
 | 0 => fun _ _ _ r h => by simp [spec_DealWrite.l0] at h
 | k + 1 => by
  have ih0 := spec_DealWrite.mono_l k
  ·intro y0 y1 y2
   unfold spec_DealWrite.l0
   repeat' first
   | (with_reducible exact ih0 _ _ _)
   | (with_reducible exact spec_DealOk.mono _ _)
   | (with_reducible exact spec_l1Int.mono _ _)
   | (with_reducible exact spec_l6Dec.mono _ _)
   | (with_reducible exact LeO.refl _)
   | (with_reducible exact LeO.none _)
   | (with_reducible refine LeO.ite ?_ ?_)
   | (with_reducible refine LeO.bind ?_ (fun _ => ?_))
   | exact ih0 _ _ _
   | exact spec_DealOk.mono _ _
   | exact spec_l1Int.mono _ _
   | exact spec_l6Dec.mono _ _
   | exact LeO.none _
   | refine LeO.ite ?_ ?_
   | refine LeO.bind ?_ (fun _ => ?_)
theorem spec_DealWrite.mono : ∀ a0 k, LeO (spec_DealWrite.f k a0) (spec_DealWrite.f (k + 1) a0) := by
 intro a0 k
 have ih0 := spec_DealWrite.mono_l k
 unfold spec_DealWrite.f
 repeat' first
  | (with_reducible exact ih0 _ _ _)
  | (with_reducible exact spec_DealOk.mono _ _)
  | (with_reducible exact spec_l1Int.mono _ _)
  | (with_reducible exact spec_l6Dec.mono _ _)
  | (with_reducible exact LeO.refl _)
  | (with_reducible exact LeO.none _)
  | (with_reducible refine LeO.ite ?_ ?_)
  | (with_reducible refine LeO.bind ?_ (fun _ => ?_))
  | exact ih0 _ _ _
  | exact spec_DealOk.mono _ _
  | exact spec_l1Int.mono _ _
  | exact spec_l6Dec.mono _ _
  | exact LeO.none _
  | refine LeO.ite ?_ ?_
  | refine LeO.bind ?_ (fun _ => ?_)
def spec_DealWrite.T8 : Bool × List (List Nat × List Nat) := (true, [([], []), ([], []), ([], []), ([2], [2]), ([1, 3], [1, 3]), ([4], [4]), ([0, 5], [0, 5]), ([], []), ([7], [7]), ([8], [8]), ([6, 9], [6, 9]), ([10, 9, 0, 1, 2, 3, 4, 5, 6, 7, 8, 9, 10], [0, 10])])
def spec_DealWrite.B8 : List Nat := [0, 0, 0, 4, 14, 30, 63, 0, 128, 384, 1023, 2047]
theorem spec_DealWrite.tab8 : rtab .any (opsOf Try.f68 8) = spec_DealWrite.T8 := by kernel_rfl
theorem spec_DealWrite.bits8 : waitsOk spec_DealWrite.T8.2 spec_DealWrite.B8 = true := by kernel_rfl
set_option maxHeartbeats 8000000 in
set_option maxRecDepth 100000 in
theorem spec_DealWrite.calls (k : Nat) (A0 : Option Addr) (c0 : Nat) (l0 : List (S119)) (r : ByteArray) (w : World) (hr0 : Kd.C k119 w A0 l0.length l0) (hc0 : l0.length ≤ c0) (h : spec_DealWrite.f k l0 = some r) :
 Calls Try.prog 68 #[.slice A0 l0.length c0] w fun e w' => e = .returned (.string r) ∧ Below w.heap.size w w' := by
 have hu119 := Try.underlying119
 have HR0 := Aside0.mk hr0
 have HC0 := Aside0.mk hc0
 clear hr0 hc0
 have HB := Aside0.mk (Below.refl w.heap.size w)
 have H : ((spec_DealOk.f k l0).bind fun jt => (if jt = true then (spec_DealWrite.l0 k l0 (⟨#[]⟩ : ByteArray) 0) else (some (⟨#[]⟩ : ByteArray)))) = some r := h
 clear h
 replace H := Option.bind_eq_some_iff.mp H
 obtain ⟨jt, A20, H⟩ := H
 replace H : (if jt = true then (spec_DealWrite.l0 k l0 (⟨#[]⟩ : ByteArray) 0) else (some (⟨#[]⟩ : ByteArray))) = some r := H
 have A2 := Aside0.mk A20
 clear A20
 by_cases c3 : jt = true
 ·subst c3
  have H1 : (spec_DealWrite.l0 k l0 (⟨#[]⟩ : ByteArray) 0) = some r := by rw [if_pos rfl] at H; exact H
  clear H
  have H := H1
  clear H1
  have H' := Aside0.mk H
  clear H
  go_enter Try.func68, Try.ntmps68
  go_wp2_with (first | ((with_reducible refine gate_callee (f := 72) rfl ?_); refine goesL_ (some 7) rfl rfl Try.func72 (by kernel_rfl) rfl #[.slice A0 l0.length c0] rfl (by (try simp only [List.map_toArray, List.map_cons, List.map_nil]); first | done | rfl | (simp only [List.length_drop, List.length_take]; rfl)) ?_; (with_reducible refine (spec_DealOk.calls k _ _ l0 true _ ?side1 ?side2 A2.out).mono ?_); (case side1 => repeat (first | exact HR0.out | (with_reducible refine Kd.C_alloc ?_ _) | (with_reducible refine Kd.C_drewN ?_ _) | (with_reducible refine Kd.C_drew ?_))); (case side2 => exact HC0.out); rintro e w4 ⟨rfl, hb⟩; refine ⟨_, rfl, ?_⟩; have n0_ := Aside0.mk (below_step (hb_ HB.out) hb); clear HB; have HB := n0_; clear n0_; (try clear hb); (try clear hb2); (try clear hk); (try clear hi)))
  go_loopg [3, 4] k (fun kq v3 v4 w' => ∃ (x3_1 : ByteArray) (x4_1 : Int), v3 = .string x3_1 ∧ v4 = .int .i64 x4_1 ∧ Aside0 (spec_DealWrite.l0 kq l0 x3_1 x4_1 = some r) ∧ Aside0 (kq ≤ k) ∧ Aside0 (Below w.heap.size w w'))
  case atStart => exact ⟨((⟨#[]⟩ : ByteArray)), (0), (by first | rfl | (simp; done) | (simp [*]; done)), (by first | rfl | (simp; done) | (simp [*]; done)), H', ⟨Nat.le_refl _⟩, ⟨hb_ HB.out⟩⟩
  case round =>
   clear H'
   try clear p2
   try clear c3
   obtain ⟨x3_1, x4_1, rfl, rfl, HA, HK1, HB⟩ := hrel
   cases gk with
   | zero => exact absurd HA.out (by simp [spec_DealWrite.l0])
   | succ k1 =>
    have H := HA.out
    clear HA
    simp only [spec_DealWrite.l0] at H
    by_cases c5 : x4_1 < (l0.length : Int)
    ·rw [if_pos c5] at H
     have c5b0 : decide (x4_1 < (l0.length : Int)) = true := decide_eq_true c5
     clear c5
     by_cases c6 : 0 ≤ x4_1
     ·rw [if_pos c6] at H
      have c6b0 : decide (0 ≤ x4_1) = true := decide_eq_true c6
      clear c6
      obtain ⟨jb, js⟩ : ∃ y_ : List ByteArray, y_ = (([(⟨#[]⟩ : ByteArray), (⟨#[103, 101, 116, 32]⟩ : ByteArray), (⟨#[112, 117, 116, 32]⟩ : ByteArray), (⟨#[97, 100, 100, 32]⟩ : ByteArray), (⟨#[110, 101, 101, 100, 32]⟩ : ByteArray)] : List ByteArray)) := ⟨_, rfl⟩
      replace H : (if 0 ≤ ((rd_T119 l0 x4_1).f0) then (if ((rd_T119 l0 x4_1).f0) < (jb.length : Int) then (if x3_1.size + (rdOf ByteArray.empty jb ((rd_T119 l0 x4_1).f0)).size ≤ 9223372036854775807 then ((spec_l6Dec.f k1 ((rd_T119 l0 x4_1).f1)).bind fun jd => (if (x3_1 ++ (rdOf ByteArray.empty jb ((rd_T119 l0 x4_1).f0))).size + jd.size ≤ 9223372036854775807 then (if ((rd_T119 l0 x4_1).f0) = 1 then (if ((x3_1 ++ (rdOf ByteArray.empty jb ((rd_T119 l0 x4_1).f0))) ++ jd).size + 1 ≤ 9223372036854775807 then (spec_DealWrite.l0 k1 l0 (((x3_1 ++ (rdOf ByteArray.empty jb ((rd_T119 l0 x4_1).f0))) ++ jd) ++ (⟨#[59]⟩ : ByteArray)) (wrap64 (x4_1 + 1))) else (none)) else (if ((x3_1 ++ (rdOf ByteArray.empty jb ((rd_T119 l0 x4_1).f0))) ++ jd).size + 1 ≤ 9223372036854775807 then ((spec_l1Int.f k1 ((rd_T119 l0 x4_1).f2)).bind fun jk => (if (((x3_1 ++ (rdOf ByteArray.empty jb ((rd_T119 l0 x4_1).f0))) ++ jd) ++ (⟨#[32]⟩ : ByteArray)).size + jk.size ≤ 9223372036854775807 then (if ((((x3_1 ++ (rdOf ByteArray.empty jb ((rd_T119 l0 x4_1).f0))) ++ jd) ++ (⟨#[32]⟩ : ByteArray)) ++ jk).size + 1 ≤ 9223372036854775807 then (spec_DealWrite.l0 k1 l0 (((((x3_1 ++ (rdOf ByteArray.empty jb ((rd_T119 l0 x4_1).f0))) ++ jd) ++ (⟨#[32]⟩ : ByteArray)) ++ jk) ++ (⟨#[59]⟩ : ByteArray)) (wrap64 (x4_1 + 1))) else (none)) else (none))) else (none))) else (none))) else (none)) else (none)) else (none)) = some r := by first | (rw [js]; with_reducible exact H) | (have H2_ := (Option.bind_some _ _).symm.trans H; rw [js]; with_reducible exact H2_) | (have H2_ := (Option.bind_some _ _).symm.trans H; with_reducible exact H2_) | with_reducible exact H | (rw [js]; exact H) | exact H
      have jr := Aside0.mk js
      clear js
      by_cases c7 : 0 ≤ ((rd_T119 l0 x4_1).f0)
      ·rw [if_pos c7] at H
       have c7b0 : decide (0 ≤ ((rd_T119 l0 x4_1).f0)) = true := decide_eq_true c7
       clear c7
       by_cases c8 : ((rd_T119 l0 x4_1).f0) < (jb.length : Int)
       ·rw [if_pos c8] at H
        have c8b0 : decide (((rd_T119 l0 x4_1).f0) < (jb.length : Int)) = true := decide_eq_true c8
        clear c8
        by_cases c9 : x3_1.size + (rdOf ByteArray.empty jb ((rd_T119 l0 x4_1).f0)).size ≤ 9223372036854775807
        ·rw [if_pos c9] at H
         have c9b0 := eq_true c9
         have c9b1 : decide (x3_1.size + (rdOf ByteArray.empty jb ((rd_T119 l0 x4_1).f0)).size ≤ 9223372036854775807) = true := decide_eq_true c9
         try have c9b2 : (9223372036854775807 < x3_1.size + (rdOf ByteArray.empty jb ((rd_T119 l0 x4_1).f0)).size) = False := eq_false (Nat.not_lt.2 c9)
         replace H := Option.bind_eq_some_iff.mp H
         obtain ⟨jd, A100, H⟩ := H
         replace H : (if (x3_1 ++ (rdOf ByteArray.empty jb ((rd_T119 l0 x4_1).f0))).size + jd.size ≤ 9223372036854775807 then (if ((rd_T119 l0 x4_1).f0) = 1 then (if ((x3_1 ++ (rdOf ByteArray.empty jb ((rd_T119 l0 x4_1).f0))) ++ jd).size + 1 ≤ 9223372036854775807 then (spec_DealWrite.l0 k1 l0 (((x3_1 ++ (rdOf ByteArray.empty jb ((rd_T119 l0 x4_1).f0))) ++ jd) ++ (⟨#[59]⟩ : ByteArray)) (wrap64 (x4_1 + 1))) else (none)) else (if ((x3_1 ++ (rdOf ByteArray.empty jb ((rd_T119 l0 x4_1).f0))) ++ jd).size + 1 ≤ 9223372036854775807 then ((spec_l1Int.f k1 ((rd_T119 l0 x4_1).f2)).bind fun jk => (if (((x3_1 ++ (rdOf ByteArray.empty jb ((rd_T119 l0 x4_1).f0))) ++ jd) ++ (⟨#[32]⟩ : ByteArray)).size + jk.size ≤ 9223372036854775807 then (if ((((x3_1 ++ (rdOf ByteArray.empty jb ((rd_T119 l0 x4_1).f0))) ++ jd) ++ (⟨#[32]⟩ : ByteArray)) ++ jk).size + 1 ≤ 9223372036854775807 then (spec_DealWrite.l0 k1 l0 (((((x3_1 ++ (rdOf ByteArray.empty jb ((rd_T119 l0 x4_1).f0))) ++ jd) ++ (⟨#[32]⟩ : ByteArray)) ++ jk) ++ (⟨#[59]⟩ : ByteArray)) (wrap64 (x4_1 + 1))) else (none)) else (none))) else (none))) else (none)) = some r := H
         have A10 := Aside0.mk A100
         clear A100
         by_cases c11 : (x3_1 ++ (rdOf ByteArray.empty jb ((rd_T119 l0 x4_1).f0))).size + jd.size ≤ 9223372036854775807
         ·rw [if_pos c11] at H
          have c11b0 := eq_true c11
          have c11b1 : decide ((x3_1 ++ (rdOf ByteArray.empty jb ((rd_T119 l0 x4_1).f0))).size + jd.size ≤ 9223372036854775807) = true := decide_eq_true c11
          try have c11b2 : (9223372036854775807 < (x3_1 ++ (rdOf ByteArray.empty jb ((rd_T119 l0 x4_1).f0))).size + jd.size) = False := eq_false (Nat.not_lt.2 c11)
          have c11s := c11
          simp only [ByteArray.size_append, show (⟨#[32]⟩ : ByteArray).size = 1 from rfl, show (⟨#[59]⟩ : ByteArray).size = 1 from rfl] at c11s
          have c11u := eq_true c11s
          have c11v := eq_false (Nat.not_lt.2 c11s)
          have c11w := decide_eq_true c11s
          clear c11s
          by_cases c12 : ((rd_T119 l0 x4_1).f0) = 1
          ·rw [if_pos c12] at H
           have c12b0 : (((rd_T119 l0 x4_1).f0) == 1) = true := beq_iff_eq.mpr c12
           have c12b1 : (((rd_T119 l0 x4_1).f0) != 1) = false := bne_eq_false_iff_eq.mpr c12
           clear c12
           by_cases c13 : ((x3_1 ++ (rdOf ByteArray.empty jb ((rd_T119 l0 x4_1).f0))) ++ jd).size + 1 ≤ 9223372036854775807
           ·rw [if_pos c13] at H
            have c13b0 := eq_true c13
            have c13b1 : decide (((x3_1 ++ (rdOf ByteArray.empty jb ((rd_T119 l0 x4_1).f0))) ++ jd).size + 1 ≤ 9223372036854775807) = true := decide_eq_true c13
            try have c13b2 : (9223372036854775807 < ((x3_1 ++ (rdOf ByteArray.empty jb ((rd_T119 l0 x4_1).f0))) ++ jd).size + 1) = False := eq_false (Nat.not_lt.2 c13)
            have c13s := c13
            simp only [ByteArray.size_append, show (⟨#[32]⟩ : ByteArray).size = 1 from rfl, show (⟨#[59]⟩ : ByteArray).size = 1 from rfl] at c13s
            have c13u := eq_true c13s
            have c13v := eq_false (Nat.not_lt.2 c13s)
            have c13w := decide_eq_true c13s
            clear c13s
            have H' := Aside0.mk H
            clear H
            have jq : 0 ≤ (x4_1 : Int) := of_decide_eq_true (by first | (with_reducible assumption) | assumption)
            have jm : x4_1 < (l0.length : Int) := of_decide_eq_true (by first | (with_reducible assumption) | assumption)
            obtain ⟨jA, jv, jn, jo, jp⟩ := at_T119 HR0.out x4_1 jq jm
            cases jv
            replace jn := (HB.out.cell (World.block_lt_of_cell? w _ jn)).trans jn
            replace jo := (HB.out.cell (World.block_lt_of_cell? w _ jo)).trans jo
            replace jp := (HB.out.cell (World.block_lt_of_cell? w _ jp)).trans jp
            replace jq := eq_true jq
            replace jm := eq_true jm
            try go_wp2_with (first | ((with_reducible refine gate_dst (N := 5) rfl ?_); refine box_event ?hg (N := 5) ?hd (cs := #[.int .i64 0, .int .i64 0, .int .i64 0]) (t := 119) ?hr ?_; (case hd => rfl); (case hg => rfl); (case hr => first | (go_simp; done) | (go_simp; rfl)); intro je hg w14 hbox hb; have n0_ := Aside0.mk (below_step (hb_ HB.out) hb); have n1_ := Aside0.mk (hbox); have n2_ := Aside0.mk ((by rw [hg]; exact (below_size (hb_ HB.out)) : w.heap.size ≤ je)); have n3_ := Aside0.mk ((by rw [hg]; exact (below_size (hb_ HB.out)) : w.heap.size ≤ je)); clear HB; have HB := n0_; have ja := n1_; have jy := n2_; have jz := n3_; clear n0_ n1_ n2_ n3_; clear hb hbox hg; have hcz15_0 : w14.cell? ⟨je, 0, none⟩ = some (.int .i64 0) := (blk_cell ja.out 0).trans rfl; have hcz15_1 : w14.cell? ⟨je, 1, none⟩ = some (.int .i64 0) := (blk_cell ja.out 1).trans rfl; have hcz15_2 : w14.cell? ⟨je, 2, none⟩ = some (.int .i64 0) := (blk_cell ja.out 2).trans rfl; have hfz15_0 := blk_frozen ja.out 0; have hfz15_1 := blk_frozen ja.out 1; have hfz15_2 := blk_frozen ja.out 2))
            have ju : (0 ≤ (((rd_T119 l0 x4_1).f0) : Int)) = True := eq_true (of_decide_eq_true (by first | (with_reducible assumption) | assumption))
            have jx : (((rd_T119 l0 x4_1).f0) < (jb.length : Int)) = True := eq_true (of_decide_eq_true (by first | (with_reducible assumption) | assumption))
            have n0_ : Aside0 ((((w14.setCell ⟨je, 0, none⟩ (.int .i64 ((rd_T119 l0 x4_1).f0))).setCell ⟨je, 1, none⟩ (.int .i64 ((rd_T119 l0 x4_1).f1))).setCell ⟨je, 2, none⟩ (.int .i64 ((rd_T119 l0 x4_1).f2))).heap[je]? = some (.cells #[.int .i64 ((rd_T119 l0 x4_1).f0), .int .i64 ((rd_T119 l0 x4_1).f1), .int .i64 ((rd_T119 l0 x4_1).f2)] 119 (0, 0))) := ⟨by (with_reducible repeat (first | refine blk_drewN ?_ _ | refine blk_drew ?_ | refine blk_alloc ?_ _)); refine blk_put (cs := #[.int .i64 ((rd_T119 l0 x4_1).f0), .int .i64 ((rd_T119 l0 x4_1).f1), .int .i64 0]) ?_ 2 _ rfl; (with_reducible repeat (first | refine blk_drewN ?_ _ | refine blk_drew ?_ | refine blk_alloc ?_ _)); refine blk_put (cs := #[.int .i64 ((rd_T119 l0 x4_1).f0), .int .i64 0, .int .i64 0]) ?_ 1 _ rfl; (with_reducible repeat (first | refine blk_drewN ?_ _ | refine blk_drew ?_ | refine blk_alloc ?_ _)); refine blk_put (cs := #[.int .i64 0, .int .i64 0, .int .i64 0]) ?_ 0 _ rfl; (with_reducible repeat (first | refine blk_drewN ?_ _ | refine blk_drew ?_ | refine blk_alloc ?_ _)); exact ja.out⟩
            have n1_ : Aside0 (Below w.heap.size w (((w14.setCell ⟨je, 0, none⟩ (.int .i64 ((rd_T119 l0 x4_1).f0))).setCell ⟨je, 1, none⟩ (.int .i64 ((rd_T119 l0 x4_1).f1))).setCell ⟨je, 2, none⟩ (.int .i64 ((rd_T119 l0 x4_1).f2)))) := ⟨hb_ HB.out⟩
            (try clear ja)
            (try clear HB)
            generalize (((w14.setCell ⟨je, 0, none⟩ (.int .i64 ((rd_T119 l0 x4_1).f0))).setCell ⟨je, 1, none⟩ (.int .i64 ((rd_T119 l0 x4_1).f1))).setCell ⟨je, 2, none⟩ (.int .i64 ((rd_T119 l0 x4_1).f2))) = w16 at n0_ n1_ ⊢
            have ja := n0_
            have HB := n1_
            clear n0_ n1_
            have n0_ := Aside0.mk (blk_drew ja.out)
            have n1_ := Aside0.mk (below_drew1 HB.out)
            clear ja
            clear HB
            have ja := n0_
            have HB := n1_
            clear n0_ n1_
            refine start_ (n := 12) (S := fun w' => True) (ds := []) (bt_ 12 0) (by kernel_rfl) rfl rfl trivial (fun hHeld => ?_); refine with_tabW spec_DealWrite.tab8 spec_DealWrite.bits8 (fun HT_ HW_ => ?_)
            generalize w16.drew = w17 at ja HB hHeld ⊢
            refine pu_ 0 (some 19) (bt_ 12 1) (any_of HT_.out (by kernel_rfl)) ?_
            refine pu_ 2 (some 21) (bt_ 12 5) (any_of HT_.out (by kernel_rfl)) ?_
            refine pu_ 7 (some 26) (bt_ 12 133) (any_of HT_.out (by kernel_rfl)) ?_
            refine inv_at [1, 3, 4, 5, 6, 8, 9, 10, 11] (fun a0_ b a w' => ∃ (jg : Value) (ji : Addr) (m4_ : Value), a = putSel a0_ b [(1, 20, jg), (3, 22, .int .i64 ((rd_T119 l0 x4_1).f0)), (4, 23, m4_), (5, 24, .string (rdOf ByteArray.empty jb ((rd_T119 l0 x4_1).f0))), (6, 25, .string (x3_1 ++ (rdOf ByteArray.empty jb ((rd_T119 l0 x4_1).f0)))), (8, 27, .int .i64 ((rd_T119 l0 x4_1).f1)), (9, 28, .string jd), (10, 29, .string ((x3_1 ++ (rdOf ByteArray.empty jb ((rd_T119 l0 x4_1).f0))) ++ jd)), (11, 3, .string ((x3_1 ++ (rdOf ByteArray.empty jb ((rd_T119 l0 x4_1).f0))) ++ jd))] ∧ (w'.heap[je]? = some (.cells #[.int .i64 ((rd_T119 l0 x4_1).f0), .int .i64 ((rd_T119 l0 x4_1).f1), .int .i64 ((rd_T119 l0 x4_1).f2)] 119 (0, 0))) ∧ (Below w.heap.size w w') ∧ (b 1 = true → Kd.R Kd.string 9 w' w.heap.size (fun _ => True) jg jb) ∧ (b 1 = true → ∃ c_, (jg : Value) = .slice (some ji) jb.length c_) ∧ (b 4 = true → (m4_ : Value) = .pointer (some (ji.add (((rd_T119 l0 x4_1).f0)).toNat)))) HT_.out HW_.out (by kernel_rfl) (by kernel_rfl) ?_ ?_ ?_
            ·exact ⟨.bool false, ⟨0, 0, none⟩, .bool false, by simp only [putSel, Bool.false_eq_true, if_false], ja.out, HB.out, fun h_ => absurd h_ (by decide), fun h_ => absurd h_ (by decide), fun h_ => absurd h_ (by decide)⟩
            ·skip
             clear ja HB
             refine steps_cons ?_ ?_
             ·rintro b a w' ⟨jg, ji, m4_, ha, jc, Q_HB, jf, jh, Q_X4_⟩ hbl_ hon hoff
              refine ⟨_, rfl, fun K hK => ?_⟩
              replace ha := Aside0.mk ha
              have ja := Aside0.mk jc
              have HB := Aside0.mk Q_HB
              refine Kd.R_lit_step Kd.string _ 9 ?hg (N := 20) ?hd (xs := ([(⟨#[]⟩ : ByteArray), (⟨#[103, 101, 116, 32]⟩ : ByteArray), (⟨#[112, 117, 116, 32]⟩ : ByteArray), (⟨#[97, 100, 100, 32]⟩ : ByteArray), (⟨#[110, 101, 101, 100, 32]⟩ : ByteArray)] : List ByteArray)) (inner := [.string (⟨#[]⟩ : ByteArray), .string (⟨#[103, 101, 116, 32]⟩ : ByteArray), .string (⟨#[112, 117, 116, 32]⟩ : ByteArray), .string (⟨#[97, 100, 100, 32]⟩ : ByteArray), .string (⟨#[110, 101, 101, 100, 32]⟩ : ByteArray)]) (ok := fun _ => True) (okp := fun _ => True) ?hr ?hp (fun _ hk => hk) trivial (Below.refl _ _) (Nat.le_refl _) (by simp) ?_; (case hd => rfl); (case hg => rfl); (case hr => first | (go_simp; done) | (go_simp; rfl)); (case hp => exact (Reps.one (show Kd.M Kd.string _ _ _ (⟨#[]⟩ : ByteArray) [.string (⟨#[]⟩ : ByteArray)] from rfl) (Reps.one (show Kd.M Kd.string _ _ _ (⟨#[103, 101, 116, 32]⟩ : ByteArray) [.string (⟨#[103, 101, 116, 32]⟩ : ByteArray)] from rfl) (Reps.one (show Kd.M Kd.string _ _ _ (⟨#[112, 117, 116, 32]⟩ : ByteArray) [.string (⟨#[112, 117, 116, 32]⟩ : ByteArray)] from rfl) (Reps.one (show Kd.M Kd.string _ _ _ (⟨#[97, 100, 100, 32]⟩ : ByteArray) [.string (⟨#[97, 100, 100, 32]⟩ : ByteArray)] from rfl) (Reps.one (show Kd.M Kd.string _ _ _ (⟨#[110, 101, 101, 100, 32]⟩ : ByteArray) [.string (⟨#[110, 101, 101, 100, 32]⟩ : ByteArray)] from rfl) (Reps.none _ _)))))))
              intro jg w18 ho19 hb hg_ hnew_
              clear hg_ hnew_
              (first | rw [← jr.out] at ho19 | (simp only [Int.reduceToNat] at ho19; rw [← jr.out] at ho19))
              have n0_ := Aside0.mk (Kd.R_lower ho19 (below_size (hb_ HB.out)))
              have n1_ := Aside0.mk (blk_below (bk_ ja.out) hb)
              have n2_ := Aside0.mk (below_step (hb_ HB.out) hb)
              clear ja
              clear HB
              have jj := n0_
              have ja := n1_
              have HB := n2_
              clear n0_ n1_ n2_
              clear hb ho19
              obtain ⟨Ao20, co20, eo20⟩ := Kd.R_slice jj.out
              subst eo20
              obtain ⟨ado20, fo20, _⟩ := Kd.at_string (Kd.R_reads' jj.out).2.2 0 (by decide) (by rw [jr.out]; simp)
              cases fo20
              refine hK.out _ _ ⟨.slice (some ado20) jb.length co20, ado20, m4_, (by rw [ha.out]; exact putSel_upk 0 hbl_ rfl rfl rfl), (bk_ ja.out), (hb_ HB.out), fun _ => (kr_ jj.out), fun _ => ⟨_, rfl⟩, fun h0_ => absurd ((hoff 4 (by kernel_rfl)).symm.trans h0_) (by decide)⟩
             refine steps_cons ?_ ?_
             ·rintro b a w' ⟨jg, ji, m4_, ha, jc, Q_HB, jf, jh, Q_X4_⟩ hbl_ hon hoff
              refine ⟨_, rfl, fun K hK => ?_⟩
              have e21 : a.tmps[21]? = some (.pointer (some ⟨je, 0, none⟩)) := by rw [ha]; exact (putSel_off rfl).trans rfl
              replace ha := Aside0.mk ha
              have ja := Aside0.mk jc
              have HB := Aside0.mk Q_HB
              have hc0_ : w'.cell? ⟨je, 0, none⟩ = some (.int .i64 ((rd_T119 l0 x4_1).f0)) := (blk_cell ja.out 0).trans rfl
              have hc1_ : w'.cell? ⟨je, 1, none⟩ = some (.int .i64 ((rd_T119 l0 x4_1).f1)) := (blk_cell ja.out 1).trans rfl
              have hc2_ : w'.cell? ⟨je, 2, none⟩ = some (.int .i64 ((rd_T119 l0 x4_1).f2)) := (blk_cell ja.out 2).trans rfl
              refine value_ (w1 := w') (v := .int .i64 ((rd_T119 l0 x4_1).f0)) (by rfl) rfl ?_ ?_
              ·go_simp
               (try simp only [i64_w])
               try rfl
              refine hK.out _ _ ⟨jg, ji, m4_, (by rw [ha.out]; exact putSel_upk 1 hbl_ rfl rfl rfl), jc, Q_HB, jf, jh, fun h0_ => absurd ((hoff 4 (by kernel_rfl)).symm.trans h0_) (by decide)⟩
             refine steps_cons ?_ ?_
             ·rintro b a w' ⟨jg, ji, m4_, ha, jc, Q_HB, jf, jh, Q_X4_⟩ hbl_ hon hoff
              refine ⟨_, rfl, fun K hK => ?_⟩
              have e20 : a.tmps[20]? = some (jg) := by rw [ha]; exact putSel_on (e := (1, 20, jg)) 0 rfl rfl (hon 1 (by kernel_rfl)) rfl
              have e22 : a.tmps[22]? = some (.int .i64 ((rd_T119 l0 x4_1).f0)) := by rw [ha]; exact putSel_on (e := (3, 22, .int .i64 ((rd_T119 l0 x4_1).f0))) 1 rfl rfl (hon 3 (by kernel_rfl)) rfl
              replace ha := Aside0.mk ha
              have ja := Aside0.mk jc
              have HB := Aside0.mk Q_HB
              have jj := Aside0.mk (jf (hon 1 (by kernel_rfl)))
              have jl := Aside0.mk (jh (hon 1 (by kernel_rfl)))
              obtain ⟨c_, hv_⟩ := jl.out
              rw [hv_] at e20
              refine value_ (w1 := w') (v := .pointer (some (ji.add (((rd_T119 l0 x4_1).f0)).toNat))) (by rfl) rfl ?_ ?_
              ·go_simp
               (try simp only [i64_w])
               try rfl
              refine hK.out _ _ ⟨jg, ji, (.pointer (some (ji.add (((rd_T119 l0 x4_1).f0)).toNat))), (by rw [ha.out]; exact putSel_upk 2 hbl_ rfl rfl rfl), jc, Q_HB, jf, jh, fun _ => rfl⟩
             refine steps_cons ?_ ?_
             ·rintro b a w' ⟨jg, ji, m4_, ha, jc, Q_HB, jf, jh, Q_X4_⟩ hbl_ hon hoff
              refine ⟨_, rfl, fun K hK => ?_⟩
              have e23 : a.tmps[23]? = some (m4_) := by rw [ha]; exact putSel_on (e := (4, 23, m4_)) 2 rfl rfl (hon 4 (by kernel_rfl)) rfl
              rw [Q_X4_ (hon 4 (by kernel_rfl))] at e23
              replace ha := Aside0.mk ha
              have ja := Aside0.mk jc
              have HB := Aside0.mk Q_HB
              have jj := Aside0.mk (jf (hon 1 (by kernel_rfl)))
              have jl := Aside0.mk (jh (hon 1 (by kernel_rfl)))
              obtain ⟨c_, hv_⟩ := jl.out
              have hF_ := jj.out
              rw [hv_] at hF_
              obtain ⟨ad_, ea_, hx_⟩ := Kd.at_string (Kd.R_reads' hF_).2.2 ((rd_T119 l0 x4_1).f0) (of_eq_true ju) (of_eq_true jx)
              cases ea_
              refine value_ (w1 := w') (v := .string (rdOf ByteArray.empty jb ((rd_T119 l0 x4_1).f0))) (by rfl) rfl ?_ ?_
              ·go_simp
               (try simp only [i64_w])
               try rfl
              refine hK.out _ _ ⟨jg, ji, m4_, (by rw [ha.out]; exact putSel_upk 3 hbl_ rfl rfl rfl), jc, Q_HB, jf, jh, Q_X4_⟩
             refine steps_cons ?_ ?_
             ·rintro b a w' ⟨jg, ji, m4_, ha, jc, Q_HB, jf, jh, Q_X4_⟩ hbl_ hon hoff
              refine ⟨_, rfl, fun K hK => ?_⟩
              have e19 : a.tmps[19]? = some (.string x3_1) := by rw [ha]; exact (putSel_off rfl).trans rfl
              have e24 : a.tmps[24]? = some (.string (rdOf ByteArray.empty jb ((rd_T119 l0 x4_1).f0))) := by rw [ha]; exact putSel_on (e := (5, 24, .string (rdOf ByteArray.empty jb ((rd_T119 l0 x4_1).f0)))) 3 rfl rfl (hon 5 (by kernel_rfl)) rfl
              replace ha := Aside0.mk ha
              have ja := Aside0.mk jc
              have HB := Aside0.mk Q_HB
              have jj := Aside0.mk (jf (hon 1 (by kernel_rfl)))
              have jl := Aside0.mk (jh (hon 1 (by kernel_rfl)))
              refine value_ (w1 := w') (v := .string (x3_1 ++ (rdOf ByteArray.empty jb ((rd_T119 l0 x4_1).f0)))) (by rfl) rfl ?_ ?_
              ·go_simp
               (try simp only [i64_w])
               try rfl
              refine hK.out _ _ ⟨jg, ji, m4_, (by rw [ha.out]; exact putSel_upk 4 hbl_ rfl rfl rfl), jc, Q_HB, jf, jh, Q_X4_⟩
             refine steps_cons ?_ ?_
             ·rintro b a w' ⟨jg, ji, m4_, ha, jc, Q_HB, jf, jh, Q_X4_⟩ hbl_ hon hoff
              refine ⟨_, rfl, fun K hK => ?_⟩
              have e26 : a.tmps[26]? = some (.pointer (some ⟨je, 1, none⟩)) := by rw [ha]; exact (putSel_off rfl).trans rfl
              replace ha := Aside0.mk ha
              have ja := Aside0.mk jc
              have HB := Aside0.mk Q_HB
              have hc0_ : w'.cell? ⟨je, 0, none⟩ = some (.int .i64 ((rd_T119 l0 x4_1).f0)) := (blk_cell ja.out 0).trans rfl
              have hc1_ : w'.cell? ⟨je, 1, none⟩ = some (.int .i64 ((rd_T119 l0 x4_1).f1)) := (blk_cell ja.out 1).trans rfl
              have hc2_ : w'.cell? ⟨je, 2, none⟩ = some (.int .i64 ((rd_T119 l0 x4_1).f2)) := (blk_cell ja.out 2).trans rfl
              refine value_ (w1 := w') (v := .int .i64 ((rd_T119 l0 x4_1).f1)) (by rfl) rfl ?_ ?_
              ·go_simp
               (try simp only [i64_w])
               try rfl
              refine hK.out _ _ ⟨jg, ji, m4_, (by rw [ha.out]; exact putSel_upk 5 hbl_ rfl rfl rfl), jc, Q_HB, jf, jh, Q_X4_⟩
             refine steps_cons ?_ ?_
             ·rintro b a w' ⟨jg, ji, m4_, ha, jc, Q_HB, jf, jh, Q_X4_⟩ hbl_ hon hoff
              refine ⟨_, rfl, fun K hK => ?_⟩
              have e27 : a.tmps[27]? = some (.int .i64 ((rd_T119 l0 x4_1).f1)) := by rw [ha]; exact putSel_on (e := (8, 27, .int .i64 ((rd_T119 l0 x4_1).f1))) 5 rfl rfl (hon 8 (by kernel_rfl)) rfl
              replace ha := Aside0.mk ha
              have ja := Aside0.mk jc
              have HB := Aside0.mk Q_HB
              refine goes_ Try.func73 (by kernel_rfl) rfl #[.int .i64 ((rd_T119 l0 x4_1).f1)] (by rfl) rfl rfl (by first | (simp only [List.map_toArray, List.map_cons, List.map_nil, Act.eval, Array.getD_eq_getD_getElem?, Option.getD_some, e27]; done) | (simp only [List.map_toArray, List.map_cons, List.map_nil, Act.eval, Array.getD_eq_getD_getElem?, Option.getD_some, e27]; rfl)) ?_
              with_reducible refine (spec_l6Dec.calls k1 ((rd_T119 l0 x4_1).f1) jd _ A10.out).mono ?_
              rintro e w18 ⟨rfl, hb⟩
              refine ⟨_, rfl, ?_⟩
              have n0_ := Aside0.mk (blk_below (bk_ ja.out) hb)
              have n1_ := Aside0.mk (below_step (hb_ HB.out) hb)
              have jw := fun (h0_ : b 1 = true) => (show Kd.R Kd.string 9 w18 w.heap.size (fun _ => True) jg jb from by first | exact (Kd.R_below (by (with_reducible repeat (first | apply Kd.R_alloc | apply Kd.R_drewN | apply Kd.R_drew)); exact (jf h0_)) hb) | exact Kd.R_mono (Kd.R_below (by (with_reducible repeat (first | apply Kd.R_alloc | apply Kd.R_drewN | apply Kd.R_drew)); exact (jf h0_)) hb) (fun _ h_ => by first | trivial | exact h_ | exact h_.1))
              clear ja
              clear HB
              have ja := n0_
              have HB := n1_
              clear n0_ n1_
              (try clear hb)
              (try clear hb2)
              (try clear hk)
              (try clear hi)
              refine hK.out _ _ ⟨jg, ji, m4_, (by rw [ha.out]; exact putSel_upk 6 hbl_ rfl rfl rfl), (bk_ ja.out), (hb_ HB.out), jw, jh, Q_X4_⟩
             refine steps_cons ?_ ?_
             ·rintro b a w' ⟨jg, ji, m4_, ha, jc, Q_HB, jf, jh, Q_X4_⟩ hbl_ hon hoff
              refine ⟨_, rfl, fun K hK => ?_⟩
              have e25 : a.tmps[25]? = some (.string (x3_1 ++ (rdOf ByteArray.empty jb ((rd_T119 l0 x4_1).f0)))) := by rw [ha]; exact putSel_on (e := (6, 25, .string (x3_1 ++ (rdOf ByteArray.empty jb ((rd_T119 l0 x4_1).f0))))) 4 rfl rfl (hon 6 (by kernel_rfl)) rfl
              have e28 : a.tmps[28]? = some (.string jd) := by rw [ha]; exact putSel_on (e := (9, 28, .string jd)) 6 rfl rfl (hon 9 (by kernel_rfl)) rfl
              replace ha := Aside0.mk ha
              have ja := Aside0.mk jc
              have HB := Aside0.mk Q_HB
              have jj := Aside0.mk (jf (hon 1 (by kernel_rfl)))
              have jl := Aside0.mk (jh (hon 1 (by kernel_rfl)))
              refine value_ (w1 := w') (v := .string ((x3_1 ++ (rdOf ByteArray.empty jb ((rd_T119 l0 x4_1).f0))) ++ jd)) (by rfl) rfl ?_ ?_
              ·go_simp
               (try simp only [i64_w])
               try rfl
              refine hK.out _ _ ⟨jg, ji, m4_, (by rw [ha.out]; exact putSel_upk 7 hbl_ rfl rfl rfl), jc, Q_HB, jf, jh, Q_X4_⟩
             refine steps_cons ?_ ?_
             ·rintro b a w' ⟨jg, ji, m4_, ha, jc, Q_HB, jf, jh, Q_X4_⟩ hbl_ hon hoff
              refine ⟨_, rfl, fun K hK => ?_⟩
              have e29 : a.tmps[29]? = some (.string ((x3_1 ++ (rdOf ByteArray.empty jb ((rd_T119 l0 x4_1).f0))) ++ jd)) := by rw [ha]; exact putSel_on (e := (10, 29, .string ((x3_1 ++ (rdOf ByteArray.empty jb ((rd_T119 l0 x4_1).f0))) ++ jd))) 7 rfl rfl (hon 10 (by kernel_rfl)) rfl
              replace ha := Aside0.mk ha
              have ja := Aside0.mk jc
              have HB := Aside0.mk Q_HB
              have jj := Aside0.mk (jf (hon 1 (by kernel_rfl)))
              have jl := Aside0.mk (jh (hon 1 (by kernel_rfl)))
              refine value_ (w1 := w') (v := .string ((x3_1 ++ (rdOf ByteArray.empty jb ((rd_T119 l0 x4_1).f0))) ++ jd)) (by rfl) rfl ?_ ?_
              ·go_simp
               (try simp only [i64_w])
               try rfl
              refine hK.out _ _ ⟨jg, ji, m4_, (by rw [ha.out]; exact putSel_upk 8 hbl_ rfl rfl rfl), jc, Q_HB, jf, jh, Q_X4_⟩
             exact steps_nil
            rintro b a w22 hall ⟨jg, ji, m4_, ha, jc, Q_HB, jf, jh, Q_X4_⟩
            clear ja HB
            have hb1_ := hall 1 (by kernel_rfl)
            have hb3_ := hall 3 (by kernel_rfl)
            have hb4_ := hall 4 (by kernel_rfl)
            have hb5_ := hall 5 (by kernel_rfl)
            have hb6_ := hall 6 (by kernel_rfl)
            have hb8_ := hall 8 (by kernel_rfl)
            have hb9_ := hall 9 (by kernel_rfl)
            have hb10_ := hall 10 (by kernel_rfl)
            have hb11_ := hall 11 (by kernel_rfl)
            subst ha
            obtain rfl := Q_X4_ hb4_
            simp only [putSel, hb1_, hb3_, hb4_, hb5_, hb6_, hb8_, hb9_, hb10_, hb11_, if_true, Act.put, List.setIfInBounds_toArray, List.set_cons_zero, List.set_cons_succ]
            have ja := Aside0.mk jc
            clear jc
            have HB := Aside0.mk Q_HB
            clear Q_HB
            have jj := Aside0.mk (jf hb1_)
            clear jf
            have jl := Aside0.mk (jh hb1_)
            clear jh
            clear hall hb1_ hb3_ hb4_ hb5_ hb6_ hb8_ hb9_ hb10_ hb11_
            obtain ⟨co23, eo23⟩ := jl.out
            clear jl
            subst eo23
            have hcz24_0 : w22.cell? ⟨je, 0, none⟩ = some (.int .i64 ((rd_T119 l0 x4_1).f0)) := (blk_cell ja.out 0).trans rfl
            have hcz24_1 : w22.cell? ⟨je, 1, none⟩ = some (.int .i64 ((rd_T119 l0 x4_1).f1)) := (blk_cell ja.out 1).trans rfl
            have hcz24_2 : w22.cell? ⟨je, 2, none⟩ = some (.int .i64 ((rd_T119 l0 x4_1).f2)) := (blk_cell ja.out 2).trans rfl
            have hfz24_0 := blk_frozen ja.out 0
            have hfz24_1 := blk_frozen ja.out 1
            have hfz24_2 := blk_frozen ja.out 2
            try go_wp2
            go_roundg k1
            case measure => have := HK1.out; omega
            case rel => exact ⟨(((x3_1 ++ (rdOf ByteArray.empty jb ((rd_T119 l0 x4_1).f0))) ++ jd) ++ (⟨#[59]⟩ : ByteArray)), (wrap64 (x4_1 + 1)), (by first | rfl | (simp; done) | (simp [*]; done)), (by first | rfl | (simp; done) | (simp [*]; done)), H', ⟨by have := HK1.out; omega⟩, ⟨hb_ HB.out⟩⟩
           ·rw [if_neg c13] at H
            exact absurd H (by simp)
          ·rw [if_neg c12] at H
           have c12b0 : (((rd_T119 l0 x4_1).f0) == 1) = false := beq_eq_false_iff_ne.mpr c12
           have c12b1 : (((rd_T119 l0 x4_1).f0) != 1) = true := bne_iff_ne.mpr c12
           by_cases c25 : ((x3_1 ++ (rdOf ByteArray.empty jb ((rd_T119 l0 x4_1).f0))) ++ jd).size + 1 ≤ 9223372036854775807
           ·rw [if_pos c25] at H
            have c25b0 := eq_true c25
            have c25b1 : decide (((x3_1 ++ (rdOf ByteArray.empty jb ((rd_T119 l0 x4_1).f0))) ++ jd).size + 1 ≤ 9223372036854775807) = true := decide_eq_true c25
            try have c25b2 : (9223372036854775807 < ((x3_1 ++ (rdOf ByteArray.empty jb ((rd_T119 l0 x4_1).f0))) ++ jd).size + 1) = False := eq_false (Nat.not_lt.2 c25)
            have c25s := c25
            simp only [ByteArray.size_append, show (⟨#[32]⟩ : ByteArray).size = 1 from rfl, show (⟨#[59]⟩ : ByteArray).size = 1 from rfl] at c25s
            have c25u := eq_true c25s
            have c25v := eq_false (Nat.not_lt.2 c25s)
            have c25w := decide_eq_true c25s
            clear c25s
            replace H := Option.bind_eq_some_iff.mp H
            obtain ⟨jk, A260, H⟩ := H
            replace H : (if (((x3_1 ++ (rdOf ByteArray.empty jb ((rd_T119 l0 x4_1).f0))) ++ jd) ++ (⟨#[32]⟩ : ByteArray)).size + jk.size ≤ 9223372036854775807 then (if ((((x3_1 ++ (rdOf ByteArray.empty jb ((rd_T119 l0 x4_1).f0))) ++ jd) ++ (⟨#[32]⟩ : ByteArray)) ++ jk).size + 1 ≤ 9223372036854775807 then (spec_DealWrite.l0 k1 l0 (((((x3_1 ++ (rdOf ByteArray.empty jb ((rd_T119 l0 x4_1).f0))) ++ jd) ++ (⟨#[32]⟩ : ByteArray)) ++ jk) ++ (⟨#[59]⟩ : ByteArray)) (wrap64 (x4_1 + 1))) else (none)) else (none)) = some r := H
            have A26 := Aside0.mk A260
            clear A260
            by_cases c27 : (((x3_1 ++ (rdOf ByteArray.empty jb ((rd_T119 l0 x4_1).f0))) ++ jd) ++ (⟨#[32]⟩ : ByteArray)).size + jk.size ≤ 9223372036854775807
            ·rw [if_pos c27] at H
             have c27b0 := eq_true c27
             have c27b1 : decide ((((x3_1 ++ (rdOf ByteArray.empty jb ((rd_T119 l0 x4_1).f0))) ++ jd) ++ (⟨#[32]⟩ : ByteArray)).size + jk.size ≤ 9223372036854775807) = true := decide_eq_true c27
             try have c27b2 : (9223372036854775807 < (((x3_1 ++ (rdOf ByteArray.empty jb ((rd_T119 l0 x4_1).f0))) ++ jd) ++ (⟨#[32]⟩ : ByteArray)).size + jk.size) = False := eq_false (Nat.not_lt.2 c27)
             have c27s := c27
             simp only [ByteArray.size_append, show (⟨#[32]⟩ : ByteArray).size = 1 from rfl, show (⟨#[59]⟩ : ByteArray).size = 1 from rfl] at c27s
             have c27u := eq_true c27s
             have c27v := eq_false (Nat.not_lt.2 c27s)
             have c27w := decide_eq_true c27s
             clear c27s
             by_cases c28 : ((((x3_1 ++ (rdOf ByteArray.empty jb ((rd_T119 l0 x4_1).f0))) ++ jd) ++ (⟨#[32]⟩ : ByteArray)) ++ jk).size + 1 ≤ 9223372036854775807
             ·rw [if_pos c28] at H
              have c28b0 := eq_true c28
              have c28b1 : decide (((((x3_1 ++ (rdOf ByteArray.empty jb ((rd_T119 l0 x4_1).f0))) ++ jd) ++ (⟨#[32]⟩ : ByteArray)) ++ jk).size + 1 ≤ 9223372036854775807) = true := decide_eq_true c28
              try have c28b2 : (9223372036854775807 < ((((x3_1 ++ (rdOf ByteArray.empty jb ((rd_T119 l0 x4_1).f0))) ++ jd) ++ (⟨#[32]⟩ : ByteArray)) ++ jk).size + 1) = False := eq_false (Nat.not_lt.2 c28)
              have c28s := c28
              simp only [ByteArray.size_append, show (⟨#[32]⟩ : ByteArray).size = 1 from rfl, show (⟨#[59]⟩ : ByteArray).size = 1 from rfl] at c28s
              have c28u := eq_true c28s
              have c28v := eq_false (Nat.not_lt.2 c28s)
              have c28w := decide_eq_true c28s
              clear c28s
              have H' := Aside0.mk H
              clear H
              have jq : 0 ≤ (x4_1 : Int) := of_decide_eq_true (by first | (with_reducible assumption) | assumption)
              have jm : x4_1 < (l0.length : Int) := of_decide_eq_true (by first | (with_reducible assumption) | assumption)
              obtain ⟨jA, jv, jn, jo, jp⟩ := at_T119 HR0.out x4_1 jq jm
              cases jv
              replace jn := (HB.out.cell (World.block_lt_of_cell? w _ jn)).trans jn
              replace jo := (HB.out.cell (World.block_lt_of_cell? w _ jo)).trans jo
              replace jp := (HB.out.cell (World.block_lt_of_cell? w _ jp)).trans jp
              replace jq := eq_true jq
              replace jm := eq_true jm
              try go_wp2_with (first | ((with_reducible refine gate_dst (N := 5) rfl ?_); refine box_event ?hg (N := 5) ?hd (cs := #[.int .i64 0, .int .i64 0, .int .i64 0]) (t := 119) ?hr ?_; (case hd => rfl); (case hg => rfl); (case hr => first | (go_simp; done) | (go_simp; rfl)); intro je hg w29 hbox hb; have n0_ := Aside0.mk (below_step (hb_ HB.out) hb); have n1_ := Aside0.mk (hbox); have n2_ := Aside0.mk ((by rw [hg]; exact (below_size (hb_ HB.out)) : w.heap.size ≤ je)); have n3_ := Aside0.mk ((by rw [hg]; exact (below_size (hb_ HB.out)) : w.heap.size ≤ je)); clear HB; have HB := n0_; have ja := n1_; have jy := n2_; have jz := n3_; clear n0_ n1_ n2_ n3_; clear hb hbox hg; have hcz30_0 : w29.cell? ⟨je, 0, none⟩ = some (.int .i64 0) := (blk_cell ja.out 0).trans rfl; have hcz30_1 : w29.cell? ⟨je, 1, none⟩ = some (.int .i64 0) := (blk_cell ja.out 1).trans rfl; have hcz30_2 : w29.cell? ⟨je, 2, none⟩ = some (.int .i64 0) := (blk_cell ja.out 2).trans rfl; have hfz30_0 := blk_frozen ja.out 0; have hfz30_1 := blk_frozen ja.out 1; have hfz30_2 := blk_frozen ja.out 2))
              have ju : (0 ≤ (((rd_T119 l0 x4_1).f0) : Int)) = True := eq_true (of_decide_eq_true (by first | (with_reducible assumption) | assumption))
              have jx : (((rd_T119 l0 x4_1).f0) < (jb.length : Int)) = True := eq_true (of_decide_eq_true (by first | (with_reducible assumption) | assumption))
              have n0_ : Aside0 ((((w29.setCell ⟨je, 0, none⟩ (.int .i64 ((rd_T119 l0 x4_1).f0))).setCell ⟨je, 1, none⟩ (.int .i64 ((rd_T119 l0 x4_1).f1))).setCell ⟨je, 2, none⟩ (.int .i64 ((rd_T119 l0 x4_1).f2))).heap[je]? = some (.cells #[.int .i64 ((rd_T119 l0 x4_1).f0), .int .i64 ((rd_T119 l0 x4_1).f1), .int .i64 ((rd_T119 l0 x4_1).f2)] 119 (0, 0))) := ⟨by (with_reducible repeat (first | refine blk_drewN ?_ _ | refine blk_drew ?_ | refine blk_alloc ?_ _)); refine blk_put (cs := #[.int .i64 ((rd_T119 l0 x4_1).f0), .int .i64 ((rd_T119 l0 x4_1).f1), .int .i64 0]) ?_ 2 _ rfl; (with_reducible repeat (first | refine blk_drewN ?_ _ | refine blk_drew ?_ | refine blk_alloc ?_ _)); refine blk_put (cs := #[.int .i64 ((rd_T119 l0 x4_1).f0), .int .i64 0, .int .i64 0]) ?_ 1 _ rfl; (with_reducible repeat (first | refine blk_drewN ?_ _ | refine blk_drew ?_ | refine blk_alloc ?_ _)); refine blk_put (cs := #[.int .i64 0, .int .i64 0, .int .i64 0]) ?_ 0 _ rfl; (with_reducible repeat (first | refine blk_drewN ?_ _ | refine blk_drew ?_ | refine blk_alloc ?_ _)); exact ja.out⟩
              have n1_ : Aside0 (Below w.heap.size w (((w29.setCell ⟨je, 0, none⟩ (.int .i64 ((rd_T119 l0 x4_1).f0))).setCell ⟨je, 1, none⟩ (.int .i64 ((rd_T119 l0 x4_1).f1))).setCell ⟨je, 2, none⟩ (.int .i64 ((rd_T119 l0 x4_1).f2)))) := ⟨hb_ HB.out⟩
              (try clear ja)
              (try clear HB)
              generalize (((w29.setCell ⟨je, 0, none⟩ (.int .i64 ((rd_T119 l0 x4_1).f0))).setCell ⟨je, 1, none⟩ (.int .i64 ((rd_T119 l0 x4_1).f1))).setCell ⟨je, 2, none⟩ (.int .i64 ((rd_T119 l0 x4_1).f2))) = w31 at n0_ n1_ ⊢
              have ja := n0_
              have HB := n1_
              clear n0_ n1_
              have n0_ := Aside0.mk (blk_drew ja.out)
              have n1_ := Aside0.mk (below_drew1 HB.out)
              clear ja
              clear HB
              have ja := n0_
              have HB := n1_
              clear n0_ n1_
              refine start_ (n := 12) (S := fun w' => True) (ds := []) (bt_ 12 0) (by kernel_rfl) rfl rfl trivial (fun hHeld => ?_); refine with_tabW spec_DealWrite.tab8 spec_DealWrite.bits8 (fun HT_ HW_ => ?_)
              generalize w31.drew = w32 at ja HB hHeld ⊢
              refine pu_ 0 (some 19) (bt_ 12 1) (any_of HT_.out (by kernel_rfl)) ?_
              refine pu_ 2 (some 21) (bt_ 12 5) (any_of HT_.out (by kernel_rfl)) ?_
              refine pu_ 7 (some 26) (bt_ 12 133) (any_of HT_.out (by kernel_rfl)) ?_
              refine inv_at [1, 3, 4, 5, 6, 8, 9, 10, 11] (fun a0_ b a w' => ∃ (jg : Value) (ji : Addr) (m4_ : Value), a = putSel a0_ b [(1, 20, jg), (3, 22, .int .i64 ((rd_T119 l0 x4_1).f0)), (4, 23, m4_), (5, 24, .string (rdOf ByteArray.empty jb ((rd_T119 l0 x4_1).f0))), (6, 25, .string (x3_1 ++ (rdOf ByteArray.empty jb ((rd_T119 l0 x4_1).f0)))), (8, 27, .int .i64 ((rd_T119 l0 x4_1).f1)), (9, 28, .string jd), (10, 29, .string ((x3_1 ++ (rdOf ByteArray.empty jb ((rd_T119 l0 x4_1).f0))) ++ jd)), (11, 3, .string ((x3_1 ++ (rdOf ByteArray.empty jb ((rd_T119 l0 x4_1).f0))) ++ jd))] ∧ (w'.heap[je]? = some (.cells #[.int .i64 ((rd_T119 l0 x4_1).f0), .int .i64 ((rd_T119 l0 x4_1).f1), .int .i64 ((rd_T119 l0 x4_1).f2)] 119 (0, 0))) ∧ (Below w.heap.size w w') ∧ (b 1 = true → Kd.R Kd.string 9 w' w.heap.size (fun _ => True) jg jb) ∧ (b 1 = true → ∃ c_, (jg : Value) = .slice (some ji) jb.length c_) ∧ (b 4 = true → (m4_ : Value) = .pointer (some (ji.add (((rd_T119 l0 x4_1).f0)).toNat)))) HT_.out HW_.out (by kernel_rfl) (by kernel_rfl) ?_ ?_ ?_
              ·exact ⟨.bool false, ⟨0, 0, none⟩, .bool false, by simp only [putSel, Bool.false_eq_true, if_false], ja.out, HB.out, fun h_ => absurd h_ (by decide), fun h_ => absurd h_ (by decide), fun h_ => absurd h_ (by decide)⟩
              ·skip
               clear ja HB
               refine steps_cons ?_ ?_
               ·rintro b a w' ⟨jg, ji, m4_, ha, jc, Q_HB, jf, jh, Q_X4_⟩ hbl_ hon hoff
                refine ⟨_, rfl, fun K hK => ?_⟩
                replace ha := Aside0.mk ha
                have ja := Aside0.mk jc
                have HB := Aside0.mk Q_HB
                refine Kd.R_lit_step Kd.string _ 9 ?hg (N := 20) ?hd (xs := ([(⟨#[]⟩ : ByteArray), (⟨#[103, 101, 116, 32]⟩ : ByteArray), (⟨#[112, 117, 116, 32]⟩ : ByteArray), (⟨#[97, 100, 100, 32]⟩ : ByteArray), (⟨#[110, 101, 101, 100, 32]⟩ : ByteArray)] : List ByteArray)) (inner := [.string (⟨#[]⟩ : ByteArray), .string (⟨#[103, 101, 116, 32]⟩ : ByteArray), .string (⟨#[112, 117, 116, 32]⟩ : ByteArray), .string (⟨#[97, 100, 100, 32]⟩ : ByteArray), .string (⟨#[110, 101, 101, 100, 32]⟩ : ByteArray)]) (ok := fun _ => True) (okp := fun _ => True) ?hr ?hp (fun _ hk => hk) trivial (Below.refl _ _) (Nat.le_refl _) (by simp) ?_; (case hd => rfl); (case hg => rfl); (case hr => first | (go_simp; done) | (go_simp; rfl)); (case hp => exact (Reps.one (show Kd.M Kd.string _ _ _ (⟨#[]⟩ : ByteArray) [.string (⟨#[]⟩ : ByteArray)] from rfl) (Reps.one (show Kd.M Kd.string _ _ _ (⟨#[103, 101, 116, 32]⟩ : ByteArray) [.string (⟨#[103, 101, 116, 32]⟩ : ByteArray)] from rfl) (Reps.one (show Kd.M Kd.string _ _ _ (⟨#[112, 117, 116, 32]⟩ : ByteArray) [.string (⟨#[112, 117, 116, 32]⟩ : ByteArray)] from rfl) (Reps.one (show Kd.M Kd.string _ _ _ (⟨#[97, 100, 100, 32]⟩ : ByteArray) [.string (⟨#[97, 100, 100, 32]⟩ : ByteArray)] from rfl) (Reps.one (show Kd.M Kd.string _ _ _ (⟨#[110, 101, 101, 100, 32]⟩ : ByteArray) [.string (⟨#[110, 101, 101, 100, 32]⟩ : ByteArray)] from rfl) (Reps.none _ _)))))))
                intro jg w33 ho34 hb hg_ hnew_
                clear hg_ hnew_
                (first | rw [← jr.out] at ho34 | (simp only [Int.reduceToNat] at ho34; rw [← jr.out] at ho34))
                have n0_ := Aside0.mk (Kd.R_lower ho34 (below_size (hb_ HB.out)))
                have n1_ := Aside0.mk (blk_below (bk_ ja.out) hb)
                have n2_ := Aside0.mk (below_step (hb_ HB.out) hb)
                clear ja
                clear HB
                have jj := n0_
                have ja := n1_
                have HB := n2_
                clear n0_ n1_ n2_
                clear hb ho34
                obtain ⟨Ao35, co35, eo35⟩ := Kd.R_slice jj.out
                subst eo35
                obtain ⟨ado35, fo35, _⟩ := Kd.at_string (Kd.R_reads' jj.out).2.2 0 (by decide) (by rw [jr.out]; simp)
                cases fo35
                refine hK.out _ _ ⟨.slice (some ado35) jb.length co35, ado35, m4_, (by rw [ha.out]; exact putSel_upk 0 hbl_ rfl rfl rfl), (bk_ ja.out), (hb_ HB.out), fun _ => (kr_ jj.out), fun _ => ⟨_, rfl⟩, fun h0_ => absurd ((hoff 4 (by kernel_rfl)).symm.trans h0_) (by decide)⟩
               refine steps_cons ?_ ?_
               ·rintro b a w' ⟨jg, ji, m4_, ha, jc, Q_HB, jf, jh, Q_X4_⟩ hbl_ hon hoff
                refine ⟨_, rfl, fun K hK => ?_⟩
                have e21 : a.tmps[21]? = some (.pointer (some ⟨je, 0, none⟩)) := by rw [ha]; exact (putSel_off rfl).trans rfl
                replace ha := Aside0.mk ha
                have ja := Aside0.mk jc
                have HB := Aside0.mk Q_HB
                have hc0_ : w'.cell? ⟨je, 0, none⟩ = some (.int .i64 ((rd_T119 l0 x4_1).f0)) := (blk_cell ja.out 0).trans rfl
                have hc1_ : w'.cell? ⟨je, 1, none⟩ = some (.int .i64 ((rd_T119 l0 x4_1).f1)) := (blk_cell ja.out 1).trans rfl
                have hc2_ : w'.cell? ⟨je, 2, none⟩ = some (.int .i64 ((rd_T119 l0 x4_1).f2)) := (blk_cell ja.out 2).trans rfl
                refine value_ (w1 := w') (v := .int .i64 ((rd_T119 l0 x4_1).f0)) (by rfl) rfl ?_ ?_
                ·go_simp
                 (try simp only [i64_w])
                 try rfl
                refine hK.out _ _ ⟨jg, ji, m4_, (by rw [ha.out]; exact putSel_upk 1 hbl_ rfl rfl rfl), jc, Q_HB, jf, jh, fun h0_ => absurd ((hoff 4 (by kernel_rfl)).symm.trans h0_) (by decide)⟩
               refine steps_cons ?_ ?_
               ·rintro b a w' ⟨jg, ji, m4_, ha, jc, Q_HB, jf, jh, Q_X4_⟩ hbl_ hon hoff
                refine ⟨_, rfl, fun K hK => ?_⟩
                have e20 : a.tmps[20]? = some (jg) := by rw [ha]; exact putSel_on (e := (1, 20, jg)) 0 rfl rfl (hon 1 (by kernel_rfl)) rfl
                have e22 : a.tmps[22]? = some (.int .i64 ((rd_T119 l0 x4_1).f0)) := by rw [ha]; exact putSel_on (e := (3, 22, .int .i64 ((rd_T119 l0 x4_1).f0))) 1 rfl rfl (hon 3 (by kernel_rfl)) rfl
                replace ha := Aside0.mk ha
                have ja := Aside0.mk jc
                have HB := Aside0.mk Q_HB
                have jj := Aside0.mk (jf (hon 1 (by kernel_rfl)))
                have jl := Aside0.mk (jh (hon 1 (by kernel_rfl)))
                obtain ⟨c_, hv_⟩ := jl.out
                rw [hv_] at e20
                refine value_ (w1 := w') (v := .pointer (some (ji.add (((rd_T119 l0 x4_1).f0)).toNat))) (by rfl) rfl ?_ ?_
                ·go_simp
                 (try simp only [i64_w])
                 try rfl
                refine hK.out _ _ ⟨jg, ji, (.pointer (some (ji.add (((rd_T119 l0 x4_1).f0)).toNat))), (by rw [ha.out]; exact putSel_upk 2 hbl_ rfl rfl rfl), jc, Q_HB, jf, jh, fun _ => rfl⟩
               refine steps_cons ?_ ?_
               ·rintro b a w' ⟨jg, ji, m4_, ha, jc, Q_HB, jf, jh, Q_X4_⟩ hbl_ hon hoff
                refine ⟨_, rfl, fun K hK => ?_⟩
                have e23 : a.tmps[23]? = some (m4_) := by rw [ha]; exact putSel_on (e := (4, 23, m4_)) 2 rfl rfl (hon 4 (by kernel_rfl)) rfl
                rw [Q_X4_ (hon 4 (by kernel_rfl))] at e23
                replace ha := Aside0.mk ha
                have ja := Aside0.mk jc
                have HB := Aside0.mk Q_HB
                have jj := Aside0.mk (jf (hon 1 (by kernel_rfl)))
                have jl := Aside0.mk (jh (hon 1 (by kernel_rfl)))
                obtain ⟨c_, hv_⟩ := jl.out
                have hF_ := jj.out
                rw [hv_] at hF_
                obtain ⟨ad_, ea_, hx_⟩ := Kd.at_string (Kd.R_reads' hF_).2.2 ((rd_T119 l0 x4_1).f0) (of_eq_true ju) (of_eq_true jx)
                cases ea_
                refine value_ (w1 := w') (v := .string (rdOf ByteArray.empty jb ((rd_T119 l0 x4_1).f0))) (by rfl) rfl ?_ ?_
                ·go_simp
                 (try simp only [i64_w])
                 try rfl
                refine hK.out _ _ ⟨jg, ji, m4_, (by rw [ha.out]; exact putSel_upk 3 hbl_ rfl rfl rfl), jc, Q_HB, jf, jh, Q_X4_⟩
               refine steps_cons ?_ ?_
               ·rintro b a w' ⟨jg, ji, m4_, ha, jc, Q_HB, jf, jh, Q_X4_⟩ hbl_ hon hoff
                refine ⟨_, rfl, fun K hK => ?_⟩
                have e19 : a.tmps[19]? = some (.string x3_1) := by rw [ha]; exact (putSel_off rfl).trans rfl
                have e24 : a.tmps[24]? = some (.string (rdOf ByteArray.empty jb ((rd_T119 l0 x4_1).f0))) := by rw [ha]; exact putSel_on (e := (5, 24, .string (rdOf ByteArray.empty jb ((rd_T119 l0 x4_1).f0)))) 3 rfl rfl (hon 5 (by kernel_rfl)) rfl
                replace ha := Aside0.mk ha
                have ja := Aside0.mk jc
                have HB := Aside0.mk Q_HB
                have jj := Aside0.mk (jf (hon 1 (by kernel_rfl)))
                have jl := Aside0.mk (jh (hon 1 (by kernel_rfl)))
                refine value_ (w1 := w') (v := .string (x3_1 ++ (rdOf ByteArray.empty jb ((rd_T119 l0 x4_1).f0)))) (by rfl) rfl ?_ ?_
                ·go_simp
                 (try simp only [i64_w])
                 try rfl
                refine hK.out _ _ ⟨jg, ji, m4_, (by rw [ha.out]; exact putSel_upk 4 hbl_ rfl rfl rfl), jc, Q_HB, jf, jh, Q_X4_⟩
               refine steps_cons ?_ ?_
               ·rintro b a w' ⟨jg, ji, m4_, ha, jc, Q_HB, jf, jh, Q_X4_⟩ hbl_ hon hoff
                refine ⟨_, rfl, fun K hK => ?_⟩
                have e26 : a.tmps[26]? = some (.pointer (some ⟨je, 1, none⟩)) := by rw [ha]; exact (putSel_off rfl).trans rfl
                replace ha := Aside0.mk ha
                have ja := Aside0.mk jc
                have HB := Aside0.mk Q_HB
                have hc0_ : w'.cell? ⟨je, 0, none⟩ = some (.int .i64 ((rd_T119 l0 x4_1).f0)) := (blk_cell ja.out 0).trans rfl
                have hc1_ : w'.cell? ⟨je, 1, none⟩ = some (.int .i64 ((rd_T119 l0 x4_1).f1)) := (blk_cell ja.out 1).trans rfl
                have hc2_ : w'.cell? ⟨je, 2, none⟩ = some (.int .i64 ((rd_T119 l0 x4_1).f2)) := (blk_cell ja.out 2).trans rfl
                refine value_ (w1 := w') (v := .int .i64 ((rd_T119 l0 x4_1).f1)) (by rfl) rfl ?_ ?_
                ·go_simp
                 (try simp only [i64_w])
                 try rfl
                refine hK.out _ _ ⟨jg, ji, m4_, (by rw [ha.out]; exact putSel_upk 5 hbl_ rfl rfl rfl), jc, Q_HB, jf, jh, Q_X4_⟩
               refine steps_cons ?_ ?_
               ·rintro b a w' ⟨jg, ji, m4_, ha, jc, Q_HB, jf, jh, Q_X4_⟩ hbl_ hon hoff
                refine ⟨_, rfl, fun K hK => ?_⟩
                have e27 : a.tmps[27]? = some (.int .i64 ((rd_T119 l0 x4_1).f1)) := by rw [ha]; exact putSel_on (e := (8, 27, .int .i64 ((rd_T119 l0 x4_1).f1))) 5 rfl rfl (hon 8 (by kernel_rfl)) rfl
                replace ha := Aside0.mk ha
                have ja := Aside0.mk jc
                have HB := Aside0.mk Q_HB
                refine goes_ Try.func73 (by kernel_rfl) rfl #[.int .i64 ((rd_T119 l0 x4_1).f1)] (by rfl) rfl rfl (by first | (simp only [List.map_toArray, List.map_cons, List.map_nil, Act.eval, Array.getD_eq_getD_getElem?, Option.getD_some, e27]; done) | (simp only [List.map_toArray, List.map_cons, List.map_nil, Act.eval, Array.getD_eq_getD_getElem?, Option.getD_some, e27]; rfl)) ?_
                with_reducible refine (spec_l6Dec.calls k1 ((rd_T119 l0 x4_1).f1) jd _ A10.out).mono ?_
                rintro e w33 ⟨rfl, hb⟩
                refine ⟨_, rfl, ?_⟩
                have n0_ := Aside0.mk (blk_below (bk_ ja.out) hb)
                have n1_ := Aside0.mk (below_step (hb_ HB.out) hb)
                have jw := fun (h0_ : b 1 = true) => (show Kd.R Kd.string 9 w33 w.heap.size (fun _ => True) jg jb from by first | exact (Kd.R_below (by (with_reducible repeat (first | apply Kd.R_alloc | apply Kd.R_drewN | apply Kd.R_drew)); exact (jf h0_)) hb) | exact Kd.R_mono (Kd.R_below (by (with_reducible repeat (first | apply Kd.R_alloc | apply Kd.R_drewN | apply Kd.R_drew)); exact (jf h0_)) hb) (fun _ h_ => by first | trivial | exact h_ | exact h_.1))
                clear ja
                clear HB
                have ja := n0_
                have HB := n1_
                clear n0_ n1_
                (try clear hb)
                (try clear hb2)
                (try clear hk)
                (try clear hi)
                refine hK.out _ _ ⟨jg, ji, m4_, (by rw [ha.out]; exact putSel_upk 6 hbl_ rfl rfl rfl), (bk_ ja.out), (hb_ HB.out), jw, jh, Q_X4_⟩
               refine steps_cons ?_ ?_
               ·rintro b a w' ⟨jg, ji, m4_, ha, jc, Q_HB, jf, jh, Q_X4_⟩ hbl_ hon hoff
                refine ⟨_, rfl, fun K hK => ?_⟩
                have e25 : a.tmps[25]? = some (.string (x3_1 ++ (rdOf ByteArray.empty jb ((rd_T119 l0 x4_1).f0)))) := by rw [ha]; exact putSel_on (e := (6, 25, .string (x3_1 ++ (rdOf ByteArray.empty jb ((rd_T119 l0 x4_1).f0))))) 4 rfl rfl (hon 6 (by kernel_rfl)) rfl
                have e28 : a.tmps[28]? = some (.string jd) := by rw [ha]; exact putSel_on (e := (9, 28, .string jd)) 6 rfl rfl (hon 9 (by kernel_rfl)) rfl
                replace ha := Aside0.mk ha
                have ja := Aside0.mk jc
                have HB := Aside0.mk Q_HB
                have jj := Aside0.mk (jf (hon 1 (by kernel_rfl)))
                have jl := Aside0.mk (jh (hon 1 (by kernel_rfl)))
                refine value_ (w1 := w') (v := .string ((x3_1 ++ (rdOf ByteArray.empty jb ((rd_T119 l0 x4_1).f0))) ++ jd)) (by rfl) rfl ?_ ?_
                ·go_simp
                 (try simp only [i64_w])
                 try rfl
                refine hK.out _ _ ⟨jg, ji, m4_, (by rw [ha.out]; exact putSel_upk 7 hbl_ rfl rfl rfl), jc, Q_HB, jf, jh, Q_X4_⟩
               refine steps_cons ?_ ?_
               ·rintro b a w' ⟨jg, ji, m4_, ha, jc, Q_HB, jf, jh, Q_X4_⟩ hbl_ hon hoff
                refine ⟨_, rfl, fun K hK => ?_⟩
                have e29 : a.tmps[29]? = some (.string ((x3_1 ++ (rdOf ByteArray.empty jb ((rd_T119 l0 x4_1).f0))) ++ jd)) := by rw [ha]; exact putSel_on (e := (10, 29, .string ((x3_1 ++ (rdOf ByteArray.empty jb ((rd_T119 l0 x4_1).f0))) ++ jd))) 7 rfl rfl (hon 10 (by kernel_rfl)) rfl
                replace ha := Aside0.mk ha
                have ja := Aside0.mk jc
                have HB := Aside0.mk Q_HB
                have jj := Aside0.mk (jf (hon 1 (by kernel_rfl)))
                have jl := Aside0.mk (jh (hon 1 (by kernel_rfl)))
                refine value_ (w1 := w') (v := .string ((x3_1 ++ (rdOf ByteArray.empty jb ((rd_T119 l0 x4_1).f0))) ++ jd)) (by rfl) rfl ?_ ?_
                ·go_simp
                 (try simp only [i64_w])
                 try rfl
                refine hK.out _ _ ⟨jg, ji, m4_, (by rw [ha.out]; exact putSel_upk 8 hbl_ rfl rfl rfl), jc, Q_HB, jf, jh, Q_X4_⟩
               exact steps_nil
              rintro b a w37 hall ⟨jg, ji, m4_, ha, jc, Q_HB, jf, jh, Q_X4_⟩
              clear ja HB
              have hb1_ := hall 1 (by kernel_rfl)
              have hb3_ := hall 3 (by kernel_rfl)
              have hb4_ := hall 4 (by kernel_rfl)
              have hb5_ := hall 5 (by kernel_rfl)
              have hb6_ := hall 6 (by kernel_rfl)
              have hb8_ := hall 8 (by kernel_rfl)
              have hb9_ := hall 9 (by kernel_rfl)
              have hb10_ := hall 10 (by kernel_rfl)
              have hb11_ := hall 11 (by kernel_rfl)
              subst ha
              obtain rfl := Q_X4_ hb4_
              simp only [putSel, hb1_, hb3_, hb4_, hb5_, hb6_, hb8_, hb9_, hb10_, hb11_, if_true, Act.put, List.setIfInBounds_toArray, List.set_cons_zero, List.set_cons_succ]
              have ja := Aside0.mk jc
              clear jc
              have HB := Aside0.mk Q_HB
              clear Q_HB
              have jj := Aside0.mk (jf hb1_)
              clear jf
              have jl := Aside0.mk (jh hb1_)
              clear jh
              clear hall hb1_ hb3_ hb4_ hb5_ hb6_ hb8_ hb9_ hb10_ hb11_
              obtain ⟨co38, eo38⟩ := jl.out
              clear jl
              subst eo38
              have hcz39_0 : w37.cell? ⟨je, 0, none⟩ = some (.int .i64 ((rd_T119 l0 x4_1).f0)) := (blk_cell ja.out 0).trans rfl
              have hcz39_1 : w37.cell? ⟨je, 1, none⟩ = some (.int .i64 ((rd_T119 l0 x4_1).f1)) := (blk_cell ja.out 1).trans rfl
              have hcz39_2 : w37.cell? ⟨je, 2, none⟩ = some (.int .i64 ((rd_T119 l0 x4_1).f2)) := (blk_cell ja.out 2).trans rfl
              have hfz39_0 := blk_frozen ja.out 0
              have hfz39_1 := blk_frozen ja.out 1
              have hfz39_2 := blk_frozen ja.out 2
              try go_wp2_with (first | ((with_reducible refine gate_callee (f := 74) rfl ?_); refine goesL_ (some 37) rfl rfl Try.func74 (by kernel_rfl) rfl #[.int .i64 ((rd_T119 l0 x4_1).f2)] rfl (by (try simp only [List.map_toArray, List.map_cons, List.map_nil]); first | done | rfl | (simp only [List.length_drop, List.length_take]; rfl)) ?_; (with_reducible refine (spec_l1Int.calls k1 ((rd_T119 l0 x4_1).f2) jk _ A26.out).mono ?_); rintro e w40 ⟨rfl, hb⟩; refine ⟨_, rfl, ?_⟩; have n0_ := Aside0.mk (Kd.R_below (kr_ jj.out) hb); have n1_ := Aside0.mk (blk_below (bk_ ja.out) hb); have n2_ := Aside0.mk (below_step (hb_ HB.out) hb); clear jj; clear ja; clear HB; have jj := n0_; have ja := n1_; have HB := n2_; clear n0_ n1_ n2_; (try clear hb); (try clear hb2); (try clear hk); (try clear hi)))
              go_roundg k1
              case measure => have := HK1.out; omega
              case rel => exact ⟨(((((x3_1 ++ (rdOf ByteArray.empty jb ((rd_T119 l0 x4_1).f0))) ++ jd) ++ (⟨#[32]⟩ : ByteArray)) ++ jk) ++ (⟨#[59]⟩ : ByteArray)), (wrap64 (x4_1 + 1)), (by first | rfl | (simp; done) | (simp [*]; done)), (by first | rfl | (simp; done) | (simp [*]; done)), H', ⟨by have := HK1.out; omega⟩, ⟨hb_ HB.out⟩⟩
             ·rw [if_neg c28] at H
              exact absurd H (by simp)
            ·rw [if_neg c27] at H
             exact absurd H (by simp)
           ·rw [if_neg c25] at H
            exact absurd H (by simp)
         ·rw [if_neg c11] at H
          exact absurd H (by simp)
        ·rw [if_neg c9] at H
         exact absurd H (by simp)
       ·rw [if_neg c8] at H
        exact absurd H (by simp)
      ·rw [if_neg c7] at H
       exact absurd H (by simp)
     ·rw [if_neg c6] at H
      exact absurd H (by simp)
    ·rw [if_neg c5] at H
     have c5b0 : decide (x4_1 < (l0.length : Int)) = false := decide_eq_false c5
     clear c5
     obtain rfl := Option.some.inj H
     go_wp2
     go_ret
     exact ⟨by first | rfl | (simp [errW_none, errW_some] <;> rfl) | (simp [*, errW_none, errW_some] <;> rfl), by repeat (first | (with_reducible first | exact HB.out | apply below_alloc | apply pw_below_drewN | apply below_drew1) | exact HB.out)⟩
 ·replace c3 := Bool.eq_false_iff.mpr c3
  subst c3
  have H1 : (some (⟨#[]⟩ : ByteArray)) = some r := by rw [if_neg (show ¬ (false = true) by decide)] at H; exact H
  clear H
  have H := H1
  clear H1
  obtain rfl := Option.some.inj H
  go_enter Try.func68, Try.ntmps68
  go_wp2_with (first | ((with_reducible refine gate_callee (f := 72) rfl ?_); refine goesL_ (some 7) rfl rfl Try.func72 (by kernel_rfl) rfl #[.slice A0 l0.length c0] rfl (by (try simp only [List.map_toArray, List.map_cons, List.map_nil]); first | done | rfl | (simp only [List.length_drop, List.length_take]; rfl)) ?_; (with_reducible refine (spec_DealOk.calls k _ _ l0 false _ ?side1 ?side2 A2.out).mono ?_); (case side1 => repeat (first | exact HR0.out | (with_reducible refine Kd.C_alloc ?_ _) | (with_reducible refine Kd.C_drewN ?_ _) | (with_reducible refine Kd.C_drew ?_))); (case side2 => exact HC0.out); rintro e w41 ⟨rfl, hb⟩; refine ⟨_, rfl, ?_⟩; have n0_ := Aside0.mk (below_step (hb_ HB.out) hb); clear HB; have HB := n0_; clear n0_; (try clear hb); (try clear hb2); (try clear hk); (try clear hi)))
  go_ret
  exact ⟨by first | rfl | (simp [errW_none, errW_some] <;> rfl) | (simp [*, errW_none, errW_some] <;> rfl), by repeat (first | (with_reducible first | exact HB.out | apply below_alloc | apply pw_below_drewN | apply below_drew1) | exact HB.out)⟩

end Go.Proofs.Ytbjdnfgalopfiaa.PD
