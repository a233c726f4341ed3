import Derived.Test.YtbjdnfgalopfiaaPEx0
import Derived.Test.YtbjdnfgalopfiaaPEx26
import Derived.Test.YtbjdnfgalopfiaaPEx27
import Derived.Test.YtbjdnfgalopfiaaPEx28
import Derived.Test.YtbjdnfgalopfiaaPEx30
import Derived.Test.YtbjdnfgalopfiaaPEx32
import Derived.Test.YtbjdnfgalopfiaaPEx33
namespace Go.Proofs.Ytbjdnfgalopfiaa.PE
open Go.RowKit Go.Proofs.YtbjdnfgalopfiaaW.PrintWords Go.Proofs.YtbjdnfgalopfiaaW.PrintLast Go.Proofs.YtbjdnfgalopfiaaW.PrintMore
attribute [local go_sem] max2_int min2_int max_two min_two max_three min_three max_four min_four
set_option linter.unusedVariables false
set_option linter.unusedSimpArgs false

def impl_WordOk.f (k : Nat) (a0_0 : Int) (a0_1 : Int) (a0_2 : Int) (a0_3 : Int) (a0_4 : Int) (a0_5 : Int) (a0_6 : Bool) (l0_7 : List Int) (l0_8 : List (S68)) (a0_9 : Int) (l0_10 : List Int) (a0_11 : Int) (a0_12 : Int) (a0_13 : Int) (a0_14 : ByteArray) (a0_15 : Int) (a0_16 : Int) : Option (Bool) := (impl_within.f a0_0 1 9).bind fun t100003 => (if t100003 = true then ((impl_arePlaces.f k (([a0_1, a0_2] : List Int))).bind fun t100007 => (if t100007 = true then ((impl_allWithin.f k 9999 (([a0_3, a0_4, a0_11, a0_12, a0_13, a0_15, a0_16] : List Int))).bind fun t100011 => (if t100011 = true then ((impl_allWithin.f k 3 (([a0_5] : List Int))).bind fun t100015 => (if t100015 = true then ((impl_allWithin.f k 9 (([a0_9] : List Int))).bind fun t100019 => (if t100019 = true then ((impl_allWithin.f k 80 (([(a0_14.size : Int)] : List Int))).bind fun t100023 => (if t100023 = true then ((impl_rising.f l0_7).bind fun t100024 => (if t100024 = true then ((impl_pairsOk.f k l0_8).bind fun t100025 => (if t100025 = true then ((impl_valsOk.f k l0_10).bind fun t100026 => (some t100026)) else (some false))) else (some false))) else (some false))) else (some false))) else (some false))) else (some false))) else (some false))) else (some false))
theorem impl_WordOk.mono : ∀ a0 a1 a2 a3 a4 a5 a6 a7 a8 a9 a10 a11 a12 a13 a14 a15 a16 k, LeO (impl_WordOk.f k a0 a1 a2 a3 a4 a5 a6 a7 a8 a9 a10 a11 a12 a13 a14 a15 a16) (impl_WordOk.f (k + 1) a0 a1 a2 a3 a4 a5 a6 a7 a8 a9 a10 a11 a12 a13 a14 a15 a16) := by
 intro a0 a1 a2 a3 a4 a5 a6 a7 a8 a9 a10 a11 a12 a13 a14 a15 a16 k
 unfold impl_WordOk.f
 repeat' first
  | (with_reducible exact impl_allWithin.mono _ _ _)
  | (with_reducible exact impl_arePlaces.mono _ _)
  | (with_reducible exact impl_pairsOk.mono _ _)
  | (with_reducible exact impl_valsOk.mono _ _)
  | (with_reducible exact LeO.refl _)
  | (with_reducible exact LeO.none _)
  | (with_reducible refine LeO.ite ?_ ?_)
  | (with_reducible refine LeO.bind ?_ (fun _ => ?_))
  | exact impl_allWithin.mono _ _ _
  | exact impl_arePlaces.mono _ _
  | exact impl_pairsOk.mono _ _
  | exact impl_valsOk.mono _ _
  | exact LeO.none _
  | refine LeO.ite ?_ ?_
  | refine LeO.bind ?_ (fun _ => ?_)
set_option maxHeartbeats 8000000 in
set_option maxRecDepth 100000 in
theorem impl_WordOk.calls (k : Nat) (a0_0 : Int) (a0_1 : Int) (a0_2 : Int) (a0_3 : Int) (a0_4 : Int) (a0_5 : Int) (a0_6 : Bool) (A0_7 : Option Addr) (c0_7 : Nat) (l0_7 : List Int) (A0_8 : Option Addr) (c0_8 : Nat) (l0_8 : List (S68)) (a0_9 : Int) (A0_10 : Option Addr) (c0_10 : Nat) (l0_10 : List Int) (a0_11 : Int) (a0_12 : Int) (a0_13 : Int) (a0_14 : ByteArray) (a0_15 : Int) (a0_16 : Int) (r : Bool) (w : World) (hr0_7 : Kd.C (Kd.int .i64) w A0_7 l0_7.length l0_7) (hc0_7 : l0_7.length ≤ c0_7) (hr0_8 : Kd.C k68 w A0_8 l0_8.length l0_8) (hc0_8 : l0_8.length ≤ c0_8) (hr0_10 : Kd.C (Kd.int .i64) w A0_10 l0_10.length l0_10) (hc0_10 : l0_10.length ≤ c0_10) (h : impl_WordOk.f k a0_0 a0_1 a0_2 a0_3 a0_4 a0_5 a0_6 l0_7 l0_8 a0_9 l0_10 a0_11 a0_12 a0_13 a0_14 a0_15 a0_16 = some r) :
 Calls Try.prog 9 #[.agg #[.int .i64 a0_0, .int .i64 a0_1, .int .i64 a0_2, .int .i64 a0_3, .int .i64 a0_4, .int .i64 a0_5, .bool a0_6, .slice A0_7 l0_7.length c0_7, .slice A0_8 l0_8.length c0_8, .int .i64 a0_9, .slice A0_10 l0_10.length c0_10, .int .i64 a0_11, .int .i64 a0_12, .int .i64 a0_13, .string a0_14, .int .i64 a0_15, .int .i64 a0_16]] w fun e w' => e = .returned (.bool r) ∧ Below w.heap.size w w' := by
 have hu33 := Try.underlying33
 have hu31 := Try.underlying31
 have HR0_7 := Aside0.mk hr0_7
 have HC0_7 := Aside0.mk hc0_7
 clear hr0_7 hc0_7
 have HR0_8 := Aside0.mk hr0_8
 have HC0_8 := Aside0.mk hc0_8
 clear hr0_8 hc0_8
 have HR0_10 := Aside0.mk hr0_10
 have HC0_10 := Aside0.mk hc0_10
 clear hr0_10 hc0_10
 have HB := Aside0.mk (Below.refl w.heap.size w)
 have H : ((impl_within.f a0_0 1 9).bind fun jy => (if jy = true then ((impl_arePlaces.f k (([a0_1, a0_2] : List Int))).bind fun jo => (if jo = true then ((impl_allWithin.f k 9999 (([a0_3, a0_4, a0_11, a0_12, a0_13, a0_15, a0_16] : List Int))).bind fun jm => (if jm = true then ((impl_allWithin.f k 3 (([a0_5] : List Int))).bind fun jj => (if jj = true then ((impl_allWithin.f k 9 (([a0_9] : List Int))).bind fun jh => (if jh = true then ((impl_allWithin.f k 80 (([(a0_14.size : Int)] : List Int))).bind fun jg => (if jg = true then ((impl_rising.f l0_7).bind fun jf => (if jf = true then ((impl_pairsOk.f k l0_8).bind fun je => (if je = true then ((impl_valsOk.f k l0_10).bind fun jd => (some jd)) else (some false))) else (some false))) else (some false))) else (some false))) else (some false))) else (some false))) else (some false))) else (some false))) = some r := h
 clear h
 replace H := Option.bind_eq_some_iff.mp H
 obtain ⟨jy, A20, H⟩ := H
 replace H : (if jy = true then ((impl_arePlaces.f k (([a0_1, a0_2] : List Int))).bind fun jo => (if jo = true then ((impl_allWithin.f k 9999 (([a0_3, a0_4, a0_11, a0_12, a0_13, a0_15, a0_16] : List Int))).bind fun jm => (if jm = true then ((impl_allWithin.f k 3 (([a0_5] : List Int))).bind fun jj => (if jj = true then ((impl_allWithin.f k 9 (([a0_9] : List Int))).bind fun jh => (if jh = true then ((impl_allWithin.f k 80 (([(a0_14.size : Int)] : List Int))).bind fun jg => (if jg = true then ((impl_rising.f l0_7).bind fun jf => (if jf = true then ((impl_pairsOk.f k l0_8).bind fun je => (if je = true then ((impl_valsOk.f k l0_10).bind fun jd => (some jd)) else (some false))) else (some false))) else (some false))) else (some false))) else (some false))) else (some false))) else (some false))) else (some false)) = some r := H
 have A2 := Aside0.mk A20
 clear A20
 go_enter Try.func9, Try.ntmps9
 go_wp2_with (first | ((with_reducible refine gate_dst (N := 1) rfl ?_); (try (refine gate_guard (by rfl) ?_; dsimp only)); refine box_event ?hg (N := 1) ?hd (cs := #[.int .i64 a0_0, .int .i64 a0_1, .int .i64 a0_2, .int .i64 a0_3, .int .i64 a0_4, .int .i64 a0_5, .bool a0_6, .slice A0_7 l0_7.length c0_7, .slice A0_8 l0_8.length c0_8, .int .i64 a0_9, .slice A0_10 l0_10.length c0_10, .int .i64 a0_11, .int .i64 a0_12, .int .i64 a0_13, .string a0_14, .int .i64 a0_15, .int .i64 a0_16]) (t := 33) ?hr ?_; (case hd => rfl); (case hg => rfl); (case hr => first | (go_simp; done) | (go_simp; rfl)); intro jb hg w19 hbox hb; have n0_ := Aside0.mk (below_step (hb_ HB.out) hb); have n1_ := Aside0.mk (hbox); have n2_ := Aside0.mk ((by rw [hg]; exact (below_size (hb_ HB.out)) : w.heap.size ≤ jb)); have n3_ := Aside0.mk ((by rw [hg]; exact (below_size (hb_ HB.out)) : w.heap.size ≤ jb)); clear HB; have HB := n0_; have ja := n1_; have jM := n2_; have jq := n3_; clear n0_ n1_ n2_ n3_; clear hb hbox hg; have hcz20_0 : w19.cell? ⟨jb, 0, none⟩ = some (.int .i64 a0_0) := (blk_cell ja.out 0).trans rfl; have hcz20_1 : w19.cell? ⟨jb, 1, none⟩ = some (.int .i64 a0_1) := (blk_cell ja.out 1).trans rfl; have hcz20_2 : w19.cell? ⟨jb, 2, none⟩ = some (.int .i64 a0_2) := (blk_cell ja.out 2).trans rfl; have hcz20_3 : w19.cell? ⟨jb, 3, none⟩ = some (.int .i64 a0_3) := (blk_cell ja.out 3).trans rfl; have hcz20_4 : w19.cell? ⟨jb, 4, none⟩ = some (.int .i64 a0_4) := (blk_cell ja.out 4).trans rfl; have hcz20_5 : w19.cell? ⟨jb, 5, none⟩ = some (.int .i64 a0_5) := (blk_cell ja.out 5).trans rfl; have hcz20_6 : w19.cell? ⟨jb, 6, none⟩ = some (.bool a0_6) := (blk_cell ja.out 6).trans rfl; have hcz20_7 : w19.cell? ⟨jb, 7, none⟩ = some (.slice A0_7 l0_7.length c0_7) := (blk_cell ja.out 7).trans rfl; have hcz20_8 : w19.cell? ⟨jb, 8, none⟩ = some (.slice A0_8 l0_8.length c0_8) := (blk_cell ja.out 8).trans rfl; have hcz20_9 : w19.cell? ⟨jb, 9, none⟩ = some (.int .i64 a0_9) := (blk_cell ja.out 9).trans rfl; have hcz20_10 : w19.cell? ⟨jb, 10, none⟩ = some (.slice A0_10 l0_10.length c0_10) := (blk_cell ja.out 10).trans rfl; have hcz20_11 : w19.cell? ⟨jb, 11, none⟩ = some (.int .i64 a0_11) := (blk_cell ja.out 11).trans rfl; have hcz20_12 : w19.cell? ⟨jb, 12, none⟩ = some (.int .i64 a0_12) := (blk_cell ja.out 12).trans rfl; have hcz20_13 : w19.cell? ⟨jb, 13, none⟩ = some (.int .i64 a0_13) := (blk_cell ja.out 13).trans rfl; have hcz20_14 : w19.cell? ⟨jb, 14, none⟩ = some (.string a0_14) := (blk_cell ja.out 14).trans rfl; have hcz20_15 : w19.cell? ⟨jb, 15, none⟩ = some (.int .i64 a0_15) := (blk_cell ja.out 15).trans rfl; have hcz20_16 : w19.cell? ⟨jb, 16, none⟩ = some (.int .i64 a0_16) := (blk_cell ja.out 16).trans rfl; have hfz20_0 := blk_frozen ja.out 0; have hfz20_1 := blk_frozen ja.out 1; have hfz20_2 := blk_frozen ja.out 2; have hfz20_3 := blk_frozen ja.out 3; have hfz20_4 := blk_frozen ja.out 4; have hfz20_5 := blk_frozen ja.out 5; have hfz20_6 := blk_frozen ja.out 6; have hfz20_7 := blk_frozen ja.out 7; have hfz20_8 := blk_frozen ja.out 8; have hfz20_9 := blk_frozen ja.out 9; have hfz20_10 := blk_frozen ja.out 10; have hfz20_11 := blk_frozen ja.out 11; have hfz20_12 := blk_frozen ja.out 12; have hfz20_13 := blk_frozen ja.out 13; have hfz20_14 := blk_frozen ja.out 14; have hfz20_15 := blk_frozen ja.out 15; have hfz20_16 := blk_frozen ja.out 16) | ((with_reducible refine gate_dst (N := 3) rfl ?_); (try (refine gate_guard (by rfl) ?_; dsimp only)); refine box_event ?hg (N := 3) ?hd (cs := #[.int .i64 0, .int .i64 0, .int .i64 0, .string (⟨#[]⟩ : ByteArray), .int .i64 0, .int .i64 0]) (t := 31) ?hr ?_; (case hd => rfl); (case hg => rfl); (case hr => first | (go_simp; done) | (go_simp; rfl)); intro ji hg w21 hbox hb; have n0_ := Aside0.mk (blk_below (bk_ ja.out) hb); have n1_ := Aside0.mk (below_step (hb_ HB.out) hb); have n2_ := Aside0.mk (hbox); have n3_ := Aside0.mk ((by rw [hg]; exact (below_size (hb_ HB.out)) : w.heap.size ≤ ji)); have n4_ := Aside0.mk ((by rw [hg]; exact (below_size (hb_ HB.out)) : w.heap.size ≤ ji)); have n5_ := Aside0.mk ((by rw [hg]; exact Nat.ne_of_lt (blk_lt (g := jb) (o := .cells #[.int .i64 a0_0, .int .i64 a0_1, .int .i64 a0_2, .int .i64 a0_3, .int .i64 a0_4, .int .i64 a0_5, .bool a0_6, .slice A0_7 l0_7.length c0_7, .slice A0_8 l0_8.length c0_8, .int .i64 a0_9, .slice A0_10 l0_10.length c0_10, .int .i64 a0_11, .int .i64 a0_12, .int .i64 a0_13, .string a0_14, .int .i64 a0_15, .int .i64 a0_16] 33 (0, 0)) (bk_ ja.out)) : jb ≠ ji)); have n6_ := Aside0.mk ((by rw [hg]; exact Nat.ne_of_gt (blk_lt (g := jb) (o := .cells #[.int .i64 a0_0, .int .i64 a0_1, .int .i64 a0_2, .int .i64 a0_3, .int .i64 a0_4, .int .i64 a0_5, .bool a0_6, .slice A0_7 l0_7.length c0_7, .slice A0_8 l0_8.length c0_8, .int .i64 a0_9, .slice A0_10 l0_10.length c0_10, .int .i64 a0_11, .int .i64 a0_12, .int .i64 a0_13, .string a0_14, .int .i64 a0_15, .int .i64 a0_16] 33 (0, 0)) (bk_ ja.out)) : ji ≠ jb)); clear ja; clear HB; have ja := n0_; have HB := n1_; have jc := n2_; have jO := n3_; have jr := n4_; have js := n5_; have jL := n6_; clear n0_ n1_ n2_ n3_ n4_ n5_ n6_; clear hb hbox hg; have hnb22 := jL.out; have hnc22 := js.out; have hcz23_0 : w21.cell? ⟨ji, 0, none⟩ = some (.int .i64 0) := (blk_cell jc.out 0).trans rfl; have hcz23_1 : w21.cell? ⟨ji, 1, none⟩ = some (.int .i64 0) := (blk_cell jc.out 1).trans rfl; have hcz23_2 : w21.cell? ⟨ji, 2, none⟩ = some (.int .i64 0) := (blk_cell jc.out 2).trans rfl; have hcz23_3 : w21.cell? ⟨ji, 3, none⟩ = some (.string (⟨#[]⟩ : ByteArray)) := (blk_cell jc.out 3).trans rfl; have hcz23_4 : w21.cell? ⟨ji, 4, none⟩ = some (.int .i64 0) := (blk_cell jc.out 4).trans rfl; have hcz23_5 : w21.cell? ⟨ji, 5, none⟩ = some (.int .i64 0) := (blk_cell jc.out 5).trans rfl; have hfz23_0 := blk_frozen jc.out 0; have hfz23_1 := blk_frozen jc.out 1; have hfz23_2 := blk_frozen jc.out 2; have hfz23_3 := blk_frozen jc.out 3; have hfz23_4 := blk_frozen jc.out 4; have hfz23_5 := blk_frozen jc.out 5; have hcz24_0 : w21.cell? ⟨jb, 0, none⟩ = some (.int .i64 a0_0) := (blk_cell ja.out 0).trans rfl; have hcz24_1 : w21.cell? ⟨jb, 1, none⟩ = some (.int .i64 a0_1) := (blk_cell ja.out 1).trans rfl; have hcz24_2 : w21.cell? ⟨jb, 2, none⟩ = some (.int .i64 a0_2) := (blk_cell ja.out 2).trans rfl; have hcz24_3 : w21.cell? ⟨jb, 3, none⟩ = some (.int .i64 a0_3) := (blk_cell ja.out 3).trans rfl; have hcz24_4 : w21.cell? ⟨jb, 4, none⟩ = some (.int .i64 a0_4) := (blk_cell ja.out 4).trans rfl; have hcz24_5 : w21.cell? ⟨jb, 5, none⟩ = some (.int .i64 a0_5) := (blk_cell ja.out 5).trans rfl; have hcz24_6 : w21.cell? ⟨jb, 6, none⟩ = some (.bool a0_6) := (blk_cell ja.out 6).trans rfl; have hcz24_7 : w21.cell? ⟨jb, 7, none⟩ = some (.slice A0_7 l0_7.length c0_7) := (blk_cell ja.out 7).trans rfl; have hcz24_8 : w21.cell? ⟨jb, 8, none⟩ = some (.slice A0_8 l0_8.length c0_8) := (blk_cell ja.out 8).trans rfl; have hcz24_9 : w21.cell? ⟨jb, 9, none⟩ = some (.int .i64 a0_9) := (blk_cell ja.out 9).trans rfl; have hcz24_10 : w21.cell? ⟨jb, 10, none⟩ = some (.slice A0_10 l0_10.length c0_10) := (blk_cell ja.out 10).trans rfl; have hcz24_11 : w21.cell? ⟨jb, 11, none⟩ = some (.int .i64 a0_11) := (blk_cell ja.out 11).trans rfl; have hcz24_12 : w21.cell? ⟨jb, 12, none⟩ = some (.int .i64 a0_12) := (blk_cell ja.out 12).trans rfl; have hcz24_13 : w21.cell? ⟨jb, 13, none⟩ = some (.int .i64 a0_13) := (blk_cell ja.out 13).trans rfl; have hcz24_14 : w21.cell? ⟨jb, 14, none⟩ = some (.string a0_14) := (blk_cell ja.out 14).trans rfl; have hcz24_15 : w21.cell? ⟨jb, 15, none⟩ = some (.int .i64 a0_15) := (blk_cell ja.out 15).trans rfl; have hcz24_16 : w21.cell? ⟨jb, 16, none⟩ = some (.int .i64 a0_16) := (blk_cell ja.out 16).trans rfl; have hfz24_0 := blk_frozen ja.out 0; have hfz24_1 := blk_frozen ja.out 1; have hfz24_2 := blk_frozen ja.out 2; have hfz24_3 := blk_frozen ja.out 3; have hfz24_4 := blk_frozen ja.out 4; have hfz24_5 := blk_frozen ja.out 5; have hfz24_6 := blk_frozen ja.out 6; have hfz24_7 := blk_frozen ja.out 7; have hfz24_8 := blk_frozen ja.out 8; have hfz24_9 := blk_frozen ja.out 9; have hfz24_10 := blk_frozen ja.out 10; have hfz24_11 := blk_frozen ja.out 11; have hfz24_12 := blk_frozen ja.out 12; have hfz24_13 := blk_frozen ja.out 13; have hfz24_14 := blk_frozen ja.out 14; have hfz24_15 := blk_frozen ja.out 15; have hfz24_16 := blk_frozen ja.out 16))
 (with_reducible refine (impl_within.calls a0_0 1 9 jy _ A2.out).mono ?_)
 rintro e w' ⟨rfl, ⟨nd, rfl⟩⟩
 by_cases c3 : jy = true
 ·subst c3
  have H1 : ((impl_arePlaces.f k (([a0_1, a0_2] : List Int))).bind fun jo => (if jo = true then ((impl_allWithin.f k 9999 (([a0_3, a0_4, a0_11, a0_12, a0_13, a0_15, a0_16] : List Int))).bind fun jm => (if jm = true then ((impl_allWithin.f k 3 (([a0_5] : List Int))).bind fun jj => (if jj = true then ((impl_allWithin.f k 9 (([a0_9] : List Int))).bind fun jh => (if jh = true then ((impl_allWithin.f k 80 (([(a0_14.size : Int)] : List Int))).bind fun jg => (if jg = true then ((impl_rising.f l0_7).bind fun jf => (if jf = true then ((impl_pairsOk.f k l0_8).bind fun je => (if je = true then ((impl_valsOk.f k l0_10).bind fun jd => (some jd)) else (some false))) else (some false))) else (some false))) else (some false))) else (some false))) else (some false))) else (some false))) = some r := by rw [if_pos rfl] at H; exact H
  clear H
  have H := H1
  clear H1
  obtain ⟨jD, jz⟩ : ∃ y_ : List Int, y_ = (([a0_1, a0_2] : List Int)) := ⟨_, rfl⟩
  replace H : ((impl_arePlaces.f k jD).bind fun jo => (if jo = true then ((impl_allWithin.f k 9999 (([a0_3, a0_4, a0_11, a0_12, a0_13, a0_15, a0_16] : List Int))).bind fun jm => (if jm = true then ((impl_allWithin.f k 3 (([a0_5] : List Int))).bind fun jj => (if jj = true then ((impl_allWithin.f k 9 (([a0_9] : List Int))).bind fun jh => (if jh = true then ((impl_allWithin.f k 80 (([(a0_14.size : Int)] : List Int))).bind fun jg => (if jg = true then ((impl_rising.f l0_7).bind fun jf => (if jf = true then ((impl_pairsOk.f k l0_8).bind fun je => (if je = true then ((impl_valsOk.f k l0_10).bind fun jd => (some jd)) else (some false))) else (some false))) else (some false))) else (some false))) else (some false))) else (some false))) else (some false))) = some r := by first | (rw [jz]; with_reducible exact H) | (have H2_ := (Option.bind_some _ _).symm.trans H; rw [jz]; with_reducible exact H2_) | (have H2_ := (Option.bind_some _ _).symm.trans H; with_reducible exact H2_) | with_reducible exact H | (rw [jz]; exact H) | exact H
  have jI := Aside0.mk jz
  clear jz
  replace H := Option.bind_eq_some_iff.mp H
  obtain ⟨jo, A40, H⟩ := H
  replace H : (if jo = true then ((impl_allWithin.f k 9999 (([a0_3, a0_4, a0_11, a0_12, a0_13, a0_15, a0_16] : List Int))).bind fun jm => (if jm = true then ((impl_allWithin.f k 3 (([a0_5] : List Int))).bind fun jj => (if jj = true then ((impl_allWithin.f k 9 (([a0_9] : List Int))).bind fun jh => (if jh = true then ((impl_allWithin.f k 80 (([(a0_14.size : Int)] : List Int))).bind fun jg => (if jg = true then ((impl_rising.f l0_7).bind fun jf => (if jf = true then ((impl_pairsOk.f k l0_8).bind fun je => (if je = true then ((impl_valsOk.f k l0_10).bind fun jd => (some jd)) else (some false))) else (some false))) else (some false))) else (some false))) else (some false))) else (some false))) else (some false)) = some r := H
  have A4 := Aside0.mk A40
  clear A40
  go_wp2_with (first | ((with_reducible refine gate_dst (N := 14) rfl ?_); (try (refine gate_guard (by rfl) ?_; dsimp only)); refine Kd.R_lit (Kd.int .i64) _ 3 ?hg (N := 14) ?hd (xs := ([a0_1, a0_2] : List Int)) (inner := [.int .i64 a0_1, .int .i64 a0_2]) (ok := fun _ => True) (okp := fun _ => True) ?hr ?hp (fun _ hk => hk) trivial (Below.refl _ _) (Nat.le_refl _) (by simp) ?_; (case hd => rfl); (case hg => rfl); (case hr => first | (go_simp; done) | (go_simp; rfl)); (case hp => exact (Reps.one (show Kd.M (Kd.int .i64) _ _ _ a0_1 [.int .i64 a0_1] from rfl) (Reps.one (show Kd.M (Kd.int .i64) _ _ _ a0_2 [.int .i64 a0_2] from rfl) (Reps.none _ _)))); intro jS w25 ho26 hb hg_ hnew_; clear hg_ hnew_; (first | rw [← jI.out] at ho26 | (simp only [Int.reduceToNat] at ho26; rw [← jI.out] at ho26)); have n0_ := Aside0.mk (Kd.R_lower ho26 (below_size (hb_ HB.out))); have n1_ := Aside0.mk (blk_below (g := jb) (o := .cells #[.int .i64 a0_0, .int .i64 a0_1, .int .i64 a0_2, .int .i64 a0_3, .int .i64 a0_4, .int .i64 a0_5, .bool a0_6, .slice A0_7 l0_7.length c0_7, .slice A0_8 l0_8.length c0_8, .int .i64 a0_9, .slice A0_10 l0_10.length c0_10, .int .i64 a0_11, .int .i64 a0_12, .int .i64 a0_13, .string a0_14, .int .i64 a0_15, .int .i64 a0_16] 33 (0, 0)) (by (with_reducible repeat (first | refine blk_drewN ?_ _ | refine blk_drew ?_ | refine blk_alloc ?_ _)); refine blk_far ?_ js.out _; (with_reducible repeat (first | refine blk_drewN ?_ _ | refine blk_drew ?_ | refine blk_alloc ?_ _)); refine blk_far ?_ js.out _; (with_reducible repeat (first | refine blk_drewN ?_ _ | refine blk_drew ?_ | refine blk_alloc ?_ _)); refine blk_far ?_ js.out _; (with_reducible repeat (first | refine blk_drewN ?_ _ | refine blk_drew ?_ | refine blk_alloc ?_ _)); refine blk_far ?_ js.out _; (with_reducible repeat (first | refine blk_drewN ?_ _ | refine blk_drew ?_ | refine blk_alloc ?_ _)); refine blk_far ?_ js.out _; (with_reducible repeat (first | refine blk_drewN ?_ _ | refine blk_drew ?_ | refine blk_alloc ?_ _)); refine blk_far ?_ js.out _; (with_reducible repeat (first | refine blk_drewN ?_ _ | refine blk_drew ?_ | refine blk_alloc ?_ _)); exact ja.out) hb); have n2_ := Aside0.mk (blk_below (g := ji) (o := .cells #[.int .i64 a0_11, .int .i64 a0_12, .int .i64 a0_13, .string a0_14, .int .i64 a0_15, .int .i64 a0_16] 31 (0, 0)) (by (with_reducible repeat (first | refine blk_drewN ?_ _ | refine blk_drew ?_ | refine blk_alloc ?_ _)); refine blk_put (cs := #[.int .i64 a0_11, .int .i64 a0_12, .int .i64 a0_13, .string a0_14, .int .i64 a0_15, .int .i64 0]) ?_ 5 _ rfl; (with_reducible repeat (first | refine blk_drewN ?_ _ | refine blk_drew ?_ | refine blk_alloc ?_ _)); refine blk_put (cs := #[.int .i64 a0_11, .int .i64 a0_12, .int .i64 a0_13, .string a0_14, .int .i64 0, .int .i64 0]) ?_ 4 _ rfl; (with_reducible repeat (first | refine blk_drewN ?_ _ | refine blk_drew ?_ | refine blk_alloc ?_ _)); refine blk_put (cs := #[.int .i64 a0_11, .int .i64 a0_12, .int .i64 a0_13, .string (⟨#[]⟩ : ByteArray), .int .i64 0, .int .i64 0]) ?_ 3 _ rfl; (with_reducible repeat (first | refine blk_drewN ?_ _ | refine blk_drew ?_ | refine blk_alloc ?_ _)); refine blk_put (cs := #[.int .i64 a0_11, .int .i64 a0_12, .int .i64 0, .string (⟨#[]⟩ : ByteArray), .int .i64 0, .int .i64 0]) ?_ 2 _ rfl; (with_reducible repeat (first | refine blk_drewN ?_ _ | refine blk_drew ?_ | refine blk_alloc ?_ _)); refine blk_put (cs := #[.int .i64 a0_11, .int .i64 0, .int .i64 0, .string (⟨#[]⟩ : ByteArray), .int .i64 0, .int .i64 0]) ?_ 1 _ rfl; (with_reducible repeat (first | refine blk_drewN ?_ _ | refine blk_drew ?_ | refine blk_alloc ?_ _)); refine blk_put (cs := #[.int .i64 0, .int .i64 0, .int .i64 0, .string (⟨#[]⟩ : ByteArray), .int .i64 0, .int .i64 0]) ?_ 0 _ rfl; (with_reducible repeat (first | refine blk_drewN ?_ _ | refine blk_drew ?_ | refine blk_alloc ?_ _)); exact jc.out) hb); have n3_ := Aside0.mk (below_step (hb_ HB.out) hb); clear ja; clear jc; clear HB; have jk := n0_; have ja := n1_; have jc := n2_; have HB := n3_; clear n0_ n1_ n2_ n3_; clear hb ho26; obtain ⟨Ao27, co27, eo27⟩ := Kd.R_slice jk.out; subst eo27))
  (with_reducible refine (impl_arePlaces.calls k _ _ jD jo _ ?side1 ?side2 A4.out).mono ?_)
  (case side1 => repeat (first | exact (Kd.R_reads' jk.out).2.2 | (with_reducible refine Kd.C_alloc ?_ _) | (with_reducible refine Kd.C_drewN ?_ _) | (with_reducible refine Kd.C_drew ?_)))
  (case side2 => exact (Kd.R_reads' jk.out).2.1)
  rintro e w' ⟨rfl, ⟨nd, rfl⟩⟩
  have hcz28_0 : w25.cell? ⟨jb, 0, none⟩ = some (.int .i64 a0_0) := (blk_cell ja.out 0).trans rfl
  have hcz28_1 : w25.cell? ⟨jb, 1, none⟩ = some (.int .i64 a0_1) := (blk_cell ja.out 1).trans rfl
  have hcz28_2 : w25.cell? ⟨jb, 2, none⟩ = some (.int .i64 a0_2) := (blk_cell ja.out 2).trans rfl
  have hcz28_3 : w25.cell? ⟨jb, 3, none⟩ = some (.int .i64 a0_3) := (blk_cell ja.out 3).trans rfl
  have hcz28_4 : w25.cell? ⟨jb, 4, none⟩ = some (.int .i64 a0_4) := (blk_cell ja.out 4).trans rfl
  have hcz28_5 : w25.cell? ⟨jb, 5, none⟩ = some (.int .i64 a0_5) := (blk_cell ja.out 5).trans rfl
  have hcz28_6 : w25.cell? ⟨jb, 6, none⟩ = some (.bool a0_6) := (blk_cell ja.out 6).trans rfl
  have hcz28_7 : w25.cell? ⟨jb, 7, none⟩ = some (.slice A0_7 l0_7.length c0_7) := (blk_cell ja.out 7).trans rfl
  have hcz28_8 : w25.cell? ⟨jb, 8, none⟩ = some (.slice A0_8 l0_8.length c0_8) := (blk_cell ja.out 8).trans rfl
  have hcz28_9 : w25.cell? ⟨jb, 9, none⟩ = some (.int .i64 a0_9) := (blk_cell ja.out 9).trans rfl
  have hcz28_10 : w25.cell? ⟨jb, 10, none⟩ = some (.slice A0_10 l0_10.length c0_10) := (blk_cell ja.out 10).trans rfl
  have hcz28_11 : w25.cell? ⟨jb, 11, none⟩ = some (.int .i64 a0_11) := (blk_cell ja.out 11).trans rfl
  have hcz28_12 : w25.cell? ⟨jb, 12, none⟩ = some (.int .i64 a0_12) := (blk_cell ja.out 12).trans rfl
  have hcz28_13 : w25.cell? ⟨jb, 13, none⟩ = some (.int .i64 a0_13) := (blk_cell ja.out 13).trans rfl
  have hcz28_14 : w25.cell? ⟨jb, 14, none⟩ = some (.string a0_14) := (blk_cell ja.out 14).trans rfl
  have hcz28_15 : w25.cell? ⟨jb, 15, none⟩ = some (.int .i64 a0_15) := (blk_cell ja.out 15).trans rfl
  have hcz28_16 : w25.cell? ⟨jb, 16, none⟩ = some (.int .i64 a0_16) := (blk_cell ja.out 16).trans rfl
  have hfz28_0 := blk_frozen ja.out 0
  have hfz28_1 := blk_frozen ja.out 1
  have hfz28_2 := blk_frozen ja.out 2
  have hfz28_3 := blk_frozen ja.out 3
  have hfz28_4 := blk_frozen ja.out 4
  have hfz28_5 := blk_frozen ja.out 5
  have hfz28_6 := blk_frozen ja.out 6
  have hfz28_7 := blk_frozen ja.out 7
  have hfz28_8 := blk_frozen ja.out 8
  have hfz28_9 := blk_frozen ja.out 9
  have hfz28_10 := blk_frozen ja.out 10
  have hfz28_11 := blk_frozen ja.out 11
  have hfz28_12 := blk_frozen ja.out 12
  have hfz28_13 := blk_frozen ja.out 13
  have hfz28_14 := blk_frozen ja.out 14
  have hfz28_15 := blk_frozen ja.out 15
  have hfz28_16 := blk_frozen ja.out 16
  have hcz29_0 : w25.cell? ⟨ji, 0, none⟩ = some (.int .i64 a0_11) := (blk_cell jc.out 0).trans rfl
  have hcz29_1 : w25.cell? ⟨ji, 1, none⟩ = some (.int .i64 a0_12) := (blk_cell jc.out 1).trans rfl
  have hcz29_2 : w25.cell? ⟨ji, 2, none⟩ = some (.int .i64 a0_13) := (blk_cell jc.out 2).trans rfl
  have hcz29_3 : w25.cell? ⟨ji, 3, none⟩ = some (.string a0_14) := (blk_cell jc.out 3).trans rfl
  have hcz29_4 : w25.cell? ⟨ji, 4, none⟩ = some (.int .i64 a0_15) := (blk_cell jc.out 4).trans rfl
  have hcz29_5 : w25.cell? ⟨ji, 5, none⟩ = some (.int .i64 a0_16) := (blk_cell jc.out 5).trans rfl
  have hfz29_0 := blk_frozen jc.out 0
  have hfz29_1 := blk_frozen jc.out 1
  have hfz29_2 := blk_frozen jc.out 2
  have hfz29_3 := blk_frozen jc.out 3
  have hfz29_4 := blk_frozen jc.out 4
  have hfz29_5 := blk_frozen jc.out 5
  by_cases c5 : jo = true
  ·subst c5
   have H1 : ((impl_allWithin.f k 9999 (([a0_3, a0_4, a0_11, a0_12, a0_13, a0_15, a0_16] : List Int))).bind fun jm => (if jm = true then ((impl_allWithin.f k 3 (([a0_5] : List Int))).bind fun jj => (if jj = true then ((impl_allWithin.f k 9 (([a0_9] : List Int))).bind fun jh => (if jh = true then ((impl_allWithin.f k 80 (([(a0_14.size : Int)] : List Int))).bind fun jg => (if jg = true then ((impl_rising.f l0_7).bind fun jf => (if jf = true then ((impl_pairsOk.f k l0_8).bind fun je => (if je = true then ((impl_valsOk.f k l0_10).bind fun jd => (some jd)) else (some false))) else (some false))) else (some false))) else (some false))) else (some false))) else (some false))) = some r := by rw [if_pos rfl] at H; exact H
   clear H
   have H := H1
   clear H1
   obtain ⟨jK, jw⟩ : ∃ y_ : List Int, y_ = (([a0_3, a0_4, a0_11, a0_12, a0_13, a0_15, a0_16] : List Int)) := ⟨_, rfl⟩
   replace H : ((impl_allWithin.f k 9999 jK).bind fun jm => (if jm = true then ((impl_allWithin.f k 3 (([a0_5] : List Int))).bind fun jj => (if jj = true then ((impl_allWithin.f k 9 (([a0_9] : List Int))).bind fun jh => (if jh = true then ((impl_allWithin.f k 80 (([(a0_14.size : Int)] : List Int))).bind fun jg => (if jg = true then ((impl_rising.f l0_7).bind fun jf => (if jf = true then ((impl_pairsOk.f k l0_8).bind fun je => (if je = true then ((impl_valsOk.f k l0_10).bind fun jd => (some jd)) else (some false))) else (some false))) else (some false))) else (some false))) else (some false))) else (some false))) = some r := by first | (rw [jw]; with_reducible exact H) | (have H2_ := (Option.bind_some _ _).symm.trans H; rw [jw]; with_reducible exact H2_) | (have H2_ := (Option.bind_some _ _).symm.trans H; with_reducible exact H2_) | with_reducible exact H | (rw [jw]; exact H) | exact H
   have jF := Aside0.mk jw
   clear jw
   replace H := Option.bind_eq_some_iff.mp H
   obtain ⟨jm, A60, H⟩ := H
   replace H : (if jm = true then ((impl_allWithin.f k 3 (([a0_5] : List Int))).bind fun jj => (if jj = true then ((impl_allWithin.f k 9 (([a0_9] : List Int))).bind fun jh => (if jh = true then ((impl_allWithin.f k 80 (([(a0_14.size : Int)] : List Int))).bind fun jg => (if jg = true then ((impl_rising.f l0_7).bind fun jf => (if jf = true then ((impl_pairsOk.f k l0_8).bind fun je => (if je = true then ((impl_valsOk.f k l0_10).bind fun jd => (some jd)) else (some false))) else (some false))) else (some false))) else (some false))) else (some false))) else (some false)) = some r := H
   have A6 := Aside0.mk A60
   clear A60
   go_wp2_with (first | ((with_reducible refine gate_dst (N := 32) rfl ?_); (try (refine gate_guard (by rfl) ?_; dsimp only)); refine Kd.R_lit (Kd.int .i64) _ 3 ?hg (N := 32) ?hd (xs := ([a0_3, a0_4, a0_11, a0_12, a0_13, a0_15, a0_16] : List Int)) (inner := [.int .i64 a0_3, .int .i64 a0_4, .int .i64 a0_11, .int .i64 a0_12, .int .i64 a0_13, .int .i64 a0_15, .int .i64 a0_16]) (ok := fun _ => True) (okp := fun _ => True) ?hr ?hp (fun _ hk => hk) trivial (Below.refl _ _) (Nat.le_refl _) (by simp) ?_; (case hd => rfl); (case hg => rfl); (case hr => first | (go_simp; done) | (go_simp; rfl)); (case hp => exact (Reps.one (show Kd.M (Kd.int .i64) _ _ _ a0_3 [.int .i64 a0_3] from rfl) (Reps.one (show Kd.M (Kd.int .i64) _ _ _ a0_4 [.int .i64 a0_4] from rfl) (Reps.one (show Kd.M (Kd.int .i64) _ _ _ a0_11 [.int .i64 a0_11] from rfl) (Reps.one (show Kd.M (Kd.int .i64) _ _ _ a0_12 [.int .i64 a0_12] from rfl) (Reps.one (show Kd.M (Kd.int .i64) _ _ _ a0_13 [.int .i64 a0_13] from rfl) (Reps.one (show Kd.M (Kd.int .i64) _ _ _ a0_15 [.int .i64 a0_15] from rfl) (Reps.one (show Kd.M (Kd.int .i64) _ _ _ a0_16 [.int .i64 a0_16] from rfl) (Reps.none _ _))))))))); intro jP w30 ho31 hb hg_ hnew_; clear hg_ hnew_; (first | rw [← jF.out] at ho31 | (simp only [Int.reduceToNat] at ho31; rw [← jF.out] at ho31)); have n0_ := Aside0.mk (Kd.R_elder' (kr_ jk.out) (Kd.R_base ho31) hb); have n1_ := Aside0.mk (Kd.R_lower (Kd.R_new' ho31 (Kd.R_lt (kr_ jk.out))) (below_size (hb_ HB.out))); have n2_ := Aside0.mk (blk_below (bk_ ja.out) hb); have n3_ := Aside0.mk (blk_below (bk_ jc.out) hb); have n4_ := Aside0.mk (below_step (hb_ HB.out) hb); clear jk; clear ja; clear jc; clear HB; have jk := n0_; have jl := n1_; have ja := n2_; have jc := n3_; have HB := n4_; clear n0_ n1_ n2_ n3_ n4_; clear hb ho31; obtain ⟨Ao32, co32, eo32⟩ := Kd.R_slice jl.out; subst eo32))
   (with_reducible refine (impl_allWithin.calls k 9999 _ _ jK jm _ ?side1 ?side2 A6.out).mono ?_)
   (case side1 => repeat (first | exact (Kd.R_reads' jl.out).2.2 | (with_reducible refine Kd.C_alloc ?_ _) | (with_reducible refine Kd.C_drewN ?_ _) | (with_reducible refine Kd.C_drew ?_)))
   (case side2 => exact (Kd.R_reads' jl.out).2.1)
   rintro e w' ⟨rfl, ⟨nd, rfl⟩⟩
   have hcz33_0 : w30.cell? ⟨jb, 0, none⟩ = some (.int .i64 a0_0) := (blk_cell ja.out 0).trans rfl
   have hcz33_1 : w30.cell? ⟨jb, 1, none⟩ = some (.int .i64 a0_1) := (blk_cell ja.out 1).trans rfl
   have hcz33_2 : w30.cell? ⟨jb, 2, none⟩ = some (.int .i64 a0_2) := (blk_cell ja.out 2).trans rfl
   have hcz33_3 : w30.cell? ⟨jb, 3, none⟩ = some (.int .i64 a0_3) := (blk_cell ja.out 3).trans rfl
   have hcz33_4 : w30.cell? ⟨jb, 4, none⟩ = some (.int .i64 a0_4) := (blk_cell ja.out 4).trans rfl
   have hcz33_5 : w30.cell? ⟨jb, 5, none⟩ = some (.int .i64 a0_5) := (blk_cell ja.out 5).trans rfl
   have hcz33_6 : w30.cell? ⟨jb, 6, none⟩ = some (.bool a0_6) := (blk_cell ja.out 6).trans rfl
   have hcz33_7 : w30.cell? ⟨jb, 7, none⟩ = some (.slice A0_7 l0_7.length c0_7) := (blk_cell ja.out 7).trans rfl
   have hcz33_8 : w30.cell? ⟨jb, 8, none⟩ = some (.slice A0_8 l0_8.length c0_8) := (blk_cell ja.out 8).trans rfl
   have hcz33_9 : w30.cell? ⟨jb, 9, none⟩ = some (.int .i64 a0_9) := (blk_cell ja.out 9).trans rfl
   have hcz33_10 : w30.cell? ⟨jb, 10, none⟩ = some (.slice A0_10 l0_10.length c0_10) := (blk_cell ja.out 10).trans rfl
   have hcz33_11 : w30.cell? ⟨jb, 11, none⟩ = some (.int .i64 a0_11) := (blk_cell ja.out 11).trans rfl
   have hcz33_12 : w30.cell? ⟨jb, 12, none⟩ = some (.int .i64 a0_12) := (blk_cell ja.out 12).trans rfl
   have hcz33_13 : w30.cell? ⟨jb, 13, none⟩ = some (.int .i64 a0_13) := (blk_cell ja.out 13).trans rfl
   have hcz33_14 : w30.cell? ⟨jb, 14, none⟩ = some (.string a0_14) := (blk_cell ja.out 14).trans rfl
   have hcz33_15 : w30.cell? ⟨jb, 15, none⟩ = some (.int .i64 a0_15) := (blk_cell ja.out 15).trans rfl
   have hcz33_16 : w30.cell? ⟨jb, 16, none⟩ = some (.int .i64 a0_16) := (blk_cell ja.out 16).trans rfl
   have hfz33_0 := blk_frozen ja.out 0
   have hfz33_1 := blk_frozen ja.out 1
   have hfz33_2 := blk_frozen ja.out 2
   have hfz33_3 := blk_frozen ja.out 3
   have hfz33_4 := blk_frozen ja.out 4
   have hfz33_5 := blk_frozen ja.out 5
   have hfz33_6 := blk_frozen ja.out 6
   have hfz33_7 := blk_frozen ja.out 7
   have hfz33_8 := blk_frozen ja.out 8
   have hfz33_9 := blk_frozen ja.out 9
   have hfz33_10 := blk_frozen ja.out 10
   have hfz33_11 := blk_frozen ja.out 11
   have hfz33_12 := blk_frozen ja.out 12
   have hfz33_13 := blk_frozen ja.out 13
   have hfz33_14 := blk_frozen ja.out 14
   have hfz33_15 := blk_frozen ja.out 15
   have hfz33_16 := blk_frozen ja.out 16
   by_cases c7 : jm = true
   ·subst c7
    have H1 : ((impl_allWithin.f k 3 (([a0_5] : List Int))).bind fun jj => (if jj = true then ((impl_allWithin.f k 9 (([a0_9] : List Int))).bind fun jh => (if jh = true then ((impl_allWithin.f k 80 (([(a0_14.size : Int)] : List Int))).bind fun jg => (if jg = true then ((impl_rising.f l0_7).bind fun jf => (if jf = true then ((impl_pairsOk.f k l0_8).bind fun je => (if je = true then ((impl_valsOk.f k l0_10).bind fun jd => (some jd)) else (some false))) else (some false))) else (some false))) else (some false))) else (some false))) = some r := by rw [if_pos rfl] at H; exact H
    clear H
    have H := H1
    clear H1
    obtain ⟨jJ, jv⟩ : ∃ y_ : List Int, y_ = (([a0_5] : List Int)) := ⟨_, rfl⟩
    replace H : ((impl_allWithin.f k 3 jJ).bind fun jj => (if jj = true then ((impl_allWithin.f k 9 (([a0_9] : List Int))).bind fun jh => (if jh = true then ((impl_allWithin.f k 80 (([(a0_14.size : Int)] : List Int))).bind fun jg => (if jg = true then ((impl_rising.f l0_7).bind fun jf => (if jf = true then ((impl_pairsOk.f k l0_8).bind fun je => (if je = true then ((impl_valsOk.f k l0_10).bind fun jd => (some jd)) else (some false))) else (some false))) else (some false))) else (some false))) else (some false))) = some r := by first | (rw [jv]; with_reducible exact H) | (have H2_ := (Option.bind_some _ _).symm.trans H; rw [jv]; with_reducible exact H2_) | (have H2_ := (Option.bind_some _ _).symm.trans H; with_reducible exact H2_) | with_reducible exact H | (rw [jv]; exact H) | exact H
    have jE := Aside0.mk jv
    clear jv
    replace H := Option.bind_eq_some_iff.mp H
    obtain ⟨jj, A80, H⟩ := H
    replace H : (if jj = true then ((impl_allWithin.f k 9 (([a0_9] : List Int))).bind fun jh => (if jh = true then ((impl_allWithin.f k 80 (([(a0_14.size : Int)] : List Int))).bind fun jg => (if jg = true then ((impl_rising.f l0_7).bind fun jf => (if jf = true then ((impl_pairsOk.f k l0_8).bind fun je => (if je = true then ((impl_valsOk.f k l0_10).bind fun jd => (some jd)) else (some false))) else (some false))) else (some false))) else (some false))) else (some false)) = some r := H
    have A8 := Aside0.mk A80
    clear A80
    go_wp2_with (first | ((with_reducible refine gate_dst (N := 38) rfl ?_); (try (refine gate_guard (by rfl) ?_; dsimp only)); refine Kd.R_lit (Kd.int .i64) _ 3 ?hg (N := 38) ?hd (xs := ([a0_5] : List Int)) (inner := [.int .i64 a0_5]) (ok := fun _ => True) (okp := fun _ => True) ?hr ?hp (fun _ hk => hk) trivial (Below.refl _ _) (Nat.le_refl _) (by simp) ?_; (case hd => rfl); (case hg => rfl); (case hr => first | (go_simp; done) | (go_simp; rfl)); (case hp => exact (Reps.one (show Kd.M (Kd.int .i64) _ _ _ a0_5 [.int .i64 a0_5] from rfl) (Reps.none _ _))); intro jQ w34 ho35 hb hg_ hnew_; clear hg_ hnew_; (first | rw [← jE.out] at ho35 | (simp only [Int.reduceToNat] at ho35; rw [← jE.out] at ho35)); have n0_ := Aside0.mk (Kd.R_elder' (kr_ jk.out) (Kd.R_base ho35) hb); have n1_ := Aside0.mk (Kd.R_elder' (kr_ jl.out) (Kd.R_base ho35) hb); have n2_ := Aside0.mk (Kd.R_lower (Kd.R_new' (Kd.R_new' ho35 (Kd.R_lt (kr_ jk.out))) (Kd.R_lt (kr_ jl.out))) (below_size (hb_ HB.out))); have n3_ := Aside0.mk (blk_below (bk_ ja.out) hb); have n4_ := Aside0.mk (blk_below (bk_ jc.out) hb); have n5_ := Aside0.mk (below_step (hb_ HB.out) hb); clear jk; clear jl; clear ja; clear jc; clear HB; have jk := n0_; have jl := n1_; have jn := n2_; have ja := n3_; have jc := n4_; have HB := n5_; clear n0_ n1_ n2_ n3_ n4_ n5_; clear hb ho35; obtain ⟨Ao36, co36, eo36⟩ := Kd.R_slice jn.out; subst eo36))
    (with_reducible refine (impl_allWithin.calls k 3 _ _ jJ jj _ ?side1 ?side2 A8.out).mono ?_)
    (case side1 => repeat (first | exact (Kd.R_reads' jn.out).2.2 | (with_reducible refine Kd.C_alloc ?_ _) | (with_reducible refine Kd.C_drewN ?_ _) | (with_reducible refine Kd.C_drew ?_)))
    (case side2 => exact (Kd.R_reads' jn.out).2.1)
    rintro e w' ⟨rfl, ⟨nd, rfl⟩⟩
    have hcz37_0 : w34.cell? ⟨jb, 0, none⟩ = some (.int .i64 a0_0) := (blk_cell ja.out 0).trans rfl
    have hcz37_1 : w34.cell? ⟨jb, 1, none⟩ = some (.int .i64 a0_1) := (blk_cell ja.out 1).trans rfl
    have hcz37_2 : w34.cell? ⟨jb, 2, none⟩ = some (.int .i64 a0_2) := (blk_cell ja.out 2).trans rfl
    have hcz37_3 : w34.cell? ⟨jb, 3, none⟩ = some (.int .i64 a0_3) := (blk_cell ja.out 3).trans rfl
    have hcz37_4 : w34.cell? ⟨jb, 4, none⟩ = some (.int .i64 a0_4) := (blk_cell ja.out 4).trans rfl
    have hcz37_5 : w34.cell? ⟨jb, 5, none⟩ = some (.int .i64 a0_5) := (blk_cell ja.out 5).trans rfl
    have hcz37_6 : w34.cell? ⟨jb, 6, none⟩ = some (.bool a0_6) := (blk_cell ja.out 6).trans rfl
    have hcz37_7 : w34.cell? ⟨jb, 7, none⟩ = some (.slice A0_7 l0_7.length c0_7) := (blk_cell ja.out 7).trans rfl
    have hcz37_8 : w34.cell? ⟨jb, 8, none⟩ = some (.slice A0_8 l0_8.length c0_8) := (blk_cell ja.out 8).trans rfl
    have hcz37_9 : w34.cell? ⟨jb, 9, none⟩ = some (.int .i64 a0_9) := (blk_cell ja.out 9).trans rfl
    have hcz37_10 : w34.cell? ⟨jb, 10, none⟩ = some (.slice A0_10 l0_10.length c0_10) := (blk_cell ja.out 10).trans rfl
    have hcz37_11 : w34.cell? ⟨jb, 11, none⟩ = some (.int .i64 a0_11) := (blk_cell ja.out 11).trans rfl
    have hcz37_12 : w34.cell? ⟨jb, 12, none⟩ = some (.int .i64 a0_12) := (blk_cell ja.out 12).trans rfl
    have hcz37_13 : w34.cell? ⟨jb, 13, none⟩ = some (.int .i64 a0_13) := (blk_cell ja.out 13).trans rfl
    have hcz37_14 : w34.cell? ⟨jb, 14, none⟩ = some (.string a0_14) := (blk_cell ja.out 14).trans rfl
    have hcz37_15 : w34.cell? ⟨jb, 15, none⟩ = some (.int .i64 a0_15) := (blk_cell ja.out 15).trans rfl
    have hcz37_16 : w34.cell? ⟨jb, 16, none⟩ = some (.int .i64 a0_16) := (blk_cell ja.out 16).trans rfl
    have hfz37_0 := blk_frozen ja.out 0
    have hfz37_1 := blk_frozen ja.out 1
    have hfz37_2 := blk_frozen ja.out 2
    have hfz37_3 := blk_frozen ja.out 3
    have hfz37_4 := blk_frozen ja.out 4
    have hfz37_5 := blk_frozen ja.out 5
    have hfz37_6 := blk_frozen ja.out 6
    have hfz37_7 := blk_frozen ja.out 7
    have hfz37_8 := blk_frozen ja.out 8
    have hfz37_9 := blk_frozen ja.out 9
    have hfz37_10 := blk_frozen ja.out 10
    have hfz37_11 := blk_frozen ja.out 11
    have hfz37_12 := blk_frozen ja.out 12
    have hfz37_13 := blk_frozen ja.out 13
    have hfz37_14 := blk_frozen ja.out 14
    have hfz37_15 := blk_frozen ja.out 15
    have hfz37_16 := blk_frozen ja.out 16
    by_cases c9 : jj = true
    ·subst c9
     have H1 : ((impl_allWithin.f k 9 (([a0_9] : List Int))).bind fun jh => (if jh = true then ((impl_allWithin.f k 80 (([(a0_14.size : Int)] : List Int))).bind fun jg => (if jg = true then ((impl_rising.f l0_7).bind fun jf => (if jf = true then ((impl_pairsOk.f k l0_8).bind fun je => (if je = true then ((impl_valsOk.f k l0_10).bind fun jd => (some jd)) else (some false))) else (some false))) else (some false))) else (some false))) = some r := by rw [if_pos rfl] at H; exact H
     clear H
     have H := H1
     clear H1
     obtain ⟨jA, ju⟩ : ∃ y_ : List Int, y_ = (([a0_9] : List Int)) := ⟨_, rfl⟩
     replace H : ((impl_allWithin.f k 9 jA).bind fun jh => (if jh = true then ((impl_allWithin.f k 80 (([(a0_14.size : Int)] : List Int))).bind fun jg => (if jg = true then ((impl_rising.f l0_7).bind fun jf => (if jf = true then ((impl_pairsOk.f k l0_8).bind fun je => (if je = true then ((impl_valsOk.f k l0_10).bind fun jd => (some jd)) else (some false))) else (some false))) else (some false))) else (some false))) = some r := by first | (rw [ju]; with_reducible exact H) | (have H2_ := (Option.bind_some _ _).symm.trans H; rw [ju]; with_reducible exact H2_) | (have H2_ := (Option.bind_some _ _).symm.trans H; with_reducible exact H2_) | with_reducible exact H | (rw [ju]; exact H) | exact H
     have jC := Aside0.mk ju
     clear ju
     replace H := Option.bind_eq_some_iff.mp H
     obtain ⟨jh, A100, H⟩ := H
     replace H : (if jh = true then ((impl_allWithin.f k 80 (([(a0_14.size : Int)] : List Int))).bind fun jg => (if jg = true then ((impl_rising.f l0_7).bind fun jf => (if jf = true then ((impl_pairsOk.f k l0_8).bind fun je => (if je = true then ((impl_valsOk.f k l0_10).bind fun jd => (some jd)) else (some false))) else (some false))) else (some false))) else (some false)) = some r := H
     have A10 := Aside0.mk A100
     clear A100
     go_wp2_with (first | ((with_reducible refine gate_dst (N := 44) rfl ?_); (try (refine gate_guard (by rfl) ?_; dsimp only)); refine Kd.R_lit (Kd.int .i64) _ 3 ?hg (N := 44) ?hd (xs := ([a0_9] : List Int)) (inner := [.int .i64 a0_9]) (ok := fun _ => True) (okp := fun _ => True) ?hr ?hp (fun _ hk => hk) trivial (Below.refl _ _) (Nat.le_refl _) (by simp) ?_; (case hd => rfl); (case hg => rfl); (case hr => first | (go_simp; done) | (go_simp; rfl)); (case hp => exact (Reps.one (show Kd.M (Kd.int .i64) _ _ _ a0_9 [.int .i64 a0_9] from rfl) (Reps.none _ _))); intro jR w38 ho39 hb hg_ hnew_; clear hg_ hnew_; (first | rw [← jC.out] at ho39 | (simp only [Int.reduceToNat] at ho39; rw [← jC.out] at ho39)); have n0_ := Aside0.mk (Kd.R_elder' (kr_ jk.out) (Kd.R_base ho39) hb); have n1_ := Aside0.mk (Kd.R_elder' (kr_ jl.out) (Kd.R_base ho39) hb); have n2_ := Aside0.mk (Kd.R_elder' (kr_ jn.out) (Kd.R_base ho39) hb); have n3_ := Aside0.mk (Kd.R_lower (Kd.R_new' (Kd.R_new' (Kd.R_new' ho39 (Kd.R_lt (kr_ jk.out))) (Kd.R_lt (kr_ jl.out))) (Kd.R_lt (kr_ jn.out))) (below_size (hb_ HB.out))); have n4_ := Aside0.mk (blk_below (bk_ ja.out) hb); have n5_ := Aside0.mk (blk_below (bk_ jc.out) hb); have n6_ := Aside0.mk (below_step (hb_ HB.out) hb); clear jk; clear jl; clear jn; clear ja; clear jc; clear HB; have jk := n0_; have jl := n1_; have jn := n2_; have jp := n3_; have ja := n4_; have jc := n5_; have HB := n6_; clear n0_ n1_ n2_ n3_ n4_ n5_ n6_; clear hb ho39; obtain ⟨Ao40, co40, eo40⟩ := Kd.R_slice jp.out; subst eo40))
     (with_reducible refine (impl_allWithin.calls k 9 _ _ jA jh _ ?side1 ?side2 A10.out).mono ?_)
     (case side1 => repeat (first | exact (Kd.R_reads' jp.out).2.2 | (with_reducible refine Kd.C_alloc ?_ _) | (with_reducible refine Kd.C_drewN ?_ _) | (with_reducible refine Kd.C_drew ?_)))
     (case side2 => exact (Kd.R_reads' jp.out).2.1)
     rintro e w' ⟨rfl, ⟨nd, rfl⟩⟩
     have hcz41_0 : w38.cell? ⟨ji, 0, none⟩ = some (.int .i64 a0_11) := (blk_cell jc.out 0).trans rfl
     have hcz41_1 : w38.cell? ⟨ji, 1, none⟩ = some (.int .i64 a0_12) := (blk_cell jc.out 1).trans rfl
     have hcz41_2 : w38.cell? ⟨ji, 2, none⟩ = some (.int .i64 a0_13) := (blk_cell jc.out 2).trans rfl
     have hcz41_3 : w38.cell? ⟨ji, 3, none⟩ = some (.string a0_14) := (blk_cell jc.out 3).trans rfl
     have hcz41_4 : w38.cell? ⟨ji, 4, none⟩ = some (.int .i64 a0_15) := (blk_cell jc.out 4).trans rfl
     have hcz41_5 : w38.cell? ⟨ji, 5, none⟩ = some (.int .i64 a0_16) := (blk_cell jc.out 5).trans rfl
     have hfz41_0 := blk_frozen jc.out 0
     have hfz41_1 := blk_frozen jc.out 1
     have hfz41_2 := blk_frozen jc.out 2
     have hfz41_3 := blk_frozen jc.out 3
     have hfz41_4 := blk_frozen jc.out 4
     have hfz41_5 := blk_frozen jc.out 5
     by_cases c11 : jh = true
     ·subst c11
      have H1 : ((impl_allWithin.f k 80 (([(a0_14.size : Int)] : List Int))).bind fun jg => (if jg = true then ((impl_rising.f l0_7).bind fun jf => (if jf = true then ((impl_pairsOk.f k l0_8).bind fun je => (if je = true then ((impl_valsOk.f k l0_10).bind fun jd => (some jd)) else (some false))) else (some false))) else (some false))) = some r := by rw [if_pos rfl] at H; exact H
      clear H
      have H := H1
      clear H1
      obtain ⟨jB, jx⟩ : ∃ y_ : List Int, y_ = (([(a0_14.size : Int)] : List Int)) := ⟨_, rfl⟩
      replace H : ((impl_allWithin.f k 80 jB).bind fun jg => (if jg = true then ((impl_rising.f l0_7).bind fun jf => (if jf = true then ((impl_pairsOk.f k l0_8).bind fun je => (if je = true then ((impl_valsOk.f k l0_10).bind fun jd => (some jd)) else (some false))) else (some false))) else (some false))) = some r := by first | (rw [jx]; with_reducible exact H) | (have H2_ := (Option.bind_some _ _).symm.trans H; rw [jx]; with_reducible exact H2_) | (have H2_ := (Option.bind_some _ _).symm.trans H; with_reducible exact H2_) | with_reducible exact H | (rw [jx]; exact H) | exact H
      have jG := Aside0.mk jx
      clear jx
      replace H := Option.bind_eq_some_iff.mp H
      obtain ⟨jg, A120, H⟩ := H
      replace H : (if jg = true then ((impl_rising.f l0_7).bind fun jf => (if jf = true then ((impl_pairsOk.f k l0_8).bind fun je => (if je = true then ((impl_valsOk.f k l0_10).bind fun jd => (some jd)) else (some false))) else (some false))) else (some false)) = some r := H
      have A12 := Aside0.mk A120
      clear A120
      go_wp2_with (first | ((with_reducible refine gate_dst (N := 51) rfl ?_); (try (refine gate_guard (by rfl) ?_; dsimp only)); refine Kd.R_lit (Kd.int .i64) _ 3 ?hg (N := 51) ?hd (xs := ([(a0_14.size : Int)] : List Int)) (inner := [.int .i64 (a0_14.size : Int)]) (ok := fun _ => True) (okp := fun _ => True) ?hr ?hp (fun _ hk => hk) trivial (Below.refl _ _) (Nat.le_refl _) (by simp) ?_; (case hd => rfl); (case hg => rfl); (case hr => first | (go_simp; done) | (go_simp; rfl)); (case hp => exact (Reps.one (show Kd.M (Kd.int .i64) _ _ _ (a0_14.size : Int) [.int .i64 (a0_14.size : Int)] from rfl) (Reps.none _ _))); intro jN w42 ho43 hb hg_ hnew_; clear hg_ hnew_; (first | rw [← jG.out] at ho43 | (simp only [Int.reduceToNat] at ho43; rw [← jG.out] at ho43)); have n0_ := Aside0.mk (Kd.R_elder' (kr_ jk.out) (Kd.R_base ho43) hb); have n1_ := Aside0.mk (Kd.R_elder' (kr_ jl.out) (Kd.R_base ho43) hb); have n2_ := Aside0.mk (Kd.R_elder' (kr_ jn.out) (Kd.R_base ho43) hb); have n3_ := Aside0.mk (Kd.R_elder' (kr_ jp.out) (Kd.R_base ho43) hb); have n4_ := Aside0.mk (Kd.R_lower (Kd.R_new' (Kd.R_new' (Kd.R_new' (Kd.R_new' ho43 (Kd.R_lt (kr_ jk.out))) (Kd.R_lt (kr_ jl.out))) (Kd.R_lt (kr_ jn.out))) (Kd.R_lt (kr_ jp.out))) (below_size (hb_ HB.out))); have n5_ := Aside0.mk (blk_below (bk_ ja.out) hb); have n6_ := Aside0.mk (blk_below (bk_ jc.out) hb); have n7_ := Aside0.mk (below_step (hb_ HB.out) hb); clear jk; clear jl; clear jn; clear jp; clear ja; clear jc; clear HB; have jk := n0_; have jl := n1_; have jn := n2_; have jp := n3_; have jt := n4_; have ja := n5_; have jc := n6_; have HB := n7_; clear n0_ n1_ n2_ n3_ n4_ n5_ n6_ n7_; clear hb ho43; obtain ⟨Ao44, co44, eo44⟩ := Kd.R_slice jt.out; subst eo44))
      (with_reducible refine (impl_allWithin.calls k 80 _ _ jB jg _ ?side1 ?side2 A12.out).mono ?_)
      (case side1 => repeat (first | exact (Kd.R_reads' jt.out).2.2 | (with_reducible refine Kd.C_alloc ?_ _) | (with_reducible refine Kd.C_drewN ?_ _) | (with_reducible refine Kd.C_drew ?_)))
      (case side2 => exact (Kd.R_reads' jt.out).2.1)
      rintro e w' ⟨rfl, ⟨nd, rfl⟩⟩
      have hcz45_0 : w42.cell? ⟨jb, 0, none⟩ = some (.int .i64 a0_0) := (blk_cell ja.out 0).trans rfl
      have hcz45_1 : w42.cell? ⟨jb, 1, none⟩ = some (.int .i64 a0_1) := (blk_cell ja.out 1).trans rfl
      have hcz45_2 : w42.cell? ⟨jb, 2, none⟩ = some (.int .i64 a0_2) := (blk_cell ja.out 2).trans rfl
      have hcz45_3 : w42.cell? ⟨jb, 3, none⟩ = some (.int .i64 a0_3) := (blk_cell ja.out 3).trans rfl
      have hcz45_4 : w42.cell? ⟨jb, 4, none⟩ = some (.int .i64 a0_4) := (blk_cell ja.out 4).trans rfl
      have hcz45_5 : w42.cell? ⟨jb, 5, none⟩ = some (.int .i64 a0_5) := (blk_cell ja.out 5).trans rfl
      have hcz45_6 : w42.cell? ⟨jb, 6, none⟩ = some (.bool a0_6) := (blk_cell ja.out 6).trans rfl
      have hcz45_7 : w42.cell? ⟨jb, 7, none⟩ = some (.slice A0_7 l0_7.length c0_7) := (blk_cell ja.out 7).trans rfl
      have hcz45_8 : w42.cell? ⟨jb, 8, none⟩ = some (.slice A0_8 l0_8.length c0_8) := (blk_cell ja.out 8).trans rfl
      have hcz45_9 : w42.cell? ⟨jb, 9, none⟩ = some (.int .i64 a0_9) := (blk_cell ja.out 9).trans rfl
      have hcz45_10 : w42.cell? ⟨jb, 10, none⟩ = some (.slice A0_10 l0_10.length c0_10) := (blk_cell ja.out 10).trans rfl
      have hcz45_11 : w42.cell? ⟨jb, 11, none⟩ = some (.int .i64 a0_11) := (blk_cell ja.out 11).trans rfl
      have hcz45_12 : w42.cell? ⟨jb, 12, none⟩ = some (.int .i64 a0_12) := (blk_cell ja.out 12).trans rfl
      have hcz45_13 : w42.cell? ⟨jb, 13, none⟩ = some (.int .i64 a0_13) := (blk_cell ja.out 13).trans rfl
      have hcz45_14 : w42.cell? ⟨jb, 14, none⟩ = some (.string a0_14) := (blk_cell ja.out 14).trans rfl
      have hcz45_15 : w42.cell? ⟨jb, 15, none⟩ = some (.int .i64 a0_15) := (blk_cell ja.out 15).trans rfl
      have hcz45_16 : w42.cell? ⟨jb, 16, none⟩ = some (.int .i64 a0_16) := (blk_cell ja.out 16).trans rfl
      have hfz45_0 := blk_frozen ja.out 0
      have hfz45_1 := blk_frozen ja.out 1
      have hfz45_2 := blk_frozen ja.out 2
      have hfz45_3 := blk_frozen ja.out 3
      have hfz45_4 := blk_frozen ja.out 4
      have hfz45_5 := blk_frozen ja.out 5
      have hfz45_6 := blk_frozen ja.out 6
      have hfz45_7 := blk_frozen ja.out 7
      have hfz45_8 := blk_frozen ja.out 8
      have hfz45_9 := blk_frozen ja.out 9
      have hfz45_10 := blk_frozen ja.out 10
      have hfz45_11 := blk_frozen ja.out 11
      have hfz45_12 := blk_frozen ja.out 12
      have hfz45_13 := blk_frozen ja.out 13
      have hfz45_14 := blk_frozen ja.out 14
      have hfz45_15 := blk_frozen ja.out 15
      have hfz45_16 := blk_frozen ja.out 16
      by_cases c13 : jg = true
      ·subst c13
       have H1 : ((impl_rising.f l0_7).bind fun jf => (if jf = true then ((impl_pairsOk.f k l0_8).bind fun je => (if je = true then ((impl_valsOk.f k l0_10).bind fun jd => (some jd)) else (some false))) else (some false))) = some r := by rw [if_pos rfl] at H; exact H
       clear H
       have H := H1
       clear H1
       replace H := Option.bind_eq_some_iff.mp H
       obtain ⟨jf, A140, H⟩ := H
       replace H : (if jf = true then ((impl_pairsOk.f k l0_8).bind fun je => (if je = true then ((impl_valsOk.f k l0_10).bind fun jd => (some jd)) else (some false))) else (some false)) = some r := H
       have A14 := Aside0.mk A140
       clear A140
       go_wp2_with (fail)
       (with_reducible refine (impl_rising.calls _ _ l0_7 jf _ ?side1 ?side2 A14.out).mono ?_)
       (case side1 => repeat (first | exact (Kd.C_below HR0_7.out (hb_ HB.out)) | (with_reducible refine Kd.C_alloc ?_ _) | (with_reducible refine Kd.C_drewN ?_ _) | (with_reducible refine Kd.C_drew ?_)))
       (case side2 => exact HC0_7.out)
       rintro e w' ⟨rfl, ⟨nd, rfl⟩⟩
       by_cases c15 : jf = true
       ·subst c15
        have H1 : ((impl_pairsOk.f k l0_8).bind fun je => (if je = true then ((impl_valsOk.f k l0_10).bind fun jd => (some jd)) else (some false))) = some r := by rw [if_pos rfl] at H; exact H
        clear H
        have H := H1
        clear H1
        replace H := Option.bind_eq_some_iff.mp H
        obtain ⟨je, A160, H⟩ := H
        replace H : (if je = true then ((impl_valsOk.f k l0_10).bind fun jd => (some jd)) else (some false)) = some r := H
        have A16 := Aside0.mk A160
        clear A160
        go_wp2_with (fail)
        (with_reducible refine (impl_pairsOk.calls k _ _ l0_8 je _ ?side1 ?side2 A16.out).mono ?_)
        (case side1 => repeat (first | exact (Kd.C_below HR0_8.out (hb_ HB.out)) | (with_reducible refine Kd.C_alloc ?_ _) | (with_reducible refine Kd.C_drewN ?_ _) | (with_reducible refine Kd.C_drew ?_)))
        (case side2 => exact HC0_8.out)
        rintro e w46 ⟨rfl, hb⟩
        have n0_ := Aside0.mk (Kd.R_below (kr_ jk.out) hb)
        have n1_ := Aside0.mk (Kd.R_below (kr_ jl.out) hb)
        have n2_ := Aside0.mk (Kd.R_below (kr_ jn.out) hb)
        have n3_ := Aside0.mk (Kd.R_below (kr_ jp.out) hb)
        have n4_ := Aside0.mk (Kd.R_below (kr_ jt.out) hb)
        have n5_ := Aside0.mk (blk_below (bk_ ja.out) hb)
        have n6_ := Aside0.mk (blk_below (bk_ jc.out) hb)
        have n7_ := Aside0.mk (below_step (hb_ HB.out) hb)
        clear jk
        clear jl
        clear jn
        clear jp
        clear jt
        clear ja
        clear jc
        clear HB
        have jk := n0_
        have jl := n1_
        have jn := n2_
        have jp := n3_
        have jt := n4_
        have ja := n5_
        have jc := n6_
        have HB := n7_
        clear n0_ n1_ n2_ n3_ n4_ n5_ n6_ n7_
        (try clear hb)
        (try clear hb2)
        (try clear hk)
        (try clear hi)
        have hcz47_0 : w46.cell? ⟨jb, 0, none⟩ = some (.int .i64 a0_0) := (blk_cell ja.out 0).trans rfl
        have hcz47_1 : w46.cell? ⟨jb, 1, none⟩ = some (.int .i64 a0_1) := (blk_cell ja.out 1).trans rfl
        have hcz47_2 : w46.cell? ⟨jb, 2, none⟩ = some (.int .i64 a0_2) := (blk_cell ja.out 2).trans rfl
        have hcz47_3 : w46.cell? ⟨jb, 3, none⟩ = some (.int .i64 a0_3) := (blk_cell ja.out 3).trans rfl
        have hcz47_4 : w46.cell? ⟨jb, 4, none⟩ = some (.int .i64 a0_4) := (blk_cell ja.out 4).trans rfl
        have hcz47_5 : w46.cell? ⟨jb, 5, none⟩ = some (.int .i64 a0_5) := (blk_cell ja.out 5).trans rfl
        have hcz47_6 : w46.cell? ⟨jb, 6, none⟩ = some (.bool a0_6) := (blk_cell ja.out 6).trans rfl
        have hcz47_7 : w46.cell? ⟨jb, 7, none⟩ = some (.slice A0_7 l0_7.length c0_7) := (blk_cell ja.out 7).trans rfl
        have hcz47_8 : w46.cell? ⟨jb, 8, none⟩ = some (.slice A0_8 l0_8.length c0_8) := (blk_cell ja.out 8).trans rfl
        have hcz47_9 : w46.cell? ⟨jb, 9, none⟩ = some (.int .i64 a0_9) := (blk_cell ja.out 9).trans rfl
        have hcz47_10 : w46.cell? ⟨jb, 10, none⟩ = some (.slice A0_10 l0_10.length c0_10) := (blk_cell ja.out 10).trans rfl
        have hcz47_11 : w46.cell? ⟨jb, 11, none⟩ = some (.int .i64 a0_11) := (blk_cell ja.out 11).trans rfl
        have hcz47_12 : w46.cell? ⟨jb, 12, none⟩ = some (.int .i64 a0_12) := (blk_cell ja.out 12).trans rfl
        have hcz47_13 : w46.cell? ⟨jb, 13, none⟩ = some (.int .i64 a0_13) := (blk_cell ja.out 13).trans rfl
        have hcz47_14 : w46.cell? ⟨jb, 14, none⟩ = some (.string a0_14) := (blk_cell ja.out 14).trans rfl
        have hcz47_15 : w46.cell? ⟨jb, 15, none⟩ = some (.int .i64 a0_15) := (blk_cell ja.out 15).trans rfl
        have hcz47_16 : w46.cell? ⟨jb, 16, none⟩ = some (.int .i64 a0_16) := (blk_cell ja.out 16).trans rfl
        have hfz47_0 := blk_frozen ja.out 0
        have hfz47_1 := blk_frozen ja.out 1
        have hfz47_2 := blk_frozen ja.out 2
        have hfz47_3 := blk_frozen ja.out 3
        have hfz47_4 := blk_frozen ja.out 4
        have hfz47_5 := blk_frozen ja.out 5
        have hfz47_6 := blk_frozen ja.out 6
        have hfz47_7 := blk_frozen ja.out 7
        have hfz47_8 := blk_frozen ja.out 8
        have hfz47_9 := blk_frozen ja.out 9
        have hfz47_10 := blk_frozen ja.out 10
        have hfz47_11 := blk_frozen ja.out 11
        have hfz47_12 := blk_frozen ja.out 12
        have hfz47_13 := blk_frozen ja.out 13
        have hfz47_14 := blk_frozen ja.out 14
        have hfz47_15 := blk_frozen ja.out 15
        have hfz47_16 := blk_frozen ja.out 16
        by_cases c17 : je = true
        ·subst c17
         have H1 : ((impl_valsOk.f k l0_10).bind fun jd => (some jd)) = some r := by rw [if_pos rfl] at H; exact H
         clear H
         have H := H1
         clear H1
         replace H := Option.bind_eq_some_iff.mp H
         obtain ⟨jd, A180, H⟩ := H
         replace H : (some jd) = some r := H
         have A18 := Aside0.mk A180
         clear A180
         obtain rfl := Option.some.inj H
         go_wp2_with (fail)
         (with_reducible refine (impl_valsOk.calls k _ _ l0_10 jd _ ?side1 ?side2 A18.out).mono ?_)
         (case side1 => repeat (first | exact (Kd.C_below HR0_10.out HB.out) | (with_reducible refine Kd.C_alloc ?_ _) | (with_reducible refine Kd.C_drewN ?_ _) | (with_reducible refine Kd.C_drew ?_)))
         (case side2 => exact HC0_10.out)
         rintro e w' ⟨rfl, ⟨nd, rfl⟩⟩
         go_wp2_with (fail)
         go_ret
         exact ⟨by first | rfl | (simp [errW_none, errW_some] <;> rfl) | (simp [*, errW_none, errW_some] <;> rfl), by repeat (first | (with_reducible first | exact HB.out | apply below_alloc | apply pw_below_drewN | apply below_drew1 | refine below_set ?_ jq.out | refine below_set ?_ jr.out) | exact HB.out)⟩
        ·replace c17 := Bool.eq_false_iff.mpr c17
         subst c17
         have H1 : (some false) = some r := by rw [if_neg (show ¬ (false = true) by decide)] at H; exact H
         clear H
         have H := H1
         clear H1
         obtain rfl := Option.some.inj H
         go_wp2_with (fail)
         go_ret
         exact ⟨by first | rfl | (simp [errW_none, errW_some] <;> rfl) | (simp [*, errW_none, errW_some] <;> rfl), by repeat (first | (with_reducible first | exact HB.out | apply below_alloc | apply pw_below_drewN | apply below_drew1 | refine below_set ?_ jq.out | refine below_set ?_ jr.out) | exact HB.out)⟩
       ·replace c15 := Bool.eq_false_iff.mpr c15
        subst c15
        have H1 : (some false) = some r := by rw [if_neg (show ¬ (false = true) by decide)] at H; exact H
        clear H
        have H := H1
        clear H1
        obtain rfl := Option.some.inj H
        go_wp2_with (fail)
        go_ret
        exact ⟨by first | rfl | (simp [errW_none, errW_some] <;> rfl) | (simp [*, errW_none, errW_some] <;> rfl), by repeat (first | (with_reducible first | exact HB.out | apply below_alloc | apply pw_below_drewN | apply below_drew1 | refine below_set ?_ jq.out | refine below_set ?_ jr.out) | exact HB.out)⟩
      ·replace c13 := Bool.eq_false_iff.mpr c13
       subst c13
       have H1 : (some false) = some r := by rw [if_neg (show ¬ (false = true) by decide)] at H; exact H
       clear H
       have H := H1
       clear H1
       obtain rfl := Option.some.inj H
       go_wp2_with (fail)
       go_ret
       exact ⟨by first | rfl | (simp [errW_none, errW_some] <;> rfl) | (simp [*, errW_none, errW_some] <;> rfl), by repeat (first | (with_reducible first | exact HB.out | apply below_alloc | apply pw_below_drewN | apply below_drew1 | refine below_set ?_ jq.out | refine below_set ?_ jr.out) | exact HB.out)⟩
     ·replace c11 := Bool.eq_false_iff.mpr c11
      subst c11
      have H1 : (some false) = some r := by rw [if_neg (show ¬ (false = true) by decide)] at H; exact H
      clear H
      have H := H1
      clear H1
      obtain rfl := Option.some.inj H
      go_wp2_with (fail)
      go_ret
      exact ⟨by first | rfl | (simp [errW_none, errW_some] <;> rfl) | (simp [*, errW_none, errW_some] <;> rfl), by repeat (first | (with_reducible first | exact HB.out | apply below_alloc | apply pw_below_drewN | apply below_drew1 | refine below_set ?_ jq.out | refine below_set ?_ jr.out) | exact HB.out)⟩
    ·replace c9 := Bool.eq_false_iff.mpr c9
     subst c9
     have H1 : (some false) = some r := by rw [if_neg (show ¬ (false = true) by decide)] at H; exact H
     clear H
     have H := H1
     clear H1
     obtain rfl := Option.some.inj H
     go_wp2_with (fail)
     go_ret
     exact ⟨by first | rfl | (simp [errW_none, errW_some] <;> rfl) | (simp [*, errW_none, errW_some] <;> rfl), by repeat (first | (with_reducible first | exact HB.out | apply below_alloc | apply pw_below_drewN | apply below_drew1 | refine below_set ?_ jq.out | refine below_set ?_ jr.out) | exact HB.out)⟩
   ·replace c7 := Bool.eq_false_iff.mpr c7
    subst c7
    have H1 : (some false) = some r := by rw [if_neg (show ¬ (false = true) by decide)] at H; exact H
    clear H
    have H := H1
    clear H1
    obtain rfl := Option.some.inj H
    go_wp2_with (fail)
    go_ret
    exact ⟨by first | rfl | (simp [errW_none, errW_some] <;> rfl) | (simp [*, errW_none, errW_some] <;> rfl), by repeat (first | (with_reducible first | exact HB.out | apply below_alloc | apply pw_below_drewN | apply below_drew1 | refine below_set ?_ jq.out | refine below_set ?_ jr.out) | exact HB.out)⟩
  ·replace c5 := Bool.eq_false_iff.mpr c5
   subst c5
   have H1 : (some false) = some r := by rw [if_neg (show ¬ (false = true) by decide)] at H; exact H
   clear H
   have H := H1
   clear H1
   obtain rfl := Option.some.inj H
   go_wp2_with (fail)
   go_ret
   exact ⟨by first | rfl | (simp [errW_none, errW_some] <;> rfl) | (simp [*, errW_none, errW_some] <;> rfl), by repeat (first | (with_reducible first | exact HB.out | apply below_alloc | apply pw_below_drewN | apply below_drew1 | refine below_set ?_ jq.out | refine below_set ?_ jr.out) | exact HB.out)⟩
 ·replace c3 := Bool.eq_false_iff.mpr c3
  subst c3
  have H1 : (some false) = some r := by rw [if_neg (show ¬ (false = true) by decide)] at H; exact H
  clear H
  have H := H1
  clear H1
  obtain rfl := Option.some.inj H
  go_wp2_with (fail)
  go_ret
  exact ⟨by first | rfl | (simp [errW_none, errW_some] <;> rfl) | (simp [*, errW_none, errW_some] <;> rfl), by repeat (first | (with_reducible first | exact HB.out | apply below_alloc | apply pw_below_drewN | apply below_drew1 | refine below_set ?_ jq.out | refine below_set ?_ jr.out) | exact HB.out)⟩
end Go.Proofs.Ytbjdnfgalopfiaa.PE
