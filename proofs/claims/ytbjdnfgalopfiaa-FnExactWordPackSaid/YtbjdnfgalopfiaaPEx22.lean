import Derived.Test.YtbjdnfgalopfiaaPEx0
import Derived.Test.YtbjdnfgalopfiaaPEx16
import Derived.Test.YtbjdnfgalopfiaaPEx17
import Derived.Test.YtbjdnfgalopfiaaPEx19
import Derived.Test.YtbjdnfgalopfiaaPEx20
import Derived.Test.YtbjdnfgalopfiaaPEx21
namespace Go.Proofs.Ytbjdnfgalopfiaa.PE
open Go.RowKit Go.Proofs.YtbjdnfgalopfiaaW.PrintWords Go.Proofs.YtbjdnfgalopfiaaW.PrintLast Go.Proofs.YtbjdnfgalopfiaaW.PrintMore
attribute [local go_sem] max2_int min2_int max_two min_two max_three min_three max_four min_four
set_option linter.unusedVariables false
set_option linter.unusedSimpArgs false

def spec_WordOk.f (k : Nat) (a0_0 : Int) (a0_1 : Int) (a0_2 : Int) (a0_3 : Int) (a0_4 : Int) (a0_5 : Int) (a0_6 : Bool) (l0_7 : List Int) (l0_8 : List (S68)) (a0_9 : Int) (l0_10 : List Int) (a0_11 : Int) (a0_12 : Int) (a0_13 : Int) (a0_14 : ByteArray) (a0_15 : Int) (a0_16 : Int) : Option (Bool) := (spec_l6In.f a0_0 1 9).bind fun t80002 => (if t80002 = true then ((spec_l12Place.f a0_1).bind fun t80003 => (if t80003 = true then ((spec_l12Place.f a0_2).bind fun t80004 => (if t80004 = true then ((spec_l6In.f a0_3 0 9999).bind fun t80005 => (if t80005 = true then ((spec_l6In.f a0_4 0 9999).bind fun t80006 => (if t80006 = true then ((spec_l6In.f a0_5 0 3).bind fun t80007 => (if t80007 = true then ((spec_l12Slots.f k l0_7).bind fun t80008 => (if t80008 = true then ((spec_l1Pairs.f k l0_8).bind fun t80009 => (if t80009 = true then ((spec_l6In.f a0_9 0 9).bind fun t80010 => (if t80010 = true then ((spec_l3Vals.f k l0_10).bind fun t80011 => (if t80011 = true then ((spec_l12Call.f a0_11 a0_12 a0_13 a0_14 a0_15 a0_16).bind fun t80012 => (some t80012)) else (some false))) else (some false))) else (some false))) else (some false))) else (some false))) else (some false))) else (some false))) else (some false))) else (some false))) else (some false))
theorem spec_WordOk.mono : ∀ a0 a1 a2 a3 a4 a5 a6 a7 a8 a9 a10 a11 a12 a13 a14 a15 a16 k, LeO (spec_WordOk.f k a0 a1 a2 a3 a4 a5 a6 a7 a8 a9 a10 a11 a12 a13 a14 a15 a16) (spec_WordOk.f (k + 1) a0 a1 a2 a3 a4 a5 a6 a7 a8 a9 a10 a11 a12 a13 a14 a15 a16) := by
 intro a0 a1 a2 a3 a4 a5 a6 a7 a8 a9 a10 a11 a12 a13 a14 a15 a16 k
 unfold spec_WordOk.f
 repeat' first
  | (with_reducible exact spec_l12Slots.mono _ _)
  | (with_reducible exact spec_l1Pairs.mono _ _)
  | (with_reducible exact spec_l3Vals.mono _ _)
  | (with_reducible exact LeO.refl _)
  | (with_reducible exact LeO.none _)
  | (with_reducible refine LeO.ite ?_ ?_)
  | (with_reducible refine LeO.bind ?_ (fun _ => ?_))
  | exact spec_l12Slots.mono _ _
  | exact spec_l1Pairs.mono _ _
  | exact spec_l3Vals.mono _ _
  | exact LeO.none _
  | refine LeO.ite ?_ ?_
  | refine LeO.bind ?_ (fun _ => ?_)
set_option maxHeartbeats 8000000 in
set_option maxRecDepth 100000 in
theorem spec_WordOk.calls (k : Nat) (a0_0 : Int) (a0_1 : Int) (a0_2 : Int) (a0_3 : Int) (a0_4 : Int) (a0_5 : Int) (a0_6 : Bool) (A0_7 : Option Addr) (c0_7 : Nat) (l0_7 : List Int) (A0_8 : Option Addr) (c0_8 : Nat) (l0_8 : List (S68)) (a0_9 : Int) (A0_10 : Option Addr) (c0_10 : Nat) (l0_10 : List Int) (a0_11 : Int) (a0_12 : Int) (a0_13 : Int) (a0_14 : ByteArray) (a0_15 : Int) (a0_16 : Int) (r : Bool) (w : World) (hr0_7 : Kd.C (Kd.int .i64) w A0_7 l0_7.length l0_7) (hc0_7 : l0_7.length ≤ c0_7) (hr0_8 : Kd.C k68 w A0_8 l0_8.length l0_8) (hc0_8 : l0_8.length ≤ c0_8) (hr0_10 : Kd.C (Kd.int .i64) w A0_10 l0_10.length l0_10) (hc0_10 : l0_10.length ≤ c0_10) (h : spec_WordOk.f k a0_0 a0_1 a0_2 a0_3 a0_4 a0_5 a0_6 l0_7 l0_8 a0_9 l0_10 a0_11 a0_12 a0_13 a0_14 a0_15 a0_16 = some r) :
 Calls Try.prog 7 #[.agg #[.int .i64 a0_0, .int .i64 a0_1, .int .i64 a0_2, .int .i64 a0_3, .int .i64 a0_4, .int .i64 a0_5, .bool a0_6, .slice A0_7 l0_7.length c0_7, .slice A0_8 l0_8.length c0_8, .int .i64 a0_9, .slice A0_10 l0_10.length c0_10, .int .i64 a0_11, .int .i64 a0_12, .int .i64 a0_13, .string a0_14, .int .i64 a0_15, .int .i64 a0_16]] w fun e w' => e = .returned (.bool r) ∧ Below w.heap.size w w' := by
 have hu33 := Try.underlying33
 have hu31 := Try.underlying31
 have HR0_7 := Aside0.mk hr0_7
 have HC0_7 := Aside0.mk hc0_7
 clear hr0_7 hc0_7
 have HR0_8 := Aside0.mk hr0_8
 have HC0_8 := Aside0.mk hc0_8
 clear hr0_8 hc0_8
 have HR0_10 := Aside0.mk hr0_10
 have HC0_10 := Aside0.mk hc0_10
 clear hr0_10 hc0_10
 have HB := Aside0.mk (Below.refl w.heap.size w)
 have H : ((spec_l6In.f a0_0 1 9).bind fun jn => (if jn = true then ((spec_l12Place.f a0_1).bind fun jm => (if jm = true then ((spec_l12Place.f a0_2).bind fun jk => (if jk = true then ((spec_l6In.f a0_3 0 9999).bind fun jj => (if jj = true then ((spec_l6In.f a0_4 0 9999).bind fun ji => (if ji = true then ((spec_l6In.f a0_5 0 3).bind fun jh => (if jh = true then ((spec_l12Slots.f k l0_7).bind fun jg => (if jg = true then ((spec_l1Pairs.f k l0_8).bind fun jf => (if jf = true then ((spec_l6In.f a0_9 0 9).bind fun jd => (if jd = true then ((spec_l3Vals.f k l0_10).bind fun jc => (if jc = true then ((spec_l12Call.f a0_11 a0_12 a0_13 a0_14 a0_15 a0_16).bind fun jb => (some jb)) else (some false))) else (some false))) else (some false))) else (some false))) else (some false))) else (some false))) else (some false))) else (some false))) else (some false))) else (some false))) = some r := h
 clear h
 replace H := Option.bind_eq_some_iff.mp H
 obtain ⟨jn, A20, H⟩ := H
 replace H : (if jn = true then ((spec_l12Place.f a0_1).bind fun jm => (if jm = true then ((spec_l12Place.f a0_2).bind fun jk => (if jk = true then ((spec_l6In.f a0_3 0 9999).bind fun jj => (if jj = true then ((spec_l6In.f a0_4 0 9999).bind fun ji => (if ji = true then ((spec_l6In.f a0_5 0 3).bind fun jh => (if jh = true then ((spec_l12Slots.f k l0_7).bind fun jg => (if jg = true then ((spec_l1Pairs.f k l0_8).bind fun jf => (if jf = true then ((spec_l6In.f a0_9 0 9).bind fun jd => (if jd = true then ((spec_l3Vals.f k l0_10).bind fun jc => (if jc = true then ((spec_l12Call.f a0_11 a0_12 a0_13 a0_14 a0_15 a0_16).bind fun jb => (some jb)) else (some false))) else (some false))) else (some false))) else (some false))) else (some false))) else (some false))) else (some false))) else (some false))) else (some false))) else (some false)) = some r := H
 have A2 := Aside0.mk A20
 clear A20
 go_enter Try.func7, Try.ntmps7
 go_wp2_with (first | ((with_reducible refine gate_dst (N := 1) rfl ?_); refine box_event ?hg (N := 1) ?hd (cs := #[.int .i64 a0_0, .int .i64 a0_1, .int .i64 a0_2, .int .i64 a0_3, .int .i64 a0_4, .int .i64 a0_5, .bool a0_6, .slice A0_7 l0_7.length c0_7, .slice A0_8 l0_8.length c0_8, .int .i64 a0_9, .slice A0_10 l0_10.length c0_10, .int .i64 a0_11, .int .i64 a0_12, .int .i64 a0_13, .string a0_14, .int .i64 a0_15, .int .i64 a0_16]) (t := 33) ?hr ?_; (case hd => rfl); (case hg => rfl); (case hr => first | (go_simp; done) | (go_simp; rfl)); intro je hg w23 hbox hb; have n0_ := Aside0.mk (below_step (hb_ HB.out) hb); have n1_ := Aside0.mk (hbox); have n2_ := Aside0.mk ((by rw [hg]; exact (below_size (hb_ HB.out)) : w.heap.size ≤ je)); have n3_ := Aside0.mk ((by rw [hg]; exact (below_size (hb_ HB.out)) : w.heap.size ≤ je)); clear HB; have HB := n0_; have ja := n1_; have jo := n2_; have jl := n3_; clear n0_ n1_ n2_ n3_; clear hb hbox hg; have hcz24_0 : w23.cell? ⟨je, 0, none⟩ = some (.int .i64 a0_0) := (blk_cell ja.out 0).trans rfl; have hcz24_1 : w23.cell? ⟨je, 1, none⟩ = some (.int .i64 a0_1) := (blk_cell ja.out 1).trans rfl; have hcz24_2 : w23.cell? ⟨je, 2, none⟩ = some (.int .i64 a0_2) := (blk_cell ja.out 2).trans rfl; have hcz24_3 : w23.cell? ⟨je, 3, none⟩ = some (.int .i64 a0_3) := (blk_cell ja.out 3).trans rfl; have hcz24_4 : w23.cell? ⟨je, 4, none⟩ = some (.int .i64 a0_4) := (blk_cell ja.out 4).trans rfl; have hcz24_5 : w23.cell? ⟨je, 5, none⟩ = some (.int .i64 a0_5) := (blk_cell ja.out 5).trans rfl; have hcz24_6 : w23.cell? ⟨je, 6, none⟩ = some (.bool a0_6) := (blk_cell ja.out 6).trans rfl; have hcz24_7 : w23.cell? ⟨je, 7, none⟩ = some (.slice A0_7 l0_7.length c0_7) := (blk_cell ja.out 7).trans rfl; have hcz24_8 : w23.cell? ⟨je, 8, none⟩ = some (.slice A0_8 l0_8.length c0_8) := (blk_cell ja.out 8).trans rfl; have hcz24_9 : w23.cell? ⟨je, 9, none⟩ = some (.int .i64 a0_9) := (blk_cell ja.out 9).trans rfl; have hcz24_10 : w23.cell? ⟨je, 10, none⟩ = some (.slice A0_10 l0_10.length c0_10) := (blk_cell ja.out 10).trans rfl; have hcz24_11 : w23.cell? ⟨je, 11, none⟩ = some (.int .i64 a0_11) := (blk_cell ja.out 11).trans rfl; have hcz24_12 : w23.cell? ⟨je, 12, none⟩ = some (.int .i64 a0_12) := (blk_cell ja.out 12).trans rfl; have hcz24_13 : w23.cell? ⟨je, 13, none⟩ = some (.int .i64 a0_13) := (blk_cell ja.out 13).trans rfl; have hcz24_14 : w23.cell? ⟨je, 14, none⟩ = some (.string a0_14) := (blk_cell ja.out 14).trans rfl; have hcz24_15 : w23.cell? ⟨je, 15, none⟩ = some (.int .i64 a0_15) := (blk_cell ja.out 15).trans rfl; have hcz24_16 : w23.cell? ⟨je, 16, none⟩ = some (.int .i64 a0_16) := (blk_cell ja.out 16).trans rfl; have hfz24_0 := blk_frozen ja.out 0; have hfz24_1 := blk_frozen ja.out 1; have hfz24_2 := blk_frozen ja.out 2; have hfz24_3 := blk_frozen ja.out 3; have hfz24_4 := blk_frozen ja.out 4; have hfz24_5 := blk_frozen ja.out 5; have hfz24_6 := blk_frozen ja.out 6; have hfz24_7 := blk_frozen ja.out 7; have hfz24_8 := blk_frozen ja.out 8; have hfz24_9 := blk_frozen ja.out 9; have hfz24_10 := blk_frozen ja.out 10; have hfz24_11 := blk_frozen ja.out 11; have hfz24_12 := blk_frozen ja.out 12; have hfz24_13 := blk_frozen ja.out 13; have hfz24_14 := blk_frozen ja.out 14; have hfz24_15 := blk_frozen ja.out 15; have hfz24_16 := blk_frozen ja.out 16))
 (with_reducible refine (spec_l6In.calls a0_0 1 9 jn _ A2.out).mono ?_)
 rintro e w' ⟨rfl, ⟨nd, rfl⟩⟩
 by_cases c3 : jn = true
 ·subst c3
  have H1 : ((spec_l12Place.f a0_1).bind fun jm => (if jm = true then ((spec_l12Place.f a0_2).bind fun jk => (if jk = true then ((spec_l6In.f a0_3 0 9999).bind fun jj => (if jj = true then ((spec_l6In.f a0_4 0 9999).bind fun ji => (if ji = true then ((spec_l6In.f a0_5 0 3).bind fun jh => (if jh = true then ((spec_l12Slots.f k l0_7).bind fun jg => (if jg = true then ((spec_l1Pairs.f k l0_8).bind fun jf => (if jf = true then ((spec_l6In.f a0_9 0 9).bind fun jd => (if jd = true then ((spec_l3Vals.f k l0_10).bind fun jc => (if jc = true then ((spec_l12Call.f a0_11 a0_12 a0_13 a0_14 a0_15 a0_16).bind fun jb => (some jb)) else (some false))) else (some false))) else (some false))) else (some false))) else (some false))) else (some false))) else (some false))) else (some false))) else (some false))) = some r := by rw [if_pos rfl] at H; exact H
  clear H
  have H := H1
  clear H1
  replace H := Option.bind_eq_some_iff.mp H
  obtain ⟨jm, A40, H⟩ := H
  replace H : (if jm = true then ((spec_l12Place.f a0_2).bind fun jk => (if jk = true then ((spec_l6In.f a0_3 0 9999).bind fun jj => (if jj = true then ((spec_l6In.f a0_4 0 9999).bind fun ji => (if ji = true then ((spec_l6In.f a0_5 0 3).bind fun jh => (if jh = true then ((spec_l12Slots.f k l0_7).bind fun jg => (if jg = true then ((spec_l1Pairs.f k l0_8).bind fun jf => (if jf = true then ((spec_l6In.f a0_9 0 9).bind fun jd => (if jd = true then ((spec_l3Vals.f k l0_10).bind fun jc => (if jc = true then ((spec_l12Call.f a0_11 a0_12 a0_13 a0_14 a0_15 a0_16).bind fun jb => (some jb)) else (some false))) else (some false))) else (some false))) else (some false))) else (some false))) else (some false))) else (some false))) else (some false))) else (some false)) = some r := H
  have A4 := Aside0.mk A40
  clear A40
  go_wp2_with (fail)
  (with_reducible refine (spec_l12Place.calls a0_1 jm _ A4.out).mono ?_)
  rintro e w' ⟨rfl, ⟨nd, rfl⟩⟩
  by_cases c5 : jm = true
  ·subst c5
   have H1 : ((spec_l12Place.f a0_2).bind fun jk => (if jk = true then ((spec_l6In.f a0_3 0 9999).bind fun jj => (if jj = true then ((spec_l6In.f a0_4 0 9999).bind fun ji => (if ji = true then ((spec_l6In.f a0_5 0 3).bind fun jh => (if jh = true then ((spec_l12Slots.f k l0_7).bind fun jg => (if jg = true then ((spec_l1Pairs.f k l0_8).bind fun jf => (if jf = true then ((spec_l6In.f a0_9 0 9).bind fun jd => (if jd = true then ((spec_l3Vals.f k l0_10).bind fun jc => (if jc = true then ((spec_l12Call.f a0_11 a0_12 a0_13 a0_14 a0_15 a0_16).bind fun jb => (some jb)) else (some false))) else (some false))) else (some false))) else (some false))) else (some false))) else (some false))) else (some false))) else (some false))) = some r := by rw [if_pos rfl] at H; exact H
   clear H
   have H := H1
   clear H1
   replace H := Option.bind_eq_some_iff.mp H
   obtain ⟨jk, A60, H⟩ := H
   replace H : (if jk = true then ((spec_l6In.f a0_3 0 9999).bind fun jj => (if jj = true then ((spec_l6In.f a0_4 0 9999).bind fun ji => (if ji = true then ((spec_l6In.f a0_5 0 3).bind fun jh => (if jh = true then ((spec_l12Slots.f k l0_7).bind fun jg => (if jg = true then ((spec_l1Pairs.f k l0_8).bind fun jf => (if jf = true then ((spec_l6In.f a0_9 0 9).bind fun jd => (if jd = true then ((spec_l3Vals.f k l0_10).bind fun jc => (if jc = true then ((spec_l12Call.f a0_11 a0_12 a0_13 a0_14 a0_15 a0_16).bind fun jb => (some jb)) else (some false))) else (some false))) else (some false))) else (some false))) else (some false))) else (some false))) else (some false))) else (some false)) = some r := H
   have A6 := Aside0.mk A60
   clear A60
   go_wp2_with (fail)
   (with_reducible refine (spec_l12Place.calls a0_2 jk _ A6.out).mono ?_)
   rintro e w' ⟨rfl, ⟨nd, rfl⟩⟩
   by_cases c7 : jk = true
   ·subst c7
    have H1 : ((spec_l6In.f a0_3 0 9999).bind fun jj => (if jj = true then ((spec_l6In.f a0_4 0 9999).bind fun ji => (if ji = true then ((spec_l6In.f a0_5 0 3).bind fun jh => (if jh = true then ((spec_l12Slots.f k l0_7).bind fun jg => (if jg = true then ((spec_l1Pairs.f k l0_8).bind fun jf => (if jf = true then ((spec_l6In.f a0_9 0 9).bind fun jd => (if jd = true then ((spec_l3Vals.f k l0_10).bind fun jc => (if jc = true then ((spec_l12Call.f a0_11 a0_12 a0_13 a0_14 a0_15 a0_16).bind fun jb => (some jb)) else (some false))) else (some false))) else (some false))) else (some false))) else (some false))) else (some false))) else (some false))) = some r := by rw [if_pos rfl] at H; exact H
    clear H
    have H := H1
    clear H1
    replace H := Option.bind_eq_some_iff.mp H
    obtain ⟨jj, A80, H⟩ := H
    replace H : (if jj = true then ((spec_l6In.f a0_4 0 9999).bind fun ji => (if ji = true then ((spec_l6In.f a0_5 0 3).bind fun jh => (if jh = true then ((spec_l12Slots.f k l0_7).bind fun jg => (if jg = true then ((spec_l1Pairs.f k l0_8).bind fun jf => (if jf = true then ((spec_l6In.f a0_9 0 9).bind fun jd => (if jd = true then ((spec_l3Vals.f k l0_10).bind fun jc => (if jc = true then ((spec_l12Call.f a0_11 a0_12 a0_13 a0_14 a0_15 a0_16).bind fun jb => (some jb)) else (some false))) else (some false))) else (some false))) else (some false))) else (some false))) else (some false))) else (some false)) = some r := H
    have A8 := Aside0.mk A80
    clear A80
    go_wp2_with (fail)
    (with_reducible refine (spec_l6In.calls a0_3 0 9999 jj _ A8.out).mono ?_)
    rintro e w' ⟨rfl, ⟨nd, rfl⟩⟩
    by_cases c9 : jj = true
    ·subst c9
     have H1 : ((spec_l6In.f a0_4 0 9999).bind fun ji => (if ji = true then ((spec_l6In.f a0_5 0 3).bind fun jh => (if jh = true then ((spec_l12Slots.f k l0_7).bind fun jg => (if jg = true then ((spec_l1Pairs.f k l0_8).bind fun jf => (if jf = true then ((spec_l6In.f a0_9 0 9).bind fun jd => (if jd = true then ((spec_l3Vals.f k l0_10).bind fun jc => (if jc = true then ((spec_l12Call.f a0_11 a0_12 a0_13 a0_14 a0_15 a0_16).bind fun jb => (some jb)) else (some false))) else (some false))) else (some false))) else (some false))) else (some false))) else (some false))) = some r := by rw [if_pos rfl] at H; exact H
     clear H
     have H := H1
     clear H1
     replace H := Option.bind_eq_some_iff.mp H
     obtain ⟨ji, A100, H⟩ := H
     replace H : (if ji = true then ((spec_l6In.f a0_5 0 3).bind fun jh => (if jh = true then ((spec_l12Slots.f k l0_7).bind fun jg => (if jg = true then ((spec_l1Pairs.f k l0_8).bind fun jf => (if jf = true then ((spec_l6In.f a0_9 0 9).bind fun jd => (if jd = true then ((spec_l3Vals.f k l0_10).bind fun jc => (if jc = true then ((spec_l12Call.f a0_11 a0_12 a0_13 a0_14 a0_15 a0_16).bind fun jb => (some jb)) else (some false))) else (some false))) else (some false))) else (some false))) else (some false))) else (some false)) = some r := H
     have A10 := Aside0.mk A100
     clear A100
     go_wp2_with (fail)
     (with_reducible refine (spec_l6In.calls a0_4 0 9999 ji _ A10.out).mono ?_)
     rintro e w' ⟨rfl, ⟨nd, rfl⟩⟩
     by_cases c11 : ji = true
     ·subst c11
      have H1 : ((spec_l6In.f a0_5 0 3).bind fun jh => (if jh = true then ((spec_l12Slots.f k l0_7).bind fun jg => (if jg = true then ((spec_l1Pairs.f k l0_8).bind fun jf => (if jf = true then ((spec_l6In.f a0_9 0 9).bind fun jd => (if jd = true then ((spec_l3Vals.f k l0_10).bind fun jc => (if jc = true then ((spec_l12Call.f a0_11 a0_12 a0_13 a0_14 a0_15 a0_16).bind fun jb => (some jb)) else (some false))) else (some false))) else (some false))) else (some false))) else (some false))) = some r := by rw [if_pos rfl] at H; exact H
      clear H
      have H := H1
      clear H1
      replace H := Option.bind_eq_some_iff.mp H
      obtain ⟨jh, A120, H⟩ := H
      replace H : (if jh = true then ((spec_l12Slots.f k l0_7).bind fun jg => (if jg = true then ((spec_l1Pairs.f k l0_8).bind fun jf => (if jf = true then ((spec_l6In.f a0_9 0 9).bind fun jd => (if jd = true then ((spec_l3Vals.f k l0_10).bind fun jc => (if jc = true then ((spec_l12Call.f a0_11 a0_12 a0_13 a0_14 a0_15 a0_16).bind fun jb => (some jb)) else (some false))) else (some false))) else (some false))) else (some false))) else (some false)) = some r := H
      have A12 := Aside0.mk A120
      clear A120
      go_wp2_with (fail)
      (with_reducible refine (spec_l6In.calls a0_5 0 3 jh _ A12.out).mono ?_)
      rintro e w' ⟨rfl, ⟨nd, rfl⟩⟩
      by_cases c13 : jh = true
      ·subst c13
       have H1 : ((spec_l12Slots.f k l0_7).bind fun jg => (if jg = true then ((spec_l1Pairs.f k l0_8).bind fun jf => (if jf = true then ((spec_l6In.f a0_9 0 9).bind fun jd => (if jd = true then ((spec_l3Vals.f k l0_10).bind fun jc => (if jc = true then ((spec_l12Call.f a0_11 a0_12 a0_13 a0_14 a0_15 a0_16).bind fun jb => (some jb)) else (some false))) else (some false))) else (some false))) else (some false))) = some r := by rw [if_pos rfl] at H; exact H
       clear H
       have H := H1
       clear H1
       replace H := Option.bind_eq_some_iff.mp H
       obtain ⟨jg, A140, H⟩ := H
       replace H : (if jg = true then ((spec_l1Pairs.f k l0_8).bind fun jf => (if jf = true then ((spec_l6In.f a0_9 0 9).bind fun jd => (if jd = true then ((spec_l3Vals.f k l0_10).bind fun jc => (if jc = true then ((spec_l12Call.f a0_11 a0_12 a0_13 a0_14 a0_15 a0_16).bind fun jb => (some jb)) else (some false))) else (some false))) else (some false))) else (some false)) = some r := H
       have A14 := Aside0.mk A140
       clear A140
       go_wp2_with (fail)
       (with_reducible refine (spec_l12Slots.calls k _ _ l0_7 jg _ ?side1 ?side2 A14.out).mono ?_)
       (case side1 => repeat (first | exact (Kd.C_below HR0_7.out (hb_ HB.out)) | (with_reducible refine Kd.C_alloc ?_ _) | (with_reducible refine Kd.C_drewN ?_ _) | (with_reducible refine Kd.C_drew ?_)))
       (case side2 => exact HC0_7.out)
       rintro e w' ⟨rfl, ⟨nd, rfl⟩⟩
       by_cases c15 : jg = true
       ·subst c15
        have H1 : ((spec_l1Pairs.f k l0_8).bind fun jf => (if jf = true then ((spec_l6In.f a0_9 0 9).bind fun jd => (if jd = true then ((spec_l3Vals.f k l0_10).bind fun jc => (if jc = true then ((spec_l12Call.f a0_11 a0_12 a0_13 a0_14 a0_15 a0_16).bind fun jb => (some jb)) else (some false))) else (some false))) else (some false))) = some r := by rw [if_pos rfl] at H; exact H
        clear H
        have H := H1
        clear H1
        replace H := Option.bind_eq_some_iff.mp H
        obtain ⟨jf, A160, H⟩ := H
        replace H : (if jf = true then ((spec_l6In.f a0_9 0 9).bind fun jd => (if jd = true then ((spec_l3Vals.f k l0_10).bind fun jc => (if jc = true then ((spec_l12Call.f a0_11 a0_12 a0_13 a0_14 a0_15 a0_16).bind fun jb => (some jb)) else (some false))) else (some false))) else (some false)) = some r := H
        have A16 := Aside0.mk A160
        clear A160
        go_wp2_with (fail)
        (with_reducible refine (spec_l1Pairs.calls k _ _ l0_8 jf _ ?side1 ?side2 A16.out).mono ?_)
        (case side1 => repeat (first | exact (Kd.C_below HR0_8.out (hb_ HB.out)) | (with_reducible refine Kd.C_alloc ?_ _) | (with_reducible refine Kd.C_drewN ?_ _) | (with_reducible refine Kd.C_drew ?_)))
        (case side2 => exact HC0_8.out)
        rintro e w25 ⟨rfl, hb⟩
        have n0_ := Aside0.mk (blk_below (bk_ ja.out) hb)
        have n1_ := Aside0.mk (below_step (hb_ HB.out) hb)
        clear ja
        clear HB
        have ja := n0_
        have HB := n1_
        clear n0_ n1_
        (try clear hb)
        (try clear hb2)
        (try clear hk)
        (try clear hi)
        have hcz26_0 : w25.cell? ⟨je, 0, none⟩ = some (.int .i64 a0_0) := (blk_cell ja.out 0).trans rfl
        have hcz26_1 : w25.cell? ⟨je, 1, none⟩ = some (.int .i64 a0_1) := (blk_cell ja.out 1).trans rfl
        have hcz26_2 : w25.cell? ⟨je, 2, none⟩ = some (.int .i64 a0_2) := (blk_cell ja.out 2).trans rfl
        have hcz26_3 : w25.cell? ⟨je, 3, none⟩ = some (.int .i64 a0_3) := (blk_cell ja.out 3).trans rfl
        have hcz26_4 : w25.cell? ⟨je, 4, none⟩ = some (.int .i64 a0_4) := (blk_cell ja.out 4).trans rfl
        have hcz26_5 : w25.cell? ⟨je, 5, none⟩ = some (.int .i64 a0_5) := (blk_cell ja.out 5).trans rfl
        have hcz26_6 : w25.cell? ⟨je, 6, none⟩ = some (.bool a0_6) := (blk_cell ja.out 6).trans rfl
        have hcz26_7 : w25.cell? ⟨je, 7, none⟩ = some (.slice A0_7 l0_7.length c0_7) := (blk_cell ja.out 7).trans rfl
        have hcz26_8 : w25.cell? ⟨je, 8, none⟩ = some (.slice A0_8 l0_8.length c0_8) := (blk_cell ja.out 8).trans rfl
        have hcz26_9 : w25.cell? ⟨je, 9, none⟩ = some (.int .i64 a0_9) := (blk_cell ja.out 9).trans rfl
        have hcz26_10 : w25.cell? ⟨je, 10, none⟩ = some (.slice A0_10 l0_10.length c0_10) := (blk_cell ja.out 10).trans rfl
        have hcz26_11 : w25.cell? ⟨je, 11, none⟩ = some (.int .i64 a0_11) := (blk_cell ja.out 11).trans rfl
        have hcz26_12 : w25.cell? ⟨je, 12, none⟩ = some (.int .i64 a0_12) := (blk_cell ja.out 12).trans rfl
        have hcz26_13 : w25.cell? ⟨je, 13, none⟩ = some (.int .i64 a0_13) := (blk_cell ja.out 13).trans rfl
        have hcz26_14 : w25.cell? ⟨je, 14, none⟩ = some (.string a0_14) := (blk_cell ja.out 14).trans rfl
        have hcz26_15 : w25.cell? ⟨je, 15, none⟩ = some (.int .i64 a0_15) := (blk_cell ja.out 15).trans rfl
        have hcz26_16 : w25.cell? ⟨je, 16, none⟩ = some (.int .i64 a0_16) := (blk_cell ja.out 16).trans rfl
        have hfz26_0 := blk_frozen ja.out 0
        have hfz26_1 := blk_frozen ja.out 1
        have hfz26_2 := blk_frozen ja.out 2
        have hfz26_3 := blk_frozen ja.out 3
        have hfz26_4 := blk_frozen ja.out 4
        have hfz26_5 := blk_frozen ja.out 5
        have hfz26_6 := blk_frozen ja.out 6
        have hfz26_7 := blk_frozen ja.out 7
        have hfz26_8 := blk_frozen ja.out 8
        have hfz26_9 := blk_frozen ja.out 9
        have hfz26_10 := blk_frozen ja.out 10
        have hfz26_11 := blk_frozen ja.out 11
        have hfz26_12 := blk_frozen ja.out 12
        have hfz26_13 := blk_frozen ja.out 13
        have hfz26_14 := blk_frozen ja.out 14
        have hfz26_15 := blk_frozen ja.out 15
        have hfz26_16 := blk_frozen ja.out 16
        by_cases c17 : jf = true
        ·subst c17
         have H1 : ((spec_l6In.f a0_9 0 9).bind fun jd => (if jd = true then ((spec_l3Vals.f k l0_10).bind fun jc => (if jc = true then ((spec_l12Call.f a0_11 a0_12 a0_13 a0_14 a0_15 a0_16).bind fun jb => (some jb)) else (some false))) else (some false))) = some r := by rw [if_pos rfl] at H; exact H
         clear H
         have H := H1
         clear H1
         replace H := Option.bind_eq_some_iff.mp H
         obtain ⟨jd, A180, H⟩ := H
         replace H : (if jd = true then ((spec_l3Vals.f k l0_10).bind fun jc => (if jc = true then ((spec_l12Call.f a0_11 a0_12 a0_13 a0_14 a0_15 a0_16).bind fun jb => (some jb)) else (some false))) else (some false)) = some r := H
         have A18 := Aside0.mk A180
         clear A180
         go_wp2_with (fail)
         (with_reducible refine (spec_l6In.calls a0_9 0 9 jd _ A18.out).mono ?_)
         rintro e w' ⟨rfl, ⟨nd, rfl⟩⟩
         by_cases c19 : jd = true
         ·subst c19
          have H1 : ((spec_l3Vals.f k l0_10).bind fun jc => (if jc = true then ((spec_l12Call.f a0_11 a0_12 a0_13 a0_14 a0_15 a0_16).bind fun jb => (some jb)) else (some false))) = some r := by rw [if_pos rfl] at H; exact H
          clear H
          have H := H1
          clear H1
          replace H := Option.bind_eq_some_iff.mp H
          obtain ⟨jc, A200, H⟩ := H
          replace H : (if jc = true then ((spec_l12Call.f a0_11 a0_12 a0_13 a0_14 a0_15 a0_16).bind fun jb => (some jb)) else (some false)) = some r := H
          have A20 := Aside0.mk A200
          clear A200
          go_wp2_with (fail)
          (with_reducible refine (spec_l3Vals.calls k _ _ l0_10 jc _ ?side1 ?side2 A20.out).mono ?_)
          (case side1 => repeat (first | exact (Kd.C_below HR0_10.out (hb_ HB.out)) | (with_reducible refine Kd.C_alloc ?_ _) | (with_reducible refine Kd.C_drewN ?_ _) | (with_reducible refine Kd.C_drew ?_)))
          (case side2 => exact HC0_10.out)
          rintro e w' ⟨rfl, ⟨nd, rfl⟩⟩
          by_cases c21 : jc = true
          ·subst c21
           have H1 : ((spec_l12Call.f a0_11 a0_12 a0_13 a0_14 a0_15 a0_16).bind fun jb => (some jb)) = some r := by rw [if_pos rfl] at H; exact H
           clear H
           have H := H1
           clear H1
           replace H := Option.bind_eq_some_iff.mp H
           obtain ⟨jb, A220, H⟩ := H
           replace H : (some jb) = some r := H
           have A22 := Aside0.mk A220
           clear A220
           obtain rfl := Option.some.inj H
           go_wp2_with (fail)
           (with_reducible refine (spec_l12Call.calls a0_11 a0_12 a0_13 a0_14 a0_15 a0_16 jb _ A22.out).mono ?_)
           rintro e w27 ⟨rfl, hb⟩
           have n0_ := Aside0.mk (blk_below (bk_ ja.out) hb)
           have n1_ := Aside0.mk (below_step (hb_ HB.out) hb)
           clear ja
           clear HB
           have ja := n0_
           have HB := n1_
           clear n0_ n1_
           (try clear hb)
           (try clear hb2)
           (try clear hk)
           (try clear hi)
           go_wp2_with (fail)
           go_ret
           exact ⟨by first | rfl | (simp [errW_none, errW_some] <;> rfl) | (simp [*, errW_none, errW_some] <;> rfl), by repeat (first | (with_reducible first | exact HB.out | apply below_alloc | apply pw_below_drewN | apply below_drew1 | refine below_set ?_ jl.out) | exact HB.out)⟩
          ·replace c21 := Bool.eq_false_iff.mpr c21
           subst c21
           have H1 : (some false) = some r := by rw [if_neg (show ¬ (false = true) by decide)] at H; exact H
           clear H
           have H := H1
           clear H1
           obtain rfl := Option.some.inj H
           go_wp2_with (fail)
           go_ret
           exact ⟨by first | rfl | (simp [errW_none, errW_some] <;> rfl) | (simp [*, errW_none, errW_some] <;> rfl), by repeat (first | (with_reducible first | exact HB.out | apply below_alloc | apply pw_below_drewN | apply below_drew1 | refine below_set ?_ jl.out) | exact HB.out)⟩
         ·replace c19 := Bool.eq_false_iff.mpr c19
          subst c19
          have H1 : (some false) = some r := by rw [if_neg (show ¬ (false = true) by decide)] at H; exact H
          clear H
          have H := H1
          clear H1
          obtain rfl := Option.some.inj H
          go_wp2_with (fail)
          go_ret
          exact ⟨by first | rfl | (simp [errW_none, errW_some] <;> rfl) | (simp [*, errW_none, errW_some] <;> rfl), by repeat (first | (with_reducible first | exact HB.out | apply below_alloc | apply pw_below_drewN | apply below_drew1 | refine below_set ?_ jl.out) | exact HB.out)⟩
        ·replace c17 := Bool.eq_false_iff.mpr c17
         subst c17
         have H1 : (some false) = some r := by rw [if_neg (show ¬ (false = true) by decide)] at H; exact H
         clear H
         have H := H1
         clear H1
         obtain rfl := Option.some.inj H
         go_wp2_with (fail)
         go_ret
         exact ⟨by first | rfl | (simp [errW_none, errW_some] <;> rfl) | (simp [*, errW_none, errW_some] <;> rfl), by repeat (first | (with_reducible first | exact HB.out | apply below_alloc | apply pw_below_drewN | apply below_drew1 | refine below_set ?_ jl.out) | exact HB.out)⟩
       ·replace c15 := Bool.eq_false_iff.mpr c15
        subst c15
        have H1 : (some false) = some r := by rw [if_neg (show ¬ (false = true) by decide)] at H; exact H
        clear H
        have H := H1
        clear H1
        obtain rfl := Option.some.inj H
        go_wp2_with (fail)
        go_ret
        exact ⟨by first | rfl | (simp [errW_none, errW_some] <;> rfl) | (simp [*, errW_none, errW_some] <;> rfl), by repeat (first | (with_reducible first | exact HB.out | apply below_alloc | apply pw_below_drewN | apply below_drew1 | refine below_set ?_ jl.out) | exact HB.out)⟩
      ·replace c13 := Bool.eq_false_iff.mpr c13
       subst c13
       have H1 : (some false) = some r := by rw [if_neg (show ¬ (false = true) by decide)] at H; exact H
       clear H
       have H := H1
       clear H1
       obtain rfl := Option.some.inj H
       go_wp2_with (fail)
       go_ret
       exact ⟨by first | rfl | (simp [errW_none, errW_some] <;> rfl) | (simp [*, errW_none, errW_some] <;> rfl), by repeat (first | (with_reducible first | exact HB.out | apply below_alloc | apply pw_below_drewN | apply below_drew1 | refine below_set ?_ jl.out) | exact HB.out)⟩
     ·replace c11 := Bool.eq_false_iff.mpr c11
      subst c11
      have H1 : (some false) = some r := by rw [if_neg (show ¬ (false = true) by decide)] at H; exact H
      clear H
      have H := H1
      clear H1
      obtain rfl := Option.some.inj H
      go_wp2_with (fail)
      go_ret
      exact ⟨by first | rfl | (simp [errW_none, errW_some] <;> rfl) | (simp [*, errW_none, errW_some] <;> rfl), by repeat (first | (with_reducible first | exact HB.out | apply below_alloc | apply pw_below_drewN | apply below_drew1 | refine below_set ?_ jl.out) | exact HB.out)⟩
    ·replace c9 := Bool.eq_false_iff.mpr c9
     subst c9
     have H1 : (some false) = some r := by rw [if_neg (show ¬ (false = true) by decide)] at H; exact H
     clear H
     have H := H1
     clear H1
     obtain rfl := Option.some.inj H
     go_wp2_with (fail)
     go_ret
     exact ⟨by first | rfl | (simp [errW_none, errW_some] <;> rfl) | (simp [*, errW_none, errW_some] <;> rfl), by repeat (first | (with_reducible first | exact HB.out | apply below_alloc | apply pw_below_drewN | apply below_drew1 | refine below_set ?_ jl.out) | exact HB.out)⟩
   ·replace c7 := Bool.eq_false_iff.mpr c7
    subst c7
    have H1 : (some false) = some r := by rw [if_neg (show ¬ (false = true) by decide)] at H; exact H
    clear H
    have H := H1
    clear H1
    obtain rfl := Option.some.inj H
    go_wp2_with (fail)
    go_ret
    exact ⟨by first | rfl | (simp [errW_none, errW_some] <;> rfl) | (simp [*, errW_none, errW_some] <;> rfl), by repeat (first | (with_reducible first | exact HB.out | apply below_alloc | apply pw_below_drewN | apply below_drew1 | refine below_set ?_ jl.out) | exact HB.out)⟩
  ·replace c5 := Bool.eq_false_iff.mpr c5
   subst c5
   have H1 : (some false) = some r := by rw [if_neg (show ¬ (false = true) by decide)] at H; exact H
   clear H
   have H := H1
   clear H1
   obtain rfl := Option.some.inj H
   go_wp2_with (fail)
   go_ret
   exact ⟨by first | rfl | (simp [errW_none, errW_some] <;> rfl) | (simp [*, errW_none, errW_some] <;> rfl), by repeat (first | (with_reducible first | exact HB.out | apply below_alloc | apply pw_below_drewN | apply below_drew1 | refine below_set ?_ jl.out) | exact HB.out)⟩
 ·replace c3 := Bool.eq_false_iff.mpr c3
  subst c3
  have H1 : (some false) = some r := by rw [if_neg (show ¬ (false = true) by decide)] at H; exact H
  clear H
  have H := H1
  clear H1
  obtain rfl := Option.some.inj H
  go_wp2_with (fail)
  go_ret
  exact ⟨by first | rfl | (simp [errW_none, errW_some] <;> rfl) | (simp [*, errW_none, errW_some] <;> rfl), by repeat (first | (with_reducible first | exact HB.out | apply below_alloc | apply pw_below_drewN | apply below_drew1 | refine below_set ?_ jl.out) | exact HB.out)⟩
end Go.Proofs.Ytbjdnfgalopfiaa.PE
