import Derived.Test.YtbjdnfgalopfiaaPXx0
import Derived.Test.YtbjdnfgalopfiaaPXx4
import Derived.Test.YtbjdnfgalopfiaaPXx5
import Derived.Test.YtbjdnfgalopfiaaPXx6
namespace Go.Proofs.Ytbjdnfgalopfiaa.PX
open Go.RowKit Go.Proofs.YtbjdnfgalopfiaaW.PrintWords Go.Proofs.YtbjdnfgalopfiaaW.PrintLast Go.Proofs.YtbjdnfgalopfiaaW.PrintMore
attribute [local go_sem] max2_int min2_int max_two min_two max_three min_three max_four min_four
set_option linter.unusedVariables false
set_option linter.unusedSimpArgs false

def spec_WordOk.f (k : Nat) (a0_0 : Int) (a0_1 : Int) (a0_2 : Int) (a0_3 : Int) (a0_4 : Int) (a0_5 : Int) (a0_6 : Bool) (l0_7 : List Int) (l0_8 : List (S68)) (a0_9 : Int) (l0_10 : List Int) (a0_11 : Int) (a0_12 : Int) (a0_13 : Int) (a0_14 : ByteArray) (a0_15 : Int) (a0_16 : Int) : Option (Bool) := (spec_l6In.f a0_0 1 9).bind fun t80002 => (if t80002 = true then ((spec_l12Place.f a0_1).bind fun t80003 => (if t80003 = true then ((spec_l12Place.f a0_2).bind fun t80004 => (if t80004 = true then ((spec_l6In.f a0_3 0 9999).bind fun t80005 => (if t80005 = true then ((spec_l6In.f a0_4 0 9999).bind fun t80006 => (if t80006 = true then ((spec_l6In.f a0_5 0 3).bind fun t80007 => (if t80007 = true then ((spec_l12Slots.f k l0_7).bind fun t80008 => (if t80008 = true then ((spec_l1Pairs.f k l0_8).bind fun t80009 => (if t80009 = true then ((spec_l6In.f a0_9 0 9).bind fun t80010 => (if t80010 = true then ((spec_l3Vals.f k l0_10).bind fun t80011 => (if t80011 = true then ((spec_l12Call.f a0_11 a0_12 a0_13 a0_14 a0_15 a0_16).bind fun t80012 => (some t80012)) else (some false))) else (some false))) else (some false))) else (some false))) else (some false))) else (some false))) else (some false))) else (some false))) else (some false))) else (some false))
theorem spec_WordOk.mono : ∀ a0 a1 a2 a3 a4 a5 a6 a7 a8 a9 a10 a11 a12 a13 a14 a15 a16 k, LeO (spec_WordOk.f k a0 a1 a2 a3 a4 a5 a6 a7 a8 a9 a10 a11 a12 a13 a14 a15 a16) (spec_WordOk.f (k + 1) a0 a1 a2 a3 a4 a5 a6 a7 a8 a9 a10 a11 a12 a13 a14 a15 a16) := by
 intro a0 a1 a2 a3 a4 a5 a6 a7 a8 a9 a10 a11 a12 a13 a14 a15 a16 k
 unfold spec_WordOk.f
 repeat' first
  | (with_reducible exact spec_l12Slots.mono _ _)
  | (with_reducible exact spec_l1Pairs.mono _ _)
  | (with_reducible exact spec_l3Vals.mono _ _)
  | (with_reducible exact LeO.refl _)
  | (with_reducible exact LeO.none _)
  | (with_reducible refine LeO.ite ?_ ?_)
  | (with_reducible refine LeO.bind ?_ (fun _ => ?_))
  | exact spec_l12Slots.mono _ _
  | exact spec_l1Pairs.mono _ _
  | exact spec_l3Vals.mono _ _
  | exact LeO.none _
  | refine LeO.ite ?_ ?_
  | refine LeO.bind ?_ (fun _ => ?_)
set_option maxHeartbeats 8000000 in
set_option maxRecDepth 100000 in
theorem spec_WordOk.calls (k : Nat) (a0_0 : Int) (a0_1 : Int) (a0_2 : Int) (a0_3 : Int) (a0_4 : Int) (a0_5 : Int) (a0_6 : Bool) (A0_7 : Option Addr) (c0_7 : Nat) (l0_7 : List Int) (A0_8 : Option Addr) (c0_8 : Nat) (l0_8 : List (S68)) (a0_9 : Int) (A0_10 : Option Addr) (c0_10 : Nat) (l0_10 : List Int) (a0_11 : Int) (a0_12 : Int) (a0_13 : Int) (a0_14 : ByteArray) (a0_15 : Int) (a0_16 : Int) (r : Bool) (w : World) (hr0_7 : Kd.C (Kd.int .i64) w A0_7 l0_7.length l0_7) (hc0_7 : l0_7.length ≤ c0_7) (hr0_8 : Kd.C k68 w A0_8 l0_8.length l0_8) (hc0_8 : l0_8.length ≤ c0_8) (hr0_10 : Kd.C (Kd.int .i64) w A0_10 l0_10.length l0_10) (hc0_10 : l0_10.length ≤ c0_10) (h : spec_WordOk.f k a0_0 a0_1 a0_2 a0_3 a0_4 a0_5 a0_6 l0_7 l0_8 a0_9 l0_10 a0_11 a0_12 a0_13 a0_14 a0_15 a0_16 = some r) :
 Calls Try.prog 7 #[.agg #[.int .i64 a0_0, .int .i64 a0_1, .int .i64 a0_2, .int .i64 a0_3, .int .i64 a0_4, .int .i64 a0_5, .bool a0_6, .slice A0_7 l0_7.length c0_7, .slice A0_8 l0_8.length c0_8, .int .i64 a0_9, .slice A0_10 l0_10.length c0_10, .int .i64 a0_11, .int .i64 a0_12, .int .i64 a0_13, .string a0_14, .int .i64 a0_15, .int .i64 a0_16]] w fun e w' => e = .returned (.bool r) ∧ Below w.heap.size w w' := by
 have hu33 := Try.underlying33
 have hu31 := Try.underlying31
 have HR0_7 := Aside0.mk hr0_7
 have HC0_7 := Aside0.mk hc0_7
 clear hr0_7 hc0_7
 have HR0_8 := Aside0.mk hr0_8
 have HC0_8 := Aside0.mk hc0_8
 clear hr0_8 hc0_8
 have HR0_10 := Aside0.mk hr0_10
 have HC0_10 := Aside0.mk hc0_10
 clear hr0_10 hc0_10
 have HB := Aside0.mk (Below.refl w.heap.size w)
 have H : ((spec_l6In.f a0_0 1 9).bind fun t80002 => (if t80002 = true then ((spec_l12Place.f a0_1).bind fun t80003 => (if t80003 = true then ((spec_l12Place.f a0_2).bind fun t80004 => (if t80004 = true then ((spec_l6In.f a0_3 0 9999).bind fun t80005 => (if t80005 = true then ((spec_l6In.f a0_4 0 9999).bind fun t80006 => (if t80006 = true then ((spec_l6In.f a0_5 0 3).bind fun t80007 => (if t80007 = true then ((spec_l12Slots.f k l0_7).bind fun t80008 => (if t80008 = true then ((spec_l1Pairs.f k l0_8).bind fun t80009 => (if t80009 = true then ((spec_l6In.f a0_9 0 9).bind fun t80010 => (if t80010 = true then ((spec_l3Vals.f k l0_10).bind fun t80011 => (if t80011 = true then ((spec_l12Call.f a0_11 a0_12 a0_13 a0_14 a0_15 a0_16).bind fun t80012 => (some t80012)) else (some false))) else (some false))) else (some false))) else (some false))) else (some false))) else (some false))) else (some false))) else (some false))) else (some false))) else (some false))) = some r := h
 clear h
 replace H := Option.bind_eq_some_iff.mp H
 obtain ⟨t80002, A20, H⟩ := H
 replace H : (if t80002 = true then ((spec_l12Place.f a0_1).bind fun t80003 => (if t80003 = true then ((spec_l12Place.f a0_2).bind fun t80004 => (if t80004 = true then ((spec_l6In.f a0_3 0 9999).bind fun t80005 => (if t80005 = true then ((spec_l6In.f a0_4 0 9999).bind fun t80006 => (if t80006 = true then ((spec_l6In.f a0_5 0 3).bind fun t80007 => (if t80007 = true then ((spec_l12Slots.f k l0_7).bind fun t80008 => (if t80008 = true then ((spec_l1Pairs.f k l0_8).bind fun t80009 => (if t80009 = true then ((spec_l6In.f a0_9 0 9).bind fun t80010 => (if t80010 = true then ((spec_l3Vals.f k l0_10).bind fun t80011 => (if t80011 = true then ((spec_l12Call.f a0_11 a0_12 a0_13 a0_14 a0_15 a0_16).bind fun t80012 => (some t80012)) else (some false))) else (some false))) else (some false))) else (some false))) else (some false))) else (some false))) else (some false))) else (some false))) else (some false))) else (some false)) = some r := H
 have A2 := Aside0.mk A20
 clear A20
 go_enter Try.func7, Try.ntmps7
 go_wp2_with (first | ((with_reducible refine gate_dst (N := 1) rfl ?_); refine box_event ?hg (N := 1) ?hd (cs := #[.int .i64 a0_0, .int .i64 a0_1, .int .i64 a0_2, .int .i64 a0_3, .int .i64 a0_4, .int .i64 a0_5, .bool a0_6, .slice A0_7 l0_7.length c0_7, .slice A0_8 l0_8.length c0_8, .int .i64 a0_9, .slice A0_10 l0_10.length c0_10, .int .i64 a0_11, .int .i64 a0_12, .int .i64 a0_13, .string a0_14, .int .i64 a0_15, .int .i64 a0_16]) (t := 33) ?hr ?_; (case hd => rfl); (case hg => rfl); (case hr => first | (go_simp; done) | (go_simp; rfl)); intro gb80001 hg w23 hbox hb; have n0_ := Aside0.mk (below_step (by repeat (first | (with_reducible first | exact HB.out | apply below_alloc | apply pw_below_drewN | apply below_drew1) | exact HB.out)) hb); have n1_ := Aside0.mk (hbox); have n2_ := Aside0.mk ((by rw [hg]; exact (below_size (by repeat (first | (with_reducible first | exact HB.out | apply below_alloc | apply pw_below_drewN | apply below_drew1) | exact HB.out))) : w.heap.size ≤ gb80001)); have n3_ := Aside0.mk ((by rw [hg]; exact (below_size (by repeat (first | (with_reducible first | exact HB.out | apply below_alloc | apply pw_below_drewN | apply below_drew1) | exact HB.out))) : w.heap.size ≤ gb80001)); clear HB; have HB := n0_; have BK80001 := n1_; have GW80001 := n2_; have GE80001 := n3_; clear n0_ n1_ n2_ n3_; clear hb hbox hg; have hcz24_0 : w23.cell? ⟨gb80001, 0, none⟩ = some (.int .i64 a0_0) := (blk_cell BK80001.out 0).trans rfl; have hcz24_1 : w23.cell? ⟨gb80001, 1, none⟩ = some (.int .i64 a0_1) := (blk_cell BK80001.out 1).trans rfl; have hcz24_2 : w23.cell? ⟨gb80001, 2, none⟩ = some (.int .i64 a0_2) := (blk_cell BK80001.out 2).trans rfl; have hcz24_3 : w23.cell? ⟨gb80001, 3, none⟩ = some (.int .i64 a0_3) := (blk_cell BK80001.out 3).trans rfl; have hcz24_4 : w23.cell? ⟨gb80001, 4, none⟩ = some (.int .i64 a0_4) := (blk_cell BK80001.out 4).trans rfl; have hcz24_5 : w23.cell? ⟨gb80001, 5, none⟩ = some (.int .i64 a0_5) := (blk_cell BK80001.out 5).trans rfl; have hcz24_6 : w23.cell? ⟨gb80001, 6, none⟩ = some (.bool a0_6) := (blk_cell BK80001.out 6).trans rfl; have hcz24_7 : w23.cell? ⟨gb80001, 7, none⟩ = some (.slice A0_7 l0_7.length c0_7) := (blk_cell BK80001.out 7).trans rfl; have hcz24_8 : w23.cell? ⟨gb80001, 8, none⟩ = some (.slice A0_8 l0_8.length c0_8) := (blk_cell BK80001.out 8).trans rfl; have hcz24_9 : w23.cell? ⟨gb80001, 9, none⟩ = some (.int .i64 a0_9) := (blk_cell BK80001.out 9).trans rfl; have hcz24_10 : w23.cell? ⟨gb80001, 10, none⟩ = some (.slice A0_10 l0_10.length c0_10) := (blk_cell BK80001.out 10).trans rfl; have hcz24_11 : w23.cell? ⟨gb80001, 11, none⟩ = some (.int .i64 a0_11) := (blk_cell BK80001.out 11).trans rfl; have hcz24_12 : w23.cell? ⟨gb80001, 12, none⟩ = some (.int .i64 a0_12) := (blk_cell BK80001.out 12).trans rfl; have hcz24_13 : w23.cell? ⟨gb80001, 13, none⟩ = some (.int .i64 a0_13) := (blk_cell BK80001.out 13).trans rfl; have hcz24_14 : w23.cell? ⟨gb80001, 14, none⟩ = some (.string a0_14) := (blk_cell BK80001.out 14).trans rfl; have hcz24_15 : w23.cell? ⟨gb80001, 15, none⟩ = some (.int .i64 a0_15) := (blk_cell BK80001.out 15).trans rfl; have hcz24_16 : w23.cell? ⟨gb80001, 16, none⟩ = some (.int .i64 a0_16) := (blk_cell BK80001.out 16).trans rfl; have hfz24_0 := blk_frozen BK80001.out 0; have hfz24_1 := blk_frozen BK80001.out 1; have hfz24_2 := blk_frozen BK80001.out 2; have hfz24_3 := blk_frozen BK80001.out 3; have hfz24_4 := blk_frozen BK80001.out 4; have hfz24_5 := blk_frozen BK80001.out 5; have hfz24_6 := blk_frozen BK80001.out 6; have hfz24_7 := blk_frozen BK80001.out 7; have hfz24_8 := blk_frozen BK80001.out 8; have hfz24_9 := blk_frozen BK80001.out 9; have hfz24_10 := blk_frozen BK80001.out 10; have hfz24_11 := blk_frozen BK80001.out 11; have hfz24_12 := blk_frozen BK80001.out 12; have hfz24_13 := blk_frozen BK80001.out 13; have hfz24_14 := blk_frozen BK80001.out 14; have hfz24_15 := blk_frozen BK80001.out 15; have hfz24_16 := blk_frozen BK80001.out 16))
 (with_reducible refine (spec_l6In.calls a0_0 1 9 t80002 _ A2.out).mono ?_)
 rintro e w' ⟨rfl, ⟨nd, rfl⟩⟩
 by_cases c3 : t80002 = true
 ·subst c3
  have H1 : ((spec_l12Place.f a0_1).bind fun t80003 => (if t80003 = true then ((spec_l12Place.f a0_2).bind fun t80004 => (if t80004 = true then ((spec_l6In.f a0_3 0 9999).bind fun t80005 => (if t80005 = true then ((spec_l6In.f a0_4 0 9999).bind fun t80006 => (if t80006 = true then ((spec_l6In.f a0_5 0 3).bind fun t80007 => (if t80007 = true then ((spec_l12Slots.f k l0_7).bind fun t80008 => (if t80008 = true then ((spec_l1Pairs.f k l0_8).bind fun t80009 => (if t80009 = true then ((spec_l6In.f a0_9 0 9).bind fun t80010 => (if t80010 = true then ((spec_l3Vals.f k l0_10).bind fun t80011 => (if t80011 = true then ((spec_l12Call.f a0_11 a0_12 a0_13 a0_14 a0_15 a0_16).bind fun t80012 => (some t80012)) else (some false))) else (some false))) else (some false))) else (some false))) else (some false))) else (some false))) else (some false))) else (some false))) else (some false))) = some r := by rw [if_pos rfl] at H; exact H
  clear H
  have H := H1
  clear H1
  replace H := Option.bind_eq_some_iff.mp H
  obtain ⟨t80003, A40, H⟩ := H
  replace H : (if t80003 = true then ((spec_l12Place.f a0_2).bind fun t80004 => (if t80004 = true then ((spec_l6In.f a0_3 0 9999).bind fun t80005 => (if t80005 = true then ((spec_l6In.f a0_4 0 9999).bind fun t80006 => (if t80006 = true then ((spec_l6In.f a0_5 0 3).bind fun t80007 => (if t80007 = true then ((spec_l12Slots.f k l0_7).bind fun t80008 => (if t80008 = true then ((spec_l1Pairs.f k l0_8).bind fun t80009 => (if t80009 = true then ((spec_l6In.f a0_9 0 9).bind fun t80010 => (if t80010 = true then ((spec_l3Vals.f k l0_10).bind fun t80011 => (if t80011 = true then ((spec_l12Call.f a0_11 a0_12 a0_13 a0_14 a0_15 a0_16).bind fun t80012 => (some t80012)) else (some false))) else (some false))) else (some false))) else (some false))) else (some false))) else (some false))) else (some false))) else (some false))) else (some false)) = some r := H
  have A4 := Aside0.mk A40
  clear A40
  go_wp2_with (fail)
  (with_reducible refine (spec_l12Place.calls a0_1 t80003 _ A4.out).mono ?_)
  rintro e w' ⟨rfl, ⟨nd, rfl⟩⟩
  by_cases c5 : t80003 = true
  ·subst c5
   have H1 : ((spec_l12Place.f a0_2).bind fun t80004 => (if t80004 = true then ((spec_l6In.f a0_3 0 9999).bind fun t80005 => (if t80005 = true then ((spec_l6In.f a0_4 0 9999).bind fun t80006 => (if t80006 = true then ((spec_l6In.f a0_5 0 3).bind fun t80007 => (if t80007 = true then ((spec_l12Slots.f k l0_7).bind fun t80008 => (if t80008 = true then ((spec_l1Pairs.f k l0_8).bind fun t80009 => (if t80009 = true then ((spec_l6In.f a0_9 0 9).bind fun t80010 => (if t80010 = true then ((spec_l3Vals.f k l0_10).bind fun t80011 => (if t80011 = true then ((spec_l12Call.f a0_11 a0_12 a0_13 a0_14 a0_15 a0_16).bind fun t80012 => (some t80012)) else (some false))) else (some false))) else (some false))) else (some false))) else (some false))) else (some false))) else (some false))) else (some false))) = some r := by rw [if_pos rfl] at H; exact H
   clear H
   have H := H1
   clear H1
   replace H := Option.bind_eq_some_iff.mp H
   obtain ⟨t80004, A60, H⟩ := H
   replace H : (if t80004 = true then ((spec_l6In.f a0_3 0 9999).bind fun t80005 => (if t80005 = true then ((spec_l6In.f a0_4 0 9999).bind fun t80006 => (if t80006 = true then ((spec_l6In.f a0_5 0 3).bind fun t80007 => (if t80007 = true then ((spec_l12Slots.f k l0_7).bind fun t80008 => (if t80008 = true then ((spec_l1Pairs.f k l0_8).bind fun t80009 => (if t80009 = true then ((spec_l6In.f a0_9 0 9).bind fun t80010 => (if t80010 = true then ((spec_l3Vals.f k l0_10).bind fun t80011 => (if t80011 = true then ((spec_l12Call.f a0_11 a0_12 a0_13 a0_14 a0_15 a0_16).bind fun t80012 => (some t80012)) else (some false))) else (some false))) else (some false))) else (some false))) else (some false))) else (some false))) else (some false))) else (some false)) = some r := H
   have A6 := Aside0.mk A60
   clear A60
   go_wp2_with (fail)
   (with_reducible refine (spec_l12Place.calls a0_2 t80004 _ A6.out).mono ?_)
   rintro e w' ⟨rfl, ⟨nd, rfl⟩⟩
   by_cases c7 : t80004 = true
   ·subst c7
    have H1 : ((spec_l6In.f a0_3 0 9999).bind fun t80005 => (if t80005 = true then ((spec_l6In.f a0_4 0 9999).bind fun t80006 => (if t80006 = true then ((spec_l6In.f a0_5 0 3).bind fun t80007 => (if t80007 = true then ((spec_l12Slots.f k l0_7).bind fun t80008 => (if t80008 = true then ((spec_l1Pairs.f k l0_8).bind fun t80009 => (if t80009 = true then ((spec_l6In.f a0_9 0 9).bind fun t80010 => (if t80010 = true then ((spec_l3Vals.f k l0_10).bind fun t80011 => (if t80011 = true then ((spec_l12Call.f a0_11 a0_12 a0_13 a0_14 a0_15 a0_16).bind fun t80012 => (some t80012)) else (some false))) else (some false))) else (some false))) else (some false))) else (some false))) else (some false))) else (some false))) = some r := by rw [if_pos rfl] at H; exact H
    clear H
    have H := H1
    clear H1
    replace H := Option.bind_eq_some_iff.mp H
    obtain ⟨t80005, A80, H⟩ := H
    replace H : (if t80005 = true then ((spec_l6In.f a0_4 0 9999).bind fun t80006 => (if t80006 = true then ((spec_l6In.f a0_5 0 3).bind fun t80007 => (if t80007 = true then ((spec_l12Slots.f k l0_7).bind fun t80008 => (if t80008 = true then ((spec_l1Pairs.f k l0_8).bind fun t80009 => (if t80009 = true then ((spec_l6In.f a0_9 0 9).bind fun t80010 => (if t80010 = true then ((spec_l3Vals.f k l0_10).bind fun t80011 => (if t80011 = true then ((spec_l12Call.f a0_11 a0_12 a0_13 a0_14 a0_15 a0_16).bind fun t80012 => (some t80012)) else (some false))) else (some false))) else (some false))) else (some false))) else (some false))) else (some false))) else (some false)) = some r := H
    have A8 := Aside0.mk A80
    clear A80
    go_wp2_with (fail)
    (with_reducible refine (spec_l6In.calls a0_3 0 9999 t80005 _ A8.out).mono ?_)
    rintro e w' ⟨rfl, ⟨nd, rfl⟩⟩
    by_cases c9 : t80005 = true
    ·subst c9
     have H1 : ((spec_l6In.f a0_4 0 9999).bind fun t80006 => (if t80006 = true then ((spec_l6In.f a0_5 0 3).bind fun t80007 => (if t80007 = true then ((spec_l12Slots.f k l0_7).bind fun t80008 => (if t80008 = true then ((spec_l1Pairs.f k l0_8).bind fun t80009 => (if t80009 = true then ((spec_l6In.f a0_9 0 9).bind fun t80010 => (if t80010 = true then ((spec_l3Vals.f k l0_10).bind fun t80011 => (if t80011 = true then ((spec_l12Call.f a0_11 a0_12 a0_13 a0_14 a0_15 a0_16).bind fun t80012 => (some t80012)) else (some false))) else (some false))) else (some false))) else (some false))) else (some false))) else (some false))) = some r := by rw [if_pos rfl] at H; exact H
     clear H
     have H := H1
     clear H1
     replace H := Option.bind_eq_some_iff.mp H
     obtain ⟨t80006, A100, H⟩ := H
     replace H : (if t80006 = true then ((spec_l6In.f a0_5 0 3).bind fun t80007 => (if t80007 = true then ((spec_l12Slots.f k l0_7).bind fun t80008 => (if t80008 = true then ((spec_l1Pairs.f k l0_8).bind fun t80009 => (if t80009 = true then ((spec_l6In.f a0_9 0 9).bind fun t80010 => (if t80010 = true then ((spec_l3Vals.f k l0_10).bind fun t80011 => (if t80011 = true then ((spec_l12Call.f a0_11 a0_12 a0_13 a0_14 a0_15 a0_16).bind fun t80012 => (some t80012)) else (some false))) else (some false))) else (some false))) else (some false))) else (some false))) else (some false)) = some r := H
     have A10 := Aside0.mk A100
     clear A100
     go_wp2_with (fail)
     (with_reducible refine (spec_l6In.calls a0_4 0 9999 t80006 _ A10.out).mono ?_)
     rintro e w' ⟨rfl, ⟨nd, rfl⟩⟩
     by_cases c11 : t80006 = true
     ·subst c11
      have H1 : ((spec_l6In.f a0_5 0 3).bind fun t80007 => (if t80007 = true then ((spec_l12Slots.f k l0_7).bind fun t80008 => (if t80008 = true then ((spec_l1Pairs.f k l0_8).bind fun t80009 => (if t80009 = true then ((spec_l6In.f a0_9 0 9).bind fun t80010 => (if t80010 = true then ((spec_l3Vals.f k l0_10).bind fun t80011 => (if t80011 = true then ((spec_l12Call.f a0_11 a0_12 a0_13 a0_14 a0_15 a0_16).bind fun t80012 => (some t80012)) else (some false))) else (some false))) else (some false))) else (some false))) else (some false))) = some r := by rw [if_pos rfl] at H; exact H
      clear H
      have H := H1
      clear H1
      replace H := Option.bind_eq_some_iff.mp H
      obtain ⟨t80007, A120, H⟩ := H
      replace H : (if t80007 = true then ((spec_l12Slots.f k l0_7).bind fun t80008 => (if t80008 = true then ((spec_l1Pairs.f k l0_8).bind fun t80009 => (if t80009 = true then ((spec_l6In.f a0_9 0 9).bind fun t80010 => (if t80010 = true then ((spec_l3Vals.f k l0_10).bind fun t80011 => (if t80011 = true then ((spec_l12Call.f a0_11 a0_12 a0_13 a0_14 a0_15 a0_16).bind fun t80012 => (some t80012)) else (some false))) else (some false))) else (some false))) else (some false))) else (some false)) = some r := H
      have A12 := Aside0.mk A120
      clear A120
      go_wp2_with (fail)
      (with_reducible refine (spec_l6In.calls a0_5 0 3 t80007 _ A12.out).mono ?_)
      rintro e w' ⟨rfl, ⟨nd, rfl⟩⟩
      by_cases c13 : t80007 = true
      ·subst c13
       have H1 : ((spec_l12Slots.f k l0_7).bind fun t80008 => (if t80008 = true then ((spec_l1Pairs.f k l0_8).bind fun t80009 => (if t80009 = true then ((spec_l6In.f a0_9 0 9).bind fun t80010 => (if t80010 = true then ((spec_l3Vals.f k l0_10).bind fun t80011 => (if t80011 = true then ((spec_l12Call.f a0_11 a0_12 a0_13 a0_14 a0_15 a0_16).bind fun t80012 => (some t80012)) else (some false))) else (some false))) else (some false))) else (some false))) = some r := by rw [if_pos rfl] at H; exact H
       clear H
       have H := H1
       clear H1
       replace H := Option.bind_eq_some_iff.mp H
       obtain ⟨t80008, A140, H⟩ := H
       replace H : (if t80008 = true then ((spec_l1Pairs.f k l0_8).bind fun t80009 => (if t80009 = true then ((spec_l6In.f a0_9 0 9).bind fun t80010 => (if t80010 = true then ((spec_l3Vals.f k l0_10).bind fun t80011 => (if t80011 = true then ((spec_l12Call.f a0_11 a0_12 a0_13 a0_14 a0_15 a0_16).bind fun t80012 => (some t80012)) else (some false))) else (some false))) else (some false))) else (some false)) = some r := H
       have A14 := Aside0.mk A140
       clear A140
       go_wp2_with (fail)
       (with_reducible refine (spec_l12Slots.calls k _ _ l0_7 t80008 _ ?side1 ?side2 A14.out).mono ?_)
       (case side1 => repeat (first | exact (Kd.C_below HR0_7.out (by repeat (first | (with_reducible first | exact HB.out | apply below_alloc | apply pw_below_drewN | apply below_drew1 | refine below_set ?_ GE80001.out) | exact HB.out))) | (with_reducible refine Kd.C_alloc ?_ _) | (with_reducible refine Kd.C_drewN ?_ _) | (with_reducible refine Kd.C_drew ?_)))
       (case side2 => exact HC0_7.out)
       rintro e w' ⟨rfl, ⟨nd, rfl⟩⟩
       by_cases c15 : t80008 = true
       ·subst c15
        have H1 : ((spec_l1Pairs.f k l0_8).bind fun t80009 => (if t80009 = true then ((spec_l6In.f a0_9 0 9).bind fun t80010 => (if t80010 = true then ((spec_l3Vals.f k l0_10).bind fun t80011 => (if t80011 = true then ((spec_l12Call.f a0_11 a0_12 a0_13 a0_14 a0_15 a0_16).bind fun t80012 => (some t80012)) else (some false))) else (some false))) else (some false))) = some r := by rw [if_pos rfl] at H; exact H
        clear H
        have H := H1
        clear H1
        replace H := Option.bind_eq_some_iff.mp H
        obtain ⟨t80009, A160, H⟩ := H
        replace H : (if t80009 = true then ((spec_l6In.f a0_9 0 9).bind fun t80010 => (if t80010 = true then ((spec_l3Vals.f k l0_10).bind fun t80011 => (if t80011 = true then ((spec_l12Call.f a0_11 a0_12 a0_13 a0_14 a0_15 a0_16).bind fun t80012 => (some t80012)) else (some false))) else (some false))) else (some false)) = some r := H
        have A16 := Aside0.mk A160
        clear A160
        go_wp2_with (fail)
        (with_reducible refine (spec_l1Pairs.calls k _ _ l0_8 t80009 _ ?side1 ?side2 A16.out).mono ?_)
        (case side1 => repeat (first | exact (Kd.C_below HR0_8.out (by repeat (first | (with_reducible first | exact HB.out | apply below_alloc | apply pw_below_drewN | apply below_drew1 | refine below_set ?_ GE80001.out) | exact HB.out))) | (with_reducible refine Kd.C_alloc ?_ _) | (with_reducible refine Kd.C_drewN ?_ _) | (with_reducible refine Kd.C_drew ?_)))
        (case side2 => exact HC0_8.out)
        rintro e w25 ⟨rfl, hb⟩
        have n0_ := Aside0.mk (blk_below (g := gb80001) (o := .cells #[.int .i64 a0_0, .int .i64 a0_1, .int .i64 a0_2, .int .i64 a0_3, .int .i64 a0_4, .int .i64 a0_5, .bool a0_6, .slice A0_7 l0_7.length c0_7, .slice A0_8 l0_8.length c0_8, .int .i64 a0_9, .slice A0_10 l0_10.length c0_10, .int .i64 a0_11, .int .i64 a0_12, .int .i64 a0_13, .string a0_14, .int .i64 a0_15, .int .i64 a0_16] 33 (0, 0)) (by (with_reducible repeat (first | refine blk_drewN ?_ _ | refine blk_drew ?_ | refine blk_alloc ?_ _)); exact BK80001.out) hb)
        have n1_ := Aside0.mk (below_step (by repeat (first | (with_reducible first | exact HB.out | apply below_alloc | apply pw_below_drewN | apply below_drew1 | refine below_set ?_ GE80001.out) | exact HB.out)) hb)
        clear BK80001
        clear HB
        have BK80001 := n0_
        have HB := n1_
        clear n0_ n1_
        (try clear hb)
        (try clear hb2)
        (try clear hk)
        (try clear hi)
        have hcz26_0 : w25.cell? ⟨gb80001, 0, none⟩ = some (.int .i64 a0_0) := (blk_cell BK80001.out 0).trans rfl
        have hcz26_1 : w25.cell? ⟨gb80001, 1, none⟩ = some (.int .i64 a0_1) := (blk_cell BK80001.out 1).trans rfl
        have hcz26_2 : w25.cell? ⟨gb80001, 2, none⟩ = some (.int .i64 a0_2) := (blk_cell BK80001.out 2).trans rfl
        have hcz26_3 : w25.cell? ⟨gb80001, 3, none⟩ = some (.int .i64 a0_3) := (blk_cell BK80001.out 3).trans rfl
        have hcz26_4 : w25.cell? ⟨gb80001, 4, none⟩ = some (.int .i64 a0_4) := (blk_cell BK80001.out 4).trans rfl
        have hcz26_5 : w25.cell? ⟨gb80001, 5, none⟩ = some (.int .i64 a0_5) := (blk_cell BK80001.out 5).trans rfl
        have hcz26_6 : w25.cell? ⟨gb80001, 6, none⟩ = some (.bool a0_6) := (blk_cell BK80001.out 6).trans rfl
        have hcz26_7 : w25.cell? ⟨gb80001, 7, none⟩ = some (.slice A0_7 l0_7.length c0_7) := (blk_cell BK80001.out 7).trans rfl
        have hcz26_8 : w25.cell? ⟨gb80001, 8, none⟩ = some (.slice A0_8 l0_8.length c0_8) := (blk_cell BK80001.out 8).trans rfl
        have hcz26_9 : w25.cell? ⟨gb80001, 9, none⟩ = some (.int .i64 a0_9) := (blk_cell BK80001.out 9).trans rfl
        have hcz26_10 : w25.cell? ⟨gb80001, 10, none⟩ = some (.slice A0_10 l0_10.length c0_10) := (blk_cell BK80001.out 10).trans rfl
        have hcz26_11 : w25.cell? ⟨gb80001, 11, none⟩ = some (.int .i64 a0_11) := (blk_cell BK80001.out 11).trans rfl
        have hcz26_12 : w25.cell? ⟨gb80001, 12, none⟩ = some (.int .i64 a0_12) := (blk_cell BK80001.out 12).trans rfl
        have hcz26_13 : w25.cell? ⟨gb80001, 13, none⟩ = some (.int .i64 a0_13) := (blk_cell BK80001.out 13).trans rfl
        have hcz26_14 : w25.cell? ⟨gb80001, 14, none⟩ = some (.string a0_14) := (blk_cell BK80001.out 14).trans rfl
        have hcz26_15 : w25.cell? ⟨gb80001, 15, none⟩ = some (.int .i64 a0_15) := (blk_cell BK80001.out 15).trans rfl
        have hcz26_16 : w25.cell? ⟨gb80001, 16, none⟩ = some (.int .i64 a0_16) := (blk_cell BK80001.out 16).trans rfl
        have hfz26_0 := blk_frozen BK80001.out 0
        have hfz26_1 := blk_frozen BK80001.out 1
        have hfz26_2 := blk_frozen BK80001.out 2
        have hfz26_3 := blk_frozen BK80001.out 3
        have hfz26_4 := blk_frozen BK80001.out 4
        have hfz26_5 := blk_frozen BK80001.out 5
        have hfz26_6 := blk_frozen BK80001.out 6
        have hfz26_7 := blk_frozen BK80001.out 7
        have hfz26_8 := blk_frozen BK80001.out 8
        have hfz26_9 := blk_frozen BK80001.out 9
        have hfz26_10 := blk_frozen BK80001.out 10
        have hfz26_11 := blk_frozen BK80001.out 11
        have hfz26_12 := blk_frozen BK80001.out 12
        have hfz26_13 := blk_frozen BK80001.out 13
        have hfz26_14 := blk_frozen BK80001.out 14
        have hfz26_15 := blk_frozen BK80001.out 15
        have hfz26_16 := blk_frozen BK80001.out 16
        by_cases c17 : t80009 = true
        ·subst c17
         have H1 : ((spec_l6In.f a0_9 0 9).bind fun t80010 => (if t80010 = true then ((spec_l3Vals.f k l0_10).bind fun t80011 => (if t80011 = true then ((spec_l12Call.f a0_11 a0_12 a0_13 a0_14 a0_15 a0_16).bind fun t80012 => (some t80012)) else (some false))) else (some false))) = some r := by rw [if_pos rfl] at H; exact H
         clear H
         have H := H1
         clear H1
         replace H := Option.bind_eq_some_iff.mp H
         obtain ⟨t80010, A180, H⟩ := H
         replace H : (if t80010 = true then ((spec_l3Vals.f k l0_10).bind fun t80011 => (if t80011 = true then ((spec_l12Call.f a0_11 a0_12 a0_13 a0_14 a0_15 a0_16).bind fun t80012 => (some t80012)) else (some false))) else (some false)) = some r := H
         have A18 := Aside0.mk A180
         clear A180
         go_wp2_with (fail)
         (with_reducible refine (spec_l6In.calls a0_9 0 9 t80010 _ A18.out).mono ?_)
         rintro e w' ⟨rfl, ⟨nd, rfl⟩⟩
         by_cases c19 : t80010 = true
         ·subst c19
          have H1 : ((spec_l3Vals.f k l0_10).bind fun t80011 => (if t80011 = true then ((spec_l12Call.f a0_11 a0_12 a0_13 a0_14 a0_15 a0_16).bind fun t80012 => (some t80012)) else (some false))) = some r := by rw [if_pos rfl] at H; exact H
          clear H
          have H := H1
          clear H1
          replace H := Option.bind_eq_some_iff.mp H
          obtain ⟨t80011, A200, H⟩ := H
          replace H : (if t80011 = true then ((spec_l12Call.f a0_11 a0_12 a0_13 a0_14 a0_15 a0_16).bind fun t80012 => (some t80012)) else (some false)) = some r := H
          have A20 := Aside0.mk A200
          clear A200
          go_wp2_with (fail)
          (with_reducible refine (spec_l3Vals.calls k _ _ l0_10 t80011 _ ?side1 ?side2 A20.out).mono ?_)
          (case side1 => repeat (first | exact (Kd.C_below HR0_10.out (by repeat (first | (with_reducible first | exact HB.out | apply below_alloc | apply pw_below_drewN | apply below_drew1 | refine below_set ?_ GE80001.out) | exact HB.out))) | (with_reducible refine Kd.C_alloc ?_ _) | (with_reducible refine Kd.C_drewN ?_ _) | (with_reducible refine Kd.C_drew ?_)))
          (case side2 => exact HC0_10.out)
          rintro e w' ⟨rfl, ⟨nd, rfl⟩⟩
          by_cases c21 : t80011 = true
          ·subst c21
           have H1 : ((spec_l12Call.f a0_11 a0_12 a0_13 a0_14 a0_15 a0_16).bind fun t80012 => (some t80012)) = some r := by rw [if_pos rfl] at H; exact H
           clear H
           have H := H1
           clear H1
           replace H := Option.bind_eq_some_iff.mp H
           obtain ⟨t80012, A220, H⟩ := H
           replace H : (some t80012) = some r := H
           have A22 := Aside0.mk A220
           clear A220
           obtain rfl := Option.some.inj H
           go_wp2_with (fail)
           (with_reducible refine (spec_l12Call.calls a0_11 a0_12 a0_13 a0_14 a0_15 a0_16 t80012 _ A22.out).mono ?_)
           rintro e w27 ⟨rfl, hb⟩
           have n0_ := Aside0.mk (blk_below (g := gb80001) (o := .cells #[.int .i64 a0_0, .int .i64 a0_1, .int .i64 a0_2, .int .i64 a0_3, .int .i64 a0_4, .int .i64 a0_5, .bool a0_6, .slice A0_7 l0_7.length c0_7, .slice A0_8 l0_8.length c0_8, .int .i64 a0_9, .slice A0_10 l0_10.length c0_10, .int .i64 a0_11, .int .i64 a0_12, .int .i64 a0_13, .string a0_14, .int .i64 a0_15, .int .i64 a0_16] 33 (0, 0)) (by (with_reducible repeat (first | refine blk_drewN ?_ _ | refine blk_drew ?_ | refine blk_alloc ?_ _)); exact BK80001.out) hb)
           have n1_ := Aside0.mk (below_step (by repeat (first | (with_reducible first | exact HB.out | apply below_alloc | apply pw_below_drewN | apply below_drew1 | refine below_set ?_ GE80001.out) | exact HB.out)) hb)
           clear BK80001
           clear HB
           have BK80001 := n0_
           have HB := n1_
           clear n0_ n1_
           (try clear hb)
           (try clear hb2)
           (try clear hk)
           (try clear hi)
           go_wp2_with (fail)
           go_ret
           exact ⟨by first | rfl | (simp [errW_none, errW_some] <;> rfl) | (simp [*, errW_none, errW_some] <;> rfl), by repeat (first | (with_reducible first | exact HB.out | apply below_alloc | apply pw_below_drewN | apply below_drew1 | refine below_set ?_ GE80001.out) | exact HB.out)⟩
          ·replace c21 := Bool.eq_false_iff.mpr c21
           subst c21
           have H1 : (some false) = some r := by rw [if_neg (show ¬ (false = true) by decide)] at H; exact H
           clear H
           have H := H1
           clear H1
           obtain rfl := Option.some.inj H
           go_wp2_with (fail)
           go_ret
           exact ⟨by first | rfl | (simp [errW_none, errW_some] <;> rfl) | (simp [*, errW_none, errW_some] <;> rfl), by repeat (first | (with_reducible first | exact HB.out | apply below_alloc | apply pw_below_drewN | apply below_drew1 | refine below_set ?_ GE80001.out) | exact HB.out)⟩
         ·replace c19 := Bool.eq_false_iff.mpr c19
          subst c19
          have H1 : (some false) = some r := by rw [if_neg (show ¬ (false = true) by decide)] at H; exact H
          clear H
          have H := H1
          clear H1
          obtain rfl := Option.some.inj H
          go_wp2_with (fail)
          go_ret
          exact ⟨by first | rfl | (simp [errW_none, errW_some] <;> rfl) | (simp [*, errW_none, errW_some] <;> rfl), by repeat (first | (with_reducible first | exact HB.out | apply below_alloc | apply pw_below_drewN | apply below_drew1 | refine below_set ?_ GE80001.out) | exact HB.out)⟩
        ·replace c17 := Bool.eq_false_iff.mpr c17
         subst c17
         have H1 : (some false) = some r := by rw [if_neg (show ¬ (false = true) by decide)] at H; exact H
         clear H
         have H := H1
         clear H1
         obtain rfl := Option.some.inj H
         go_wp2_with (fail)
         go_ret
         exact ⟨by first | rfl | (simp [errW_none, errW_some] <;> rfl) | (simp [*, errW_none, errW_some] <;> rfl), by repeat (first | (with_reducible first | exact HB.out | apply below_alloc | apply pw_below_drewN | apply below_drew1 | refine below_set ?_ GE80001.out) | exact HB.out)⟩
       ·replace c15 := Bool.eq_false_iff.mpr c15
        subst c15
        have H1 : (some false) = some r := by rw [if_neg (show ¬ (false = true) by decide)] at H; exact H
        clear H
        have H := H1
        clear H1
        obtain rfl := Option.some.inj H
        go_wp2_with (fail)
        go_ret
        exact ⟨by first | rfl | (simp [errW_none, errW_some] <;> rfl) | (simp [*, errW_none, errW_some] <;> rfl), by repeat (first | (with_reducible first | exact HB.out | apply below_alloc | apply pw_below_drewN | apply below_drew1 | refine below_set ?_ GE80001.out) | exact HB.out)⟩
      ·replace c13 := Bool.eq_false_iff.mpr c13
       subst c13
       have H1 : (some false) = some r := by rw [if_neg (show ¬ (false = true) by decide)] at H; exact H
       clear H
       have H := H1
       clear H1
       obtain rfl := Option.some.inj H
       go_wp2_with (fail)
       go_ret
       exact ⟨by first | rfl | (simp [errW_none, errW_some] <;> rfl) | (simp [*, errW_none, errW_some] <;> rfl), by repeat (first | (with_reducible first | exact HB.out | apply below_alloc | apply pw_below_drewN | apply below_drew1 | refine below_set ?_ GE80001.out) | exact HB.out)⟩
     ·replace c11 := Bool.eq_false_iff.mpr c11
      subst c11
      have H1 : (some false) = some r := by rw [if_neg (show ¬ (false = true) by decide)] at H; exact H
      clear H
      have H := H1
      clear H1
      obtain rfl := Option.some.inj H
      go_wp2_with (fail)
      go_ret
      exact ⟨by first | rfl | (simp [errW_none, errW_some] <;> rfl) | (simp [*, errW_none, errW_some] <;> rfl), by repeat (first | (with_reducible first | exact HB.out | apply below_alloc | apply pw_below_drewN | apply below_drew1 | refine below_set ?_ GE80001.out) | exact HB.out)⟩
    ·replace c9 := Bool.eq_false_iff.mpr c9
     subst c9
     have H1 : (some false) = some r := by rw [if_neg (show ¬ (false = true) by decide)] at H; exact H
     clear H
     have H := H1
     clear H1
     obtain rfl := Option.some.inj H
     go_wp2_with (fail)
     go_ret
     exact ⟨by first | rfl | (simp [errW_none, errW_some] <;> rfl) | (simp [*, errW_none, errW_some] <;> rfl), by repeat (first | (with_reducible first | exact HB.out | apply below_alloc | apply pw_below_drewN | apply below_drew1 | refine below_set ?_ GE80001.out) | exact HB.out)⟩
   ·replace c7 := Bool.eq_false_iff.mpr c7
    subst c7
    have H1 : (some false) = some r := by rw [if_neg (show ¬ (false = true) by decide)] at H; exact H
    clear H
    have H := H1
    clear H1
    obtain rfl := Option.some.inj H
    go_wp2_with (fail)
    go_ret
    exact ⟨by first | rfl | (simp [errW_none, errW_some] <;> rfl) | (simp [*, errW_none, errW_some] <;> rfl), by repeat (first | (with_reducible first | exact HB.out | apply below_alloc | apply pw_below_drewN | apply below_drew1 | refine below_set ?_ GE80001.out) | exact HB.out)⟩
  ·replace c5 := Bool.eq_false_iff.mpr c5
   subst c5
   have H1 : (some false) = some r := by rw [if_neg (show ¬ (false = true) by decide)] at H; exact H
   clear H
   have H := H1
   clear H1
   obtain rfl := Option.some.inj H
   go_wp2_with (fail)
   go_ret
   exact ⟨by first | rfl | (simp [errW_none, errW_some] <;> rfl) | (simp [*, errW_none, errW_some] <;> rfl), by repeat (first | (with_reducible first | exact HB.out | apply below_alloc | apply pw_below_drewN | apply below_drew1 | refine below_set ?_ GE80001.out) | exact HB.out)⟩
 ·replace c3 := Bool.eq_false_iff.mpr c3
  subst c3
  have H1 : (some false) = some r := by rw [if_neg (show ¬ (false = true) by decide)] at H; exact H
  clear H
  have H := H1
  clear H1
  obtain rfl := Option.some.inj H
  go_wp2_with (fail)
  go_ret
  exact ⟨by first | rfl | (simp [errW_none, errW_some] <;> rfl) | (simp [*, errW_none, errW_some] <;> rfl), by repeat (first | (with_reducible first | exact HB.out | apply below_alloc | apply pw_below_drewN | apply below_drew1 | refine below_set ?_ GE80001.out) | exact HB.out)⟩
def laws_toIntS.l0 : Nat → List Int → List Int → Int → Option (List Int)
 | 0, _, _, _ => none
 | k + 1, x0, x3, x4 => if x4 < (x0.length : Int) then (if 0 ≤ x4 then (if x4 < (x3.length : Int) then (laws_toIntS.l0 k x0 (x3.set (x4 : Int).toNat (rd x0 x4)) (wrap64 (x4 + 1))) else (none)) else (none)) else (some x3)
def laws_toIntS.f (k : Nat) (l0 : List Int) : Option (List Int) := if 0 ≤ (l0.length : Int) then (if ((l0.length : Int) : Int).toNat ≤ 35184372088832 then (laws_toIntS.l0 k l0 (List.replicate ((l0.length : Int) : Int).toNat 0) 0) else (none)) else (none)
theorem laws_toIntS.mono_l : ∀ k, (∀ y0 y1 y2, LeO (laws_toIntS.l0 k y0 y1 y2) (laws_toIntS.l0 (k + 1) y0 y1 y2))
 | 0 => fun _ _ _ r h => by simp [laws_toIntS.l0] at h
 | k + 1 => by
  have ih0 := laws_toIntS.mono_l k
  ·intro y0 y1 y2
   unfold laws_toIntS.l0
   repeat' first
   | (with_reducible exact ih0 _ _ _)
   | (with_reducible exact LeO.refl _)
   | (with_reducible exact LeO.none _)
   | (with_reducible refine LeO.ite ?_ ?_)
   | (with_reducible refine LeO.bind ?_ (fun _ => ?_))
   | exact ih0 _ _ _
   | exact LeO.none _
   | refine LeO.ite ?_ ?_
   | refine LeO.bind ?_ (fun _ => ?_)
theorem laws_toIntS.mono : ∀ a0 k, LeO (laws_toIntS.f k a0) (laws_toIntS.f (k + 1) a0) := by
 intro a0 k
 have ih0 := laws_toIntS.mono_l k
 unfold laws_toIntS.f
 repeat' first
  | (with_reducible exact ih0 _ _ _)
  | (with_reducible exact LeO.refl _)
  | (with_reducible exact LeO.none _)
  | (with_reducible refine LeO.ite ?_ ?_)
  | (with_reducible refine LeO.bind ?_ (fun _ => ?_))
  | exact ih0 _ _ _
  | exact LeO.none _
  | refine LeO.ite ?_ ?_
  | refine LeO.bind ?_ (fun _ => ?_)
set_option maxHeartbeats 8000000 in
set_option maxRecDepth 100000 in
theorem laws_toIntS.calls (k : Nat) (A0 : Option Addr) (c0 : Nat) (l0 : List Int) (r : List Int) (w : World) (hr0 : Kd.C (Kd.int .i64) w A0 l0.length l0) (hc0 : l0.length ≤ c0) (h : laws_toIntS.f k l0 = some r) :
 Calls Try.prog 27 #[.slice A0 l0.length c0] w fun e w' => ∃ v0_ : Value, e = .returned (v0_) ∧ Kd.R (Kd.int .i64) 3 w' w.heap.size (fun _ => True) v0_ r ∧ Below w.heap.size w w' := by
 have HR0 := Aside0.mk hr0
 have HC0 := Aside0.mk hc0
 clear hr0 hc0
 have HB := Aside0.mk (Below.refl w.heap.size w)
 have H : (if 0 ≤ (l0.length : Int) then (if ((l0.length : Int) : Int).toNat ≤ 35184372088832 then (laws_toIntS.l0 k l0 (List.replicate ((l0.length : Int) : Int).toNat 0) 0) else (none)) else (none)) = some r := h
 clear h
 by_cases c2 : 0 ≤ (l0.length : Int)
 ·rw [if_pos c2] at H
  have c2b0 := eq_true c2
  have c2b1 : decide (0 ≤ (l0.length : Int)) = true := decide_eq_true c2
  clear c2
  by_cases c3 : ((l0.length : Int) : Int).toNat ≤ 35184372088832
  ·rw [if_pos c3] at H
   have c3b0 := eq_true c3
   have c3b1 : decide (((l0.length : Int) : Int).toNat ≤ 35184372088832) = true := decide_eq_true c3
   clear c3
   obtain ⟨y280001, hy280001⟩ : ∃ y_ : List Int, y_ = (List.replicate ((l0.length : Int) : Int).toNat 0) := ⟨_, rfl⟩
   replace H : (laws_toIntS.l0 k l0 y280001 0) = some r := by first | (rw [hy280001]; with_reducible exact H) | (have H2_ := (Option.bind_some _ _).symm.trans H; rw [hy280001]; with_reducible exact H2_) | (have H2_ := (Option.bind_some _ _).symm.trans H; with_reducible exact H2_) | with_reducible exact H | (rw [hy280001]; exact H) | exact H
   have Ny280001 := Aside0.mk hy280001
   clear hy280001
   have H' := Aside0.mk H
   clear H
   go_enter Try.func27, Try.ntmps27
   go_wp2_with (first | ((with_reducible refine gate_dst (N := 7) rfl ?_); refine Kd.R_make (Kd.int .i64) _ 3 rfl (N := 7) rfl 22 _ _ rfl (l0.length : Int) rfl rfl Try.underlying22 (.int .i64 0) 8 info3 rfl (by decide) (by omega) 0 (ok := fun _ => True) (okp := fun _ => True) rfl (fun _ hk => hk) trivial (of_decide_eq_true (by first | (with_reducible assumption) | assumption)) (Nat.le_trans (Nat.mul_le_mul_right _ (of_decide_eq_true (by first | (with_reducible assumption) | assumption) : (l0.length : Int).toNat ≤ 35184372088832)) (by omega)) (Below.refl _ _) (Nat.le_refl _) ?_; intro v280002 w4 ho5 hb hg_ hnew_; clear hg_ hnew_; (first | rw [← Ny280001.out] at ho5 | (simp only [Int.reduceToNat] at ho5; rw [← Ny280001.out] at ho5)); have n0_ := Aside0.mk (Kd.R_lower ho5 (below_size (by repeat (first | (with_reducible first | exact HB.out | apply below_alloc | apply pw_below_drewN | apply below_drew1) | exact HB.out)))); have n1_ := Aside0.mk (below_step (by repeat (first | (with_reducible first | exact HB.out | apply below_alloc | apply pw_below_drewN | apply below_drew1) | exact HB.out)) hb); clear HB; have HO280003 := n0_; have HB := n1_; clear n0_ n1_; clear hb ho5))
   go_loopg [4] k (fun kq v4 w' => ∃ (x3_1 : List Int) (x4_1 : Int), v4 = .int .i64 x4_1 ∧ Aside0 (laws_toIntS.l0 kq l0 x3_1 x4_1 = some r) ∧ Aside0 (kq ≤ k) ∧ Aside0 (Kd.R (Kd.int .i64) 3 w' w.heap.size (fun _ => True) v280002 x3_1) ∧ Aside0 (Below w.heap.size w w'))
   case atStart => exact ⟨(y280001), (0), (by first | rfl | (simp; done) | (simp [*]; done)), H', ⟨Nat.le_refl _⟩, ⟨by (with_reducible repeat (first | apply Kd.R_alloc | apply Kd.R_drewN | apply Kd.R_drew)); exact HO280003.out⟩, ⟨by repeat (first | (with_reducible first | exact HB.out | apply below_alloc | apply pw_below_drewN | apply below_drew1) | exact HB.out)⟩⟩
   case round =>
    clear H'
    try clear c2
    try clear c2b0
    try clear c2b1
    try clear p2
    try clear c3
    try clear c3b0
    try clear c3b1
    obtain ⟨x3_1, x4_1, rfl, HA, HK1, HO_3, HB⟩ := hrel
    cases gk with
    | zero => exact absurd HA.out (by simp [laws_toIntS.l0])
    | succ k1 =>
     have H := HA.out
     clear HA
     simp only [laws_toIntS.l0] at H
     by_cases c6 : x4_1 < (l0.length : Int)
     ·rw [if_pos c6] at H
      have c6b0 : decide (x4_1 < (l0.length : Int)) = true := decide_eq_true c6
      clear c6
      by_cases c7 : 0 ≤ x4_1
      ·rw [if_pos c7] at H
       have c7b0 : decide (0 ≤ x4_1) = true := decide_eq_true c7
       clear c7
       by_cases c8 : x4_1 < (x3_1.length : Int)
       ·rw [if_pos c8] at H
        have c8b0 : decide (x4_1 < (x3_1.length : Int)) = true := decide_eq_true c8
        clear c8
        obtain ⟨y280005, hy280005⟩ : ∃ y_ : List Int, y_ = (x3_1.set (x4_1 : Int).toNat (rd l0 x4_1)) := ⟨_, rfl⟩
        replace H : (laws_toIntS.l0 k1 l0 y280005 (wrap64 (x4_1 + 1))) = some r := by first | (rw [hy280005]; with_reducible exact H) | (have H2_ := (Option.bind_some _ _).symm.trans H; rw [hy280005]; with_reducible exact H2_) | (have H2_ := (Option.bind_some _ _).symm.trans H; with_reducible exact H2_) | with_reducible exact H | (rw [hy280005]; exact H) | exact H
        have Ny280005 := Aside0.mk hy280005
        clear hy280005
        have H' := Aside0.mk H
        clear H
        have p280004 : 0 ≤ (x4_1 : Int) := of_decide_eq_true (by first | (with_reducible assumption) | assumption)
        have q280004 : x4_1 < (l0.length : Int) := of_decide_eq_true (by first | (with_reducible assumption) | assumption)
        obtain ⟨ad280004, e280004, hx280004_0⟩ := Kd.at_int HR0.out x4_1 p280004 q280004
        cases e280004
        replace hx280004_0 := (HB.out.cell (World.block_lt_of_cell? w _ hx280004_0)).trans hx280004_0
        replace p280004 := eq_true p280004
        replace q280004 := eq_true q280004
        have p9 : 0 ≤ (x4_1 : Int) := of_decide_eq_true (by first | (with_reducible assumption) | assumption)
        have q9 : (x4_1 : Int) < ((x3_1.length : Int) : Int) := of_decide_eq_true (by first | (with_reducible assumption) | assumption)
        obtain ⟨go9, co9, eo9, gb9, gl9, cl9, HG9⟩ := Kd.R_form HO_3.out (by omega)
        (first | cases eo9 | (injection eo9 with ea_ en_ ec_; (first | subst ea_ | (injection ea_ with ea_; subst ea_)); subst ec_; clear en_))
        have GB9 := Aside0.mk gb9
        have GG9 := Aside0.mk HG9
        clear gb9 gl9 HG9
        obtain ⟨hx9_0, hf9_0⟩ := Kd.R_celln 0 HO_3.out (x4_1 : Int) p9 q9
        replace p9 := eq_true p9
        replace q9 := eq_true q9
        have HP10 := Kd.R_putg HO_3.out (x4_1 : Int) (rd l0 x4_1)
        go_wp2_with (first | ((with_reducible refine gate_store (t := 3) (p := 20) rfl ?_); refine store_event (t := 3) (p := 20) (v := ?vo_w11) (w1 := (wr.setCell ⟨go9, (x4_1 : Int).toNat, none⟩ (.int .i64 (rd l0 x4_1)))) ?hg ?ho ?hn ?hr ?_; (case ho => rfl); (case hg => rfl); (case hn => rfl); (case hr => first | (go_simp; done) | (go_simp; rfl)); intro w11 hw; have hg : wr.grownBy w11 (some go9) := (by rw [hw]; exact HP10.2); have hp_ : Kd.R (Kd.int .i64) 3 w11 w.heap.size (fun _ => True) (.slice (some ⟨go9, 0, none⟩) x3_1.length co9) y280005 := (by rw [hw, Ny280005.out]; exact HP10.1); clear HP10; have n0_ := Aside0.mk (hp_); have n1_ := Aside0.mk ((by rw [hw]; exact below_set (HB.out) GB9.out : Below w.heap.size w w11)); clear HO_3; clear HB; have HO_3 := n0_; have HB := n1_; clear n0_ n1_; clear hg hw hp_))
        go_roundg k1
        case measure => have := HK1.out; omega
        case rel => exact ⟨(y280005), (wrap64 (x4_1 + 1)), (by first | rfl | (simp; done) | (simp [*]; done)), H', ⟨by have := HK1.out; omega⟩, ⟨by (with_reducible repeat (first | apply Kd.R_alloc | apply Kd.R_drewN | apply Kd.R_drew)); exact HO_3.out⟩, ⟨by repeat (first | (with_reducible first | exact HB.out | apply below_alloc | apply pw_below_drewN | apply below_drew1) | exact HB.out)⟩⟩
       ·rw [if_neg c8] at H
        exact absurd H (by simp)
      ·rw [if_neg c7] at H
       exact absurd H (by simp)
     ·rw [if_neg c6] at H
      have c6b0 : decide (x4_1 < (l0.length : Int)) = false := decide_eq_false c6
      clear c6
      obtain rfl := Option.some.inj H
      go_wp2
      go_ret
      exact ⟨_, by first | rfl | (simp [errW_none, errW_some] <;> rfl) | (simp [*, errW_none, errW_some] <;> rfl), by (with_reducible repeat (first | apply Kd.R_alloc | apply Kd.R_drewN | apply Kd.R_drew)); exact HO_3.out, by repeat (first | (with_reducible first | exact HB.out | apply below_alloc | apply pw_below_drewN | apply below_drew1) | exact HB.out)⟩
  ·rw [if_neg c3] at H
   exact absurd H (by simp)
 ·rw [if_neg c2] at H
  exact absurd H (by simp)

end Go.Proofs.Ytbjdnfgalopfiaa.PX
