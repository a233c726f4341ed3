import Derived.Test.YtjldpnhlegbjkaaPZx0
import Derived.Test.YtjldpnhlegbjkaaPZx2
import Derived.Test.YtjldpnhlegbjkaaPZx3
import Derived.Test.YtjldpnhlegbjkaaPZx4
import Derived.Test.YtjldpnhlegbjkaaPZx7
import Derived.Test.YtjldpnhlegbjkaaPZx14
import Derived.Test.YtjldpnhlegbjkaaPZx15
namespace Go.Proofs.Ytjldpnhlegbjkaa.PZ
open Go.RowKit Go.Proofs.YtjldpnhlegbjkaaW.PrintWords Go.Proofs.YtjldpnhlegbjkaaW.PrintLast Go.Proofs.YtjldpnhlegbjkaaW.PrintMore
attribute [local go_sem] max2_int min2_int max_two min_two max_three min_three max_four min_four
set_option linter.unusedVariables false
set_option linter.unusedSimpArgs false

mutual
def laws_FnExactLockFirm.j0 : Nat → Int → Int → Bool → Bool → Bool → Int → List (S42) → List (S42) → Int → List (S45) → List (S45) → Int → List (S45) → List (S45) → Int → List (S45) → List (S45) → Option (Bool)
 | 0, _, _, _, _, _, _, _, _, _, _, _, _, _, _, _, _, _ => none
 | k + 1, x1, x2, x9, x12, x48, x50002000, x50002001, x50002002, x50019000, x50019001, x50019002, x50027000, x50027001, x50027002, x50036000, x50036001, x50036002 => if x48 = true then (some false) else ((laws_toLock.f k x50002000 x50002001 x50002002).bind fun bt50037 => ((laws_eqLock.f k x50027000 x50027001 x50027002 bt50037.1 bt50037.2.1 bt50037.2.2).bind fun t50044 => (if t50044 = true then ((laws_markLock.f k x50027000 x50027001 x50027002 1).bind fun bt50045 => (if bt50045.1 < 0 then (laws_FnExactLockFirm.j1 k x1 x2 x9 true x50002000 x50002001 x50002002 x50019000 x50019001 x50019002 x50036000 x50036001 x50036002) else ((laws_eqLock.f k x50036000 x50036001 x50036002 x50019000 x50019001 x50019002).bind fun t50048 => (if t50048 = true then (laws_FnExactLockFirm.j1 k x1 x2 x9 (x12 != x9) x50002000 x50002001 x50002002 x50019000 x50019001 x50019002 x50036000 x50036001 x50036002) else (laws_FnExactLockFirm.j1 k x1 x2 x9 true x50002000 x50002001 x50002002 x50019000 x50019001 x50019002 x50036000 x50036001 x50036002))))) else (some false))))
def laws_FnExactLockFirm.j1 : Nat → Int → Int → Bool → Bool → Int → List (S42) → List (S42) → Int → List (S45) → List (S45) → Int → List (S45) → List (S45) → Option (Bool)
 | 0, _, _, _, _, _, _, _, _, _, _, _, _, _ => none
 | k + 1, x1, x2, x9, x69, x50002000, x50002001, x50002002, x50019000, x50019001, x50019002, x50036000, x50036001, x50036002 => if x69 = true then (some false) else ((laws_markLock.f k x50036000 x50036001 x50036002 1).bind fun bt50049 => ((laws_heldLock.f k x50036000 bt50049.2.1 bt50049.2.2 1).bind fun t50052 => (if t50052 < 0 then (some false) else (if t50052 = bt50049.1 then ((laws_toLock.f k x50002000 x50002001 x50002002).bind fun bt50053 => ((impl_LockFirm.f bt50053.1 bt50053.2.1 bt50053.2.2 x1 x2).bind fun bt50060 => ((laws_eqLock.f k bt50060.1 bt50060.2.1 bt50060.2.2.1 x50019000 x50019001 x50019002).bind fun t50069 => (if t50069 = true then (laws_FnExactLockFirm.j2 k bt50049.1 (bt50060.2.2.2 != x9) x50036000 bt50049.2.1 bt50049.2.2) else (laws_FnExactLockFirm.j2 k bt50049.1 true x50036000 bt50049.2.1 bt50049.2.2))))) else (some false)))))
def laws_FnExactLockFirm.j2 : Nat → Int → Bool → Int → List (S45) → List (S45) → Option (Bool)
 | 0, _, _, _, _, _ => none
 | k + 1, x14, x97, x50036000, x50036001, x50036002 => if x97 = true then (some false) else ((laws_heldLock.f k x50036000 x50036001 x50036002 1).bind fun t50070 => (if t50070 < 0 then (some false) else (if t50070 = x14 then (some true) else (some false))))
end
def laws_FnExactLockFirm.f (k : Nat) (a0_0 : Int) (l0_1 : List (S42)) (l0_2 : List (S42)) (a1 : Int) (a2 : Int) : Option (Bool) := (laws_szLock.f a0_0 l0_1 l0_2 1048576).bind fun t50002 => (if t50002 < 0 then (some true) else ((laws_toLock.f k a0_0 l0_1 l0_2).bind fun bt50003 => ((spec_LockFirm.f k bt50003.1 bt50003.2.1 bt50003.2.2 a1 a2).bind fun bt50010 => ((laws_toLock.f k a0_0 l0_1 l0_2).bind fun bt50019 => ((impl_LockFirm.f bt50019.1 bt50019.2.1 bt50019.2.2 a1 a2).bind fun bt50027 => ((laws_eqLock.f k bt50027.1 bt50027.2.1 bt50027.2.2.1 bt50010.1 bt50010.2.1 bt50010.2.2.1).bind fun t50036 => (if t50036 = true then (laws_FnExactLockFirm.j0 k a1 a2 bt50010.2.2.2 bt50027.2.2.2 (bt50027.2.2.2 != bt50010.2.2.2) a0_0 l0_1 l0_2 bt50010.1 bt50010.2.1 bt50010.2.2.1 bt50019.1 bt50019.2.1 bt50019.2.2 bt50027.1 bt50027.2.1 bt50027.2.2.1) else (laws_FnExactLockFirm.j0 k a1 a2 bt50010.2.2.2 bt50027.2.2.2 true a0_0 l0_1 l0_2 bt50010.1 bt50010.2.1 bt50010.2.2.1 bt50019.1 bt50019.2.1 bt50019.2.2 bt50027.1 bt50027.2.1 bt50027.2.2.1))))))))
theorem laws_FnExactLockFirm.mono_l : ∀ k, (∀ y0 y1 y2 y3 y4 y5 y6 y7 y8 y9 y10 y11 y12 y13 y14 y15 y16, LeO (laws_FnExactLockFirm.j0 k y0 y1 y2 y3 y4 y5 y6 y7 y8 y9 y10 y11 y12 y13 y14 y15 y16) (laws_FnExactLockFirm.j0 (k + 1) y0 y1 y2 y3 y4 y5 y6 y7 y8 y9 y10 y11 y12 y13 y14 y15 y16)) ∧ (∀ y0 y1 y2 y3 y4 y5 y6 y7 y8 y9 y10 y11 y12, LeO (laws_FnExactLockFirm.j1 k y0 y1 y2 y3 y4 y5 y6 y7 y8 y9 y10 y11 y12) (laws_FnExactLockFirm.j1 (k + 1) y0 y1 y2 y3 y4 y5 y6 y7 y8 y9 y10 y11 y12)) ∧ (∀ y0 y1 y2 y3 y4, LeO (laws_FnExactLockFirm.j2 k y0 y1 y2 y3 y4) (laws_FnExactLockFirm.j2 (k + 1) y0 y1 y2 y3 y4))
 | 0 => ⟨fun _ _ _ _ _ _ _ _ _ _ _ _ _ _ _ _ _ r h => by simp [laws_FnExactLockFirm.j0] at h, fun _ _ _ _ _ _ _ _ _ _ _ _ _ r h => by simp [laws_FnExactLockFirm.j1] at h, fun _ _ _ _ _ r h => by simp [laws_FnExactLockFirm.j2] at h⟩
 | k + 1 => by
  obtain ⟨ih0, ih1, ih2⟩ := laws_FnExactLockFirm.mono_l k
  refine ⟨?_, ?_, ?_⟩
  ·intro y0 y1 y2 y3 y4 y5 y6 y7 y8 y9 y10 y11 y12 y13 y14 y15 y16
   unfold laws_FnExactLockFirm.j0
   repeat' first
   | (with_reducible exact ih0 _ _ _ _ _ _ _ _ _ _ _ _ _ _ _ _ _)
   | (with_reducible exact ih1 _ _ _ _ _ _ _ _ _ _ _ _ _)
   | (with_reducible exact ih2 _ _ _ _ _)
   | (with_reducible exact laws_eqLock.mono _ _ _ _ _ _ _)
   | (with_reducible exact laws_heldLock.mono _ _ _ _ _)
   | (with_reducible exact laws_markLock.mono _ _ _ _ _)
   | (with_reducible exact laws_toLock.mono _ _ _ _)
   | (with_reducible exact spec_LockFirm.mono _ _ _ _ _ _)
   | (with_reducible exact LeO.refl _)
   | (with_reducible exact LeO.none _)
   | (with_reducible refine LeO.ite ?_ ?_)
   | (with_reducible refine LeO.bind ?_ (fun _ => ?_))
   | exact ih0 _ _ _ _ _ _ _ _ _ _ _ _ _ _ _ _ _
   | exact ih1 _ _ _ _ _ _ _ _ _ _ _ _ _
   | exact ih2 _ _ _ _ _
   | exact laws_eqLock.mono _ _ _ _ _ _ _
   | exact laws_heldLock.mono _ _ _ _ _
   | exact laws_markLock.mono _ _ _ _ _
   | exact laws_toLock.mono _ _ _ _
   | exact spec_LockFirm.mono _ _ _ _ _ _
   | exact LeO.none _
   | refine LeO.ite ?_ ?_
   | refine LeO.bind ?_ (fun _ => ?_)
  ·intro y0 y1 y2 y3 y4 y5 y6 y7 y8 y9 y10 y11 y12
   unfold laws_FnExactLockFirm.j1
   repeat' first
   | (with_reducible exact ih0 _ _ _ _ _ _ _ _ _ _ _ _ _ _ _ _ _)
   | (with_reducible exact ih1 _ _ _ _ _ _ _ _ _ _ _ _ _)
   | (with_reducible exact ih2 _ _ _ _ _)
   | (with_reducible exact laws_eqLock.mono _ _ _ _ _ _ _)
   | (with_reducible exact laws_heldLock.mono _ _ _ _ _)
   | (with_reducible exact laws_markLock.mono _ _ _ _ _)
   | (with_reducible exact laws_toLock.mono _ _ _ _)
   | (with_reducible exact spec_LockFirm.mono _ _ _ _ _ _)
   | (with_reducible exact LeO.refl _)
   | (with_reducible exact LeO.none _)
   | (with_reducible refine LeO.ite ?_ ?_)
   | (with_reducible refine LeO.bind ?_ (fun _ => ?_))
   | exact ih0 _ _ _ _ _ _ _ _ _ _ _ _ _ _ _ _ _
   | exact ih1 _ _ _ _ _ _ _ _ _ _ _ _ _
   | exact ih2 _ _ _ _ _
   | exact laws_eqLock.mono _ _ _ _ _ _ _
   | exact laws_heldLock.mono _ _ _ _ _
   | exact laws_markLock.mono _ _ _ _ _
   | exact laws_toLock.mono _ _ _ _
   | exact spec_LockFirm.mono _ _ _ _ _ _
   | exact LeO.none _
   | refine LeO.ite ?_ ?_
   | refine LeO.bind ?_ (fun _ => ?_)
  ·intro y0 y1 y2 y3 y4
   unfold laws_FnExactLockFirm.j2
   repeat' first
   | (with_reducible exact ih0 _ _ _ _ _ _ _ _ _ _ _ _ _ _ _ _ _)
   | (with_reducible exact ih1 _ _ _ _ _ _ _ _ _ _ _ _ _)
   | (with_reducible exact ih2 _ _ _ _ _)
   | (with_reducible exact laws_eqLock.mono _ _ _ _ _ _ _)
   | (with_reducible exact laws_heldLock.mono _ _ _ _ _)
   | (with_reducible exact laws_markLock.mono _ _ _ _ _)
   | (with_reducible exact laws_toLock.mono _ _ _ _)
   | (with_reducible exact spec_LockFirm.mono _ _ _ _ _ _)
   | (with_reducible exact LeO.refl _)
   | (with_reducible exact LeO.none _)
   | (with_reducible refine LeO.ite ?_ ?_)
   | (with_reducible refine LeO.bind ?_ (fun _ => ?_))
   | exact ih0 _ _ _ _ _ _ _ _ _ _ _ _ _ _ _ _ _
   | exact ih1 _ _ _ _ _ _ _ _ _ _ _ _ _
   | exact ih2 _ _ _ _ _
   | exact laws_eqLock.mono _ _ _ _ _ _ _
   | exact laws_heldLock.mono _ _ _ _ _
   | exact laws_markLock.mono _ _ _ _ _
   | exact laws_toLock.mono _ _ _ _
   | exact spec_LockFirm.mono _ _ _ _ _ _
   | exact LeO.none _
   | refine LeO.ite ?_ ?_
   | refine LeO.bind ?_ (fun _ => ?_)
theorem laws_FnExactLockFirm.mono : ∀ a0 a1 a2 a3 a4 k, LeO (laws_FnExactLockFirm.f k a0 a1 a2 a3 a4) (laws_FnExactLockFirm.f (k + 1) a0 a1 a2 a3 a4) := by
 intro a0 a1 a2 a3 a4 k
 obtain ⟨ih0, ih1, ih2⟩ := laws_FnExactLockFirm.mono_l k
 unfold laws_FnExactLockFirm.f
 repeat' first
  | (with_reducible exact ih0 _ _ _ _ _ _ _ _ _ _ _ _ _ _ _ _ _)
  | (with_reducible exact ih1 _ _ _ _ _ _ _ _ _ _ _ _ _)
  | (with_reducible exact ih2 _ _ _ _ _)
  | (with_reducible exact laws_eqLock.mono _ _ _ _ _ _ _)
  | (with_reducible exact laws_heldLock.mono _ _ _ _ _)
  | (with_reducible exact laws_markLock.mono _ _ _ _ _)
  | (with_reducible exact laws_toLock.mono _ _ _ _)
  | (with_reducible exact spec_LockFirm.mono _ _ _ _ _ _)
  | (with_reducible exact LeO.refl _)
  | (with_reducible exact LeO.none _)
  | (with_reducible refine LeO.ite ?_ ?_)
  | (with_reducible refine LeO.bind ?_ (fun _ => ?_))
  | exact ih0 _ _ _ _ _ _ _ _ _ _ _ _ _ _ _ _ _
  | exact ih1 _ _ _ _ _ _ _ _ _ _ _ _ _
  | exact ih2 _ _ _ _ _
  | exact laws_eqLock.mono _ _ _ _ _ _ _
  | exact laws_heldLock.mono _ _ _ _ _
  | exact laws_markLock.mono _ _ _ _ _
  | exact laws_toLock.mono _ _ _ _
  | exact spec_LockFirm.mono _ _ _ _ _ _
  | exact LeO.none _
  | refine LeO.ite ?_ ?_
  | refine LeO.bind ?_ (fun _ => ?_)
set_option maxHeartbeats 8000000 in
set_option maxRecDepth 100000 in
theorem laws_FnExactLockFirm.calls (k : Nat) (a0_0 : Int) (A0_1 : Option Addr) (c0_1 : Nat) (l0_1 : List (S42)) (A0_2 : Option Addr) (c0_2 : Nat) (l0_2 : List (S42)) (a1 : Int) (a2 : Int) (r : Bool) (w : World) (hr0_1 : Kd.C k42 w A0_1 l0_1.length l0_1) (hc0_1 : l0_1.length ≤ c0_1) (hr0_2 : Kd.C k42 w A0_2 l0_2.length l0_2) (hc0_2 : l0_2.length ≤ c0_2) (hr_ : r = true) (h : laws_FnExactLockFirm.f k a0_0 l0_1 l0_2 a1 a2 = some r) :
 Calls Try.prog 4 #[.agg #[.int .i64 a0_0, .slice A0_1 l0_1.length c0_1, .slice A0_2 l0_2.length c0_2], .int .i64 a1, .int .i64 a2] w fun e w' => e = .returned (.bool r) ∧ Below w.heap.size w w' := by
 subst hr_
 have hu24 := Try.underlying24
 have hu29 := Try.underlying29
 have HR0_1 := Aside0.mk hr0_1
 have HC0_1 := Aside0.mk hc0_1
 clear hr0_1 hc0_1
 have HR0_2 := Aside0.mk hr0_2
 have HC0_2 := Aside0.mk hc0_2
 clear hr0_2 hc0_2
 have HB := Aside0.mk (Below.refl w.heap.size w)
 have H : ((laws_szLock.f a0_0 l0_1 l0_2 1048576).bind fun t50002 => (if t50002 < 0 then (some true) else ((laws_toLock.f k a0_0 l0_1 l0_2).bind fun bt50003 => ((spec_LockFirm.f k bt50003.1 bt50003.2.1 bt50003.2.2 a1 a2).bind fun bt50010 => ((laws_toLock.f k a0_0 l0_1 l0_2).bind fun bt50019 => ((impl_LockFirm.f bt50019.1 bt50019.2.1 bt50019.2.2 a1 a2).bind fun bt50027 => ((laws_eqLock.f k bt50027.1 bt50027.2.1 bt50027.2.2.1 bt50010.1 bt50010.2.1 bt50010.2.2.1).bind fun t50036 => (if t50036 = true then (laws_FnExactLockFirm.j0 k a1 a2 bt50010.2.2.2 bt50027.2.2.2 (bt50027.2.2.2 != bt50010.2.2.2) a0_0 l0_1 l0_2 bt50010.1 bt50010.2.1 bt50010.2.2.1 bt50019.1 bt50019.2.1 bt50019.2.2 bt50027.1 bt50027.2.1 bt50027.2.2.1) else (laws_FnExactLockFirm.j0 k a1 a2 bt50010.2.2.2 bt50027.2.2.2 true a0_0 l0_1 l0_2 bt50010.1 bt50010.2.1 bt50010.2.2.1 bt50019.1 bt50019.2.1 bt50019.2.2 bt50027.1 bt50027.2.1 bt50027.2.2.1))))))))) = some true := h
 clear h
 replace H := Option.bind_eq_some_iff.mp H
 obtain ⟨t50002, A40, H⟩ := H
 replace H : (if t50002 < 0 then (some true) else ((laws_toLock.f k a0_0 l0_1 l0_2).bind fun bt50003 => ((spec_LockFirm.f k bt50003.1 bt50003.2.1 bt50003.2.2 a1 a2).bind fun bt50010 => ((laws_toLock.f k a0_0 l0_1 l0_2).bind fun bt50019 => ((impl_LockFirm.f bt50019.1 bt50019.2.1 bt50019.2.2 a1 a2).bind fun bt50027 => ((laws_eqLock.f k bt50027.1 bt50027.2.1 bt50027.2.2.1 bt50010.1 bt50010.2.1 bt50010.2.2.1).bind fun t50036 => (if t50036 = true then (laws_FnExactLockFirm.j0 k a1 a2 bt50010.2.2.2 bt50027.2.2.2 (bt50027.2.2.2 != bt50010.2.2.2) a0_0 l0_1 l0_2 bt50010.1 bt50010.2.1 bt50010.2.2.1 bt50019.1 bt50019.2.1 bt50019.2.2 bt50027.1 bt50027.2.1 bt50027.2.2.1) else (laws_FnExactLockFirm.j0 k a1 a2 bt50010.2.2.2 bt50027.2.2.2 true a0_0 l0_1 l0_2 bt50010.1 bt50010.2.1 bt50010.2.2.1 bt50019.1 bt50019.2.1 bt50019.2.2 bt50027.1 bt50027.2.1 bt50027.2.2.1)))))))) = some true := H
 have A4 := Aside0.mk A40
 clear A40
 by_cases c5 : t50002 < 0
 ·rw [if_pos c5] at H
  have c5b0 : decide (t50002 < 0) = true := decide_eq_true c5
  clear c5
  clear H
  go_enter Try.func4, Try.ntmps4
  go_wp2_with (first | ((with_reducible refine gate_dst (N := 3) rfl ?_); refine box_event ?hg (N := 3) ?hd (cs := #[.int .i64 a0_0, .slice A0_1 l0_1.length c0_1, .slice A0_2 l0_2.length c0_2]) (t := 24) ?hr ?_; (case hd => rfl); (case hg => rfl); (case hr => first | (go_simp; done) | (go_simp; rfl)); intro gb50001 hg w6 hbox hb; have n0_ := Aside0.mk (below_step (by repeat (first | (with_reducible first | exact HB.out | apply below_alloc | apply pw_below_drewN | apply below_drew1) | exact HB.out)) hb); have n1_ := Aside0.mk (hbox); have n2_ := Aside0.mk ((by rw [hg]; exact (below_size (by repeat (first | (with_reducible first | exact HB.out | apply below_alloc | apply pw_below_drewN | apply below_drew1) | exact HB.out))) : w.heap.size ≤ gb50001)); have n3_ := Aside0.mk ((by rw [hg]; exact (below_size (by repeat (first | (with_reducible first | exact HB.out | apply below_alloc | apply pw_below_drewN | apply below_drew1) | exact HB.out))) : w.heap.size ≤ gb50001)); clear HB; have HB := n0_; have BK50001 := n1_; have GW50001 := n2_; have GE50001 := n3_; clear n0_ n1_ n2_ n3_; clear hb hbox hg; have hcz7_0 : w6.cell? ⟨gb50001, 0, none⟩ = some (.int .i64 a0_0) := (blk_cell BK50001.out 0).trans rfl; have hcz7_1 : w6.cell? ⟨gb50001, 1, none⟩ = some (.slice A0_1 l0_1.length c0_1) := (blk_cell BK50001.out 1).trans rfl; have hcz7_2 : w6.cell? ⟨gb50001, 2, none⟩ = some (.slice A0_2 l0_2.length c0_2) := (blk_cell BK50001.out 2).trans rfl; have hfz7_0 := blk_frozen BK50001.out 0; have hfz7_1 := blk_frozen BK50001.out 1; have hfz7_2 := blk_frozen BK50001.out 2) | ((with_reducible refine gate_callee (f := 15) rfl ?_); refine goesL_ (some 20) rfl rfl Try.func15 (by kernel_rfl) rfl #[.agg #[.int .i64 a0_0, .slice A0_1 l0_1.length c0_1, .slice A0_2 l0_2.length c0_2], .int .i64 1048576] rfl (by (try simp only [List.map_toArray, List.map_cons, List.map_nil]); first | done | rfl | (simp only [List.length_drop, List.length_take]; rfl)) ?_; (with_reducible refine (laws_szLock.calls a0_0 _ _ l0_1 _ _ l0_2 1048576 t50002 _ ?side1 ?side2 ?side3 ?side4 A4.out).mono ?_); (case side1 => repeat (first | exact (Kd.C_below HR0_1.out HB.out) | (with_reducible refine Kd.C_alloc ?_ _) | (with_reducible refine Kd.C_drewN ?_ _) | (with_reducible refine Kd.C_drew ?_))); (case side2 => exact HC0_1.out); (case side3 => repeat (first | exact (Kd.C_below HR0_2.out HB.out) | (with_reducible refine Kd.C_alloc ?_ _) | (with_reducible refine Kd.C_drewN ?_ _) | (with_reducible refine Kd.C_drew ?_))); (case side4 => exact HC0_2.out); rintro e w8 ⟨rfl, hb⟩; refine ⟨_, rfl, ?_⟩; have n0_ := Aside0.mk (blk_below (g := gb50001) (o := .cells #[.int .i64 a0_0, .slice A0_1 l0_1.length c0_1, .slice A0_2 l0_2.length c0_2] 24 (0, 0)) (by (with_reducible repeat (first | refine blk_drewN ?_ _ | refine blk_drew ?_ | refine blk_alloc ?_ _)); exact BK50001.out) hb); have n1_ := Aside0.mk (below_step (by repeat (first | (with_reducible first | exact HB.out | apply below_alloc | apply pw_below_drewN | apply below_drew1 | refine below_set ?_ GE50001.out) | exact HB.out)) hb); clear BK50001; clear HB; have BK50001 := n0_; have HB := n1_; clear n0_ n1_; (try clear hb); (try clear hb2); (try clear hk); (try clear hi)))
  go_ret
  exact ⟨by first | rfl | (simp [errW_none, errW_some] <;> rfl) | (simp [*, errW_none, errW_some] <;> rfl), by repeat (first | (with_reducible first | exact HB.out | apply below_alloc | apply pw_below_drewN | apply below_drew1 | refine below_set ?_ GE50001.out) | exact HB.out)⟩
 ·rw [if_neg c5] at H
  have c5b0 : decide (t50002 < 0) = false := decide_eq_false c5
  clear c5
  replace H := Option.bind_eq_some_iff.mp H
  obtain ⟨⟨t50003, t50004, t50007⟩, A90, H⟩ := H
  replace H : ((spec_LockFirm.f k t50003 t50004 t50007 a1 a2).bind fun bt50010 => ((laws_toLock.f k a0_0 l0_1 l0_2).bind fun bt50019 => ((impl_LockFirm.f bt50019.1 bt50019.2.1 bt50019.2.2 a1 a2).bind fun bt50027 => ((laws_eqLock.f k bt50027.1 bt50027.2.1 bt50027.2.2.1 bt50010.1 bt50010.2.1 bt50010.2.2.1).bind fun t50036 => (if t50036 = true then (laws_FnExactLockFirm.j0 k a1 a2 bt50010.2.2.2 bt50027.2.2.2 (bt50027.2.2.2 != bt50010.2.2.2) a0_0 l0_1 l0_2 bt50010.1 bt50010.2.1 bt50010.2.2.1 bt50019.1 bt50019.2.1 bt50019.2.2 bt50027.1 bt50027.2.1 bt50027.2.2.1) else (laws_FnExactLockFirm.j0 k a1 a2 bt50010.2.2.2 bt50027.2.2.2 true a0_0 l0_1 l0_2 bt50010.1 bt50010.2.1 bt50010.2.2.1 bt50019.1 bt50019.2.1 bt50019.2.2 bt50027.1 bt50027.2.1 bt50027.2.2.1)))))) = some true := H
  have A9 := Aside0.mk A90
  clear A90
  replace H := Option.bind_eq_some_iff.mp H
  obtain ⟨⟨t50010, t50011, t50014, t50017⟩, A100, H⟩ := H
  replace H : ((laws_toLock.f k a0_0 l0_1 l0_2).bind fun bt50019 => ((impl_LockFirm.f bt50019.1 bt50019.2.1 bt50019.2.2 a1 a2).bind fun bt50027 => ((laws_eqLock.f k bt50027.1 bt50027.2.1 bt50027.2.2.1 t50010 t50011 t50014).bind fun t50036 => (if t50036 = true then (laws_FnExactLockFirm.j0 k a1 a2 t50017 bt50027.2.2.2 (bt50027.2.2.2 != t50017) a0_0 l0_1 l0_2 t50010 t50011 t50014 bt50019.1 bt50019.2.1 bt50019.2.2 bt50027.1 bt50027.2.1 bt50027.2.2.1) else (laws_FnExactLockFirm.j0 k a1 a2 t50017 bt50027.2.2.2 true a0_0 l0_1 l0_2 t50010 t50011 t50014 bt50019.1 bt50019.2.1 bt50019.2.2 bt50027.1 bt50027.2.1 bt50027.2.2.1))))) = some true := H
  have A10 := Aside0.mk A100
  clear A100
  replace H := Option.bind_eq_some_iff.mp H
  obtain ⟨⟨t50019, t50020, t50023⟩, A110, H⟩ := H
  replace H : ((impl_LockFirm.f t50019 t50020 t50023 a1 a2).bind fun bt50027 => ((laws_eqLock.f k bt50027.1 bt50027.2.1 bt50027.2.2.1 t50010 t50011 t50014).bind fun t50036 => (if t50036 = true then (laws_FnExactLockFirm.j0 k a1 a2 t50017 bt50027.2.2.2 (bt50027.2.2.2 != t50017) a0_0 l0_1 l0_2 t50010 t50011 t50014 t50019 t50020 t50023 bt50027.1 bt50027.2.1 bt50027.2.2.1) else (laws_FnExactLockFirm.j0 k a1 a2 t50017 bt50027.2.2.2 true a0_0 l0_1 l0_2 t50010 t50011 t50014 t50019 t50020 t50023 bt50027.1 bt50027.2.1 bt50027.2.2.1)))) = some true := H
  have A11 := Aside0.mk A110
  clear A110
  replace H := Option.bind_eq_some_iff.mp H
  obtain ⟨⟨t50027, t50028, t50031, t50034⟩, A120, H⟩ := H
  replace H : ((laws_eqLock.f k t50027 t50028 t50031 t50010 t50011 t50014).bind fun t50036 => (if t50036 = true then (laws_FnExactLockFirm.j0 k a1 a2 t50017 t50034 (t50034 != t50017) a0_0 l0_1 l0_2 t50010 t50011 t50014 t50019 t50020 t50023 t50027 t50028 t50031) else (laws_FnExactLockFirm.j0 k a1 a2 t50017 t50034 true a0_0 l0_1 l0_2 t50010 t50011 t50014 t50019 t50020 t50023 t50027 t50028 t50031))) = some true := H
  have A12 := Aside0.mk A120
  clear A120
  have HC13 := Aside0.mk H
  clear H
  go_enter Try.func4, Try.ntmps4
  go_upto_region 8 with (first | ((with_reducible refine gate_dst (N := 3) rfl ?_); refine box_event ?hg (N := 3) ?hd (cs := #[.int .i64 a0_0, .slice A0_1 l0_1.length c0_1, .slice A0_2 l0_2.length c0_2]) (t := 24) ?hr ?_; (case hd => rfl); (case hg => rfl); (case hr => first | (go_simp; done) | (go_simp; rfl)); intro gb50001 hg w14 hbox hb; have n0_ := Aside0.mk (below_step (by repeat (first | (with_reducible first | exact HB.out | apply below_alloc | apply pw_below_drewN | apply below_drew1) | exact HB.out)) hb); have n1_ := Aside0.mk (hbox); have n2_ := Aside0.mk ((by rw [hg]; exact (below_size (by repeat (first | (with_reducible first | exact HB.out | apply below_alloc | apply pw_below_drewN | apply below_drew1) | exact HB.out))) : w.heap.size ≤ gb50001)); have n3_ := Aside0.mk ((by rw [hg]; exact (below_size (by repeat (first | (with_reducible first | exact HB.out | apply below_alloc | apply pw_below_drewN | apply below_drew1) | exact HB.out))) : w.heap.size ≤ gb50001)); clear HB; have HB := n0_; have BK50001 := n1_; have GW50001 := n2_; have GE50001 := n3_; clear n0_ n1_ n2_ n3_; clear hb hbox hg; have hcz15_0 : w14.cell? ⟨gb50001, 0, none⟩ = some (.int .i64 a0_0) := (blk_cell BK50001.out 0).trans rfl; have hcz15_1 : w14.cell? ⟨gb50001, 1, none⟩ = some (.slice A0_1 l0_1.length c0_1) := (blk_cell BK50001.out 1).trans rfl; have hcz15_2 : w14.cell? ⟨gb50001, 2, none⟩ = some (.slice A0_2 l0_2.length c0_2) := (blk_cell BK50001.out 2).trans rfl; have hfz15_0 := blk_frozen BK50001.out 0; have hfz15_1 := blk_frozen BK50001.out 1; have hfz15_2 := blk_frozen BK50001.out 2) | ((with_reducible refine gate_callee (f := 15) rfl ?_); refine goesL_ (some 20) rfl rfl Try.func15 (by kernel_rfl) rfl #[.agg #[.int .i64 a0_0, .slice A0_1 l0_1.length c0_1, .slice A0_2 l0_2.length c0_2], .int .i64 1048576] rfl (by (try simp only [List.map_toArray, List.map_cons, List.map_nil]); first | done | rfl | (simp only [List.length_drop, List.length_take]; rfl)) ?_; (with_reducible refine (laws_szLock.calls a0_0 _ _ l0_1 _ _ l0_2 1048576 t50002 _ ?side1 ?side2 ?side3 ?side4 A4.out).mono ?_); (case side1 => repeat (first | exact (Kd.C_below HR0_1.out HB.out) | (with_reducible refine Kd.C_alloc ?_ _) | (with_reducible refine Kd.C_drewN ?_ _) | (with_reducible refine Kd.C_drew ?_))); (case side2 => exact HC0_1.out); (case side3 => repeat (first | exact (Kd.C_below HR0_2.out HB.out) | (with_reducible refine Kd.C_alloc ?_ _) | (with_reducible refine Kd.C_drewN ?_ _) | (with_reducible refine Kd.C_drew ?_))); (case side4 => exact HC0_2.out); rintro e w16 ⟨rfl, hb⟩; refine ⟨_, rfl, ?_⟩; have n0_ := Aside0.mk (blk_below (g := gb50001) (o := .cells #[.int .i64 a0_0, .slice A0_1 l0_1.length c0_1, .slice A0_2 l0_2.length c0_2] 24 (0, 0)) (by (with_reducible repeat (first | refine blk_drewN ?_ _ | refine blk_drew ?_ | refine blk_alloc ?_ _)); exact BK50001.out) hb); have n1_ := Aside0.mk (below_step (by repeat (first | (with_reducible first | exact HB.out | apply below_alloc | apply pw_below_drewN | apply below_drew1 | refine below_set ?_ GE50001.out) | exact HB.out)) hb); clear BK50001; clear HB; have BK50001 := n0_; have HB := n1_; clear n0_ n1_; (try clear hb); (try clear hb2); (try clear hk); (try clear hi); have hcz17_0 : w16.cell? ⟨gb50001, 0, none⟩ = some (.int .i64 a0_0) := (blk_cell BK50001.out 0).trans rfl; have hcz17_1 : w16.cell? ⟨gb50001, 1, none⟩ = some (.slice A0_1 l0_1.length c0_1) := (blk_cell BK50001.out 1).trans rfl; have hcz17_2 : w16.cell? ⟨gb50001, 2, none⟩ = some (.slice A0_2 l0_2.length c0_2) := (blk_cell BK50001.out 2).trans rfl; have hfz17_0 := blk_frozen BK50001.out 0; have hfz17_1 := blk_frozen BK50001.out 1; have hfz17_2 := blk_frozen BK50001.out 2) | ((with_reducible refine gate_callee (f := 17) rfl ?_); refine goesL_ (some 25) rfl rfl Try.func17 (by kernel_rfl) rfl #[.agg #[.int .i64 a0_0, .slice A0_1 l0_1.length c0_1, .slice A0_2 l0_2.length c0_2]] rfl (by (try simp only [List.map_toArray, List.map_cons, List.map_nil]); first | done | rfl | (simp only [List.length_drop, List.length_take]; rfl)) ?_; (with_reducible refine (laws_toLock.calls k a0_0 _ _ l0_1 _ _ l0_2 t50003 t50004 t50007 _ ?side1 ?side2 ?side3 ?side4 A9.out).mono ?_); (case side1 => repeat (first | exact (Kd.C_below HR0_1.out HB.out) | (with_reducible refine Kd.C_alloc ?_ _) | (with_reducible refine Kd.C_drewN ?_ _) | (with_reducible refine Kd.C_drew ?_))); (case side2 => exact HC0_1.out); (case side3 => repeat (first | exact (Kd.C_below HR0_2.out HB.out) | (with_reducible refine Kd.C_alloc ?_ _) | (with_reducible refine Kd.C_drewN ?_ _) | (with_reducible refine Kd.C_drew ?_))); (case side4 => exact HC0_2.out); rintro e w18 ⟨v50005, v50008, rfl, ho0, ho1, hb⟩; refine ⟨_, rfl, ?_⟩; have n0_ := Aside0.mk (Kd.R_lower ho0 (below_size (by repeat (first | (with_reducible first | exact HB.out | apply below_alloc | apply pw_below_drewN | apply below_drew1 | refine below_set ?_ GE50001.out) | exact HB.out)))); have n1_ := Aside0.mk (Kd.R_lower ho1 (below_size (by repeat (first | (with_reducible first | exact HB.out | apply below_alloc | apply pw_below_drewN | apply below_drew1 | refine below_set ?_ GE50001.out) | exact HB.out)))); have n2_ := Aside0.mk (blk_below (g := gb50001) (o := .cells #[.int .i64 a0_0, .slice A0_1 l0_1.length c0_1, .slice A0_2 l0_2.length c0_2] 24 (0, 0)) (by (with_reducible repeat (first | refine blk_drewN ?_ _ | refine blk_drew ?_ | refine blk_alloc ?_ _)); exact BK50001.out) hb); have n3_ := Aside0.mk (below_step (by repeat (first | (with_reducible first | exact HB.out | apply below_alloc | apply pw_below_drewN | apply below_drew1 | refine below_set ?_ GE50001.out) | exact HB.out)) hb); clear BK50001; clear HB; have HO50006 := n0_; have HO50009 := n1_; have BK50001 := n2_; have HB := n3_; clear n0_ n1_ n2_ n3_; (try clear hb); (try clear hb2); (try clear hk); (try clear hi); (try clear ho0); (try clear ho1); obtain ⟨Ao19, co19, eo19⟩ := Kd.R_slice HO50006.out; subst eo19; obtain ⟨Ao20, co20, eo20⟩ := Kd.R_slice HO50009.out; subst eo20) | ((with_reducible refine gate_callee (f := 20) rfl ?_); refine goesL_ (some 28) rfl rfl Try.func20 (by kernel_rfl) rfl #[.agg #[.int .i64 t50003, .slice Ao19 t50004.length co19, .slice Ao20 t50007.length co20], .int .i64 a1, .int .i64 a2] rfl (by (try simp only [List.map_toArray, List.map_cons, List.map_nil]); first | done | rfl | (simp only [List.length_drop, List.length_take]; rfl)) ?_; (with_reducible refine (spec_LockFirm.calls k t50003 _ _ t50004 _ _ t50007 a1 a2 t50010 t50011 t50014 t50017 _ ?side1 ?side2 ?side3 ?side4 A10.out).mono ?_); (case side1 => repeat (first | exact (Kd.R_reads' HO50006.out).2.2 | (with_reducible refine Kd.C_alloc ?_ _) | (with_reducible refine Kd.C_drewN ?_ _) | (with_reducible refine Kd.C_drew ?_))); (case side2 => exact (Kd.R_reads' HO50006.out).2.1); (case side3 => repeat (first | exact (Kd.R_reads' HO50009.out).2.2 | (with_reducible refine Kd.C_alloc ?_ _) | (with_reducible refine Kd.C_drewN ?_ _) | (with_reducible refine Kd.C_drew ?_))); (case side4 => exact (Kd.R_reads' HO50009.out).2.1); rintro e w21 ⟨v50012, v50015, rfl, ho0, ho1, hb⟩; refine ⟨_, rfl, ?_⟩; have n0_ := Aside0.mk (Kd.R_mono (Kd.R_told (Kd.R_told (Kd.R_old (by (with_reducible repeat (first | apply Kd.R_alloc | apply Kd.R_drewN | apply Kd.R_drew)); exact HO50006.out) hb) (Kd.R_base ho0)) (Kd.R_base ho1)) (fun _ h_ => h_.1)); have n1_ := Aside0.mk (Kd.R_mono (Kd.R_told (Kd.R_told (Kd.R_old (by (with_reducible repeat (first | apply Kd.R_alloc | apply Kd.R_drewN | apply Kd.R_drew)); exact HO50009.out) hb) (Kd.R_base ho0)) (Kd.R_base ho1)) (fun _ h_ => h_.1)); have n2_ := Aside0.mk (Kd.R_lower (Kd.R_new' (Kd.R_new' ho0 (Kd.R_lt (by (with_reducible repeat (first | apply Kd.R_alloc | apply Kd.R_drewN | apply Kd.R_drew)); exact HO50006.out))) (Kd.R_lt (by (with_reducible repeat (first | apply Kd.R_alloc | apply Kd.R_drewN | apply Kd.R_drew)); exact HO50009.out))) (below_size (by repeat (first | (with_reducible first | exact HB.out | apply below_alloc | apply pw_below_drewN | apply below_drew1 | refine below_set ?_ GE50001.out) | exact HB.out)))); have n3_ := Aside0.mk (Kd.R_lower (Kd.R_new' (Kd.R_new' ho1 (Kd.R_lt (by (with_reducible repeat (first | apply Kd.R_alloc | apply Kd.R_drewN | apply Kd.R_drew)); exact HO50006.out))) (Kd.R_lt (by (with_reducible repeat (first | apply Kd.R_alloc | apply Kd.R_drewN | apply Kd.R_drew)); exact HO50009.out))) (below_size (by repeat (first | (with_reducible first | exact HB.out | apply below_alloc | apply pw_below_drewN | apply below_drew1 | refine below_set ?_ GE50001.out) | exact HB.out)))); have n4_ := Aside0.mk (blk_below (g := gb50001) (o := .cells #[.int .i64 a0_0, .slice A0_1 l0_1.length c0_1, .slice A0_2 l0_2.length c0_2] 24 (0, 0)) (by (with_reducible repeat (first | refine blk_drewN ?_ _ | refine blk_drew ?_ | refine blk_alloc ?_ _)); exact BK50001.out) hb); have n5_ := Aside0.mk (below_step (by repeat (first | (with_reducible first | exact HB.out | apply below_alloc | apply pw_below_drewN | apply below_drew1 | refine below_set ?_ GE50001.out) | exact HB.out)) hb); clear HO50006; clear HO50009; clear BK50001; clear HB; have HO50006 := n0_; have HO50009 := n1_; have HO50013 := n2_; have HO50016 := n3_; have BK50001 := n4_; have HB := n5_; clear n0_ n1_ n2_ n3_ n4_ n5_; (try clear hb); (try clear hb2); (try clear hk); (try clear hi); (try clear ho0); (try clear ho1)) | ((with_reducible refine gate_dst (N := 8) rfl ?_); refine box_event ?hg (N := 8) ?hd (cs := #[.int .i64 0, .slice none 0 0, .slice none 0 0]) (t := 29) ?hr ?_; (case hd => rfl); (case hg => rfl); (case hr => first | (go_simp; done) | (go_simp; rfl)); intro gb50018 hg w22 hbox hb; have n0_ := Aside0.mk (Kd.R_below (by (with_reducible repeat (first | apply Kd.R_alloc | apply Kd.R_drewN | apply Kd.R_drew)); exact HO50006.out) hb); have n1_ := Aside0.mk (Kd.R_below (by (with_reducible repeat (first | apply Kd.R_alloc | apply Kd.R_drewN | apply Kd.R_drew)); exact HO50009.out) hb); have n2_ := Aside0.mk (Kd.R_below (by (with_reducible repeat (first | apply Kd.R_alloc | apply Kd.R_drewN | apply Kd.R_drew)); exact HO50013.out) hb); have n3_ := Aside0.mk (Kd.R_below (by (with_reducible repeat (first | apply Kd.R_alloc | apply Kd.R_drewN | apply Kd.R_drew)); exact HO50016.out) hb); have n4_ := Aside0.mk (blk_below (g := gb50001) (o := .cells #[.int .i64 a0_0, .slice A0_1 l0_1.length c0_1, .slice A0_2 l0_2.length c0_2] 24 (0, 0)) (by (with_reducible repeat (first | refine blk_drewN ?_ _ | refine blk_drew ?_ | refine blk_alloc ?_ _)); exact BK50001.out) hb); have n5_ := Aside0.mk (below_step (by repeat (first | (with_reducible first | exact HB.out | apply below_alloc | apply pw_below_drewN | apply below_drew1 | refine below_set ?_ GE50001.out) | exact HB.out)) hb); have n6_ := Aside0.mk (hbox); have n7_ := Aside0.mk ((by rw [hg]; exact (below_size (by repeat (first | (with_reducible first | exact HB.out | apply below_alloc | apply pw_below_drewN | apply below_drew1 | refine below_set ?_ GE50001.out) | exact HB.out))) : w.heap.size ≤ gb50018)); have n8_ := Aside0.mk ((by rw [hg]; exact (below_size (by repeat (first | (with_reducible first | exact HB.out | apply below_alloc | apply pw_below_drewN | apply below_drew1 | refine below_set ?_ GE50001.out) | exact HB.out))) : w.heap.size ≤ gb50018)); have n9_ := Aside0.mk ((by rw [hg]; exact Nat.ne_of_lt (blk_lt (g := gb50001) (o := .cells #[.int .i64 a0_0, .slice A0_1 l0_1.length c0_1, .slice A0_2 l0_2.length c0_2] 24 (0, 0)) (by (with_reducible repeat (first | refine blk_drewN ?_ _ | refine blk_drew ?_ | refine blk_alloc ?_ _)); exact BK50001.out)) : gb50001 ≠ gb50018)); have n10_ := Aside0.mk ((by rw [hg]; exact Nat.ne_of_gt (blk_lt (g := gb50001) (o := .cells #[.int .i64 a0_0, .slice A0_1 l0_1.length c0_1, .slice A0_2 l0_2.length c0_2] 24 (0, 0)) (by (with_reducible repeat (first | refine blk_drewN ?_ _ | refine blk_drew ?_ | refine blk_alloc ?_ _)); exact BK50001.out)) : gb50018 ≠ gb50001)); clear HO50006; clear HO50009; clear HO50013; clear HO50016; clear BK50001; clear HB; have HO50006 := n0_; have HO50009 := n1_; have HO50013 := n2_; have HO50016 := n3_; have BK50001 := n4_; have HB := n5_; have BK50018 := n6_; have GW50018 := n7_; have GE50018 := n8_; have NB50001_50018 := n9_; have NB50018_50001 := n10_; clear n0_ n1_ n2_ n3_ n4_ n5_ n6_ n7_ n8_ n9_ n10_; clear hb hbox hg; have hnb23 := NB50018_50001.out; have hnc23 := NB50001_50018.out; have hcz24_0 : w22.cell? ⟨gb50018, 0, none⟩ = some (.int .i64 0) := (blk_cell BK50018.out 0).trans rfl; have hcz24_1 : w22.cell? ⟨gb50018, 1, none⟩ = some (.slice none 0 0) := (blk_cell BK50018.out 1).trans rfl; have hcz24_2 : w22.cell? ⟨gb50018, 2, none⟩ = some (.slice none 0 0) := (blk_cell BK50018.out 2).trans rfl; have hfz24_0 := blk_frozen BK50018.out 0; have hfz24_1 := blk_frozen BK50018.out 1; have hfz24_2 := blk_frozen BK50018.out 2; obtain ⟨Ao25, co25, eo25⟩ := Kd.R_slice HO50013.out; subst eo25; obtain ⟨Ao26, co26, eo26⟩ := Kd.R_slice HO50016.out; subst eo26; have hcz27_0 : w22.cell? ⟨gb50001, 0, none⟩ = some (.int .i64 a0_0) := (blk_cell BK50001.out 0).trans rfl; have hcz27_1 : w22.cell? ⟨gb50001, 1, none⟩ = some (.slice A0_1 l0_1.length c0_1) := (blk_cell BK50001.out 1).trans rfl; have hcz27_2 : w22.cell? ⟨gb50001, 2, none⟩ = some (.slice A0_2 l0_2.length c0_2) := (blk_cell BK50001.out 2).trans rfl; have hfz27_0 := blk_frozen BK50001.out 0; have hfz27_1 := blk_frozen BK50001.out 1; have hfz27_2 := blk_frozen BK50001.out 2) | ((with_reducible refine gate_callee (f := 17) rfl ?_); refine goesL_ (some 32) rfl rfl Try.func17 (by kernel_rfl) rfl #[.agg #[.int .i64 a0_0, .slice A0_1 l0_1.length c0_1, .slice A0_2 l0_2.length c0_2]] rfl (by (try simp only [List.map_toArray, List.map_cons, List.map_nil]); first | done | rfl | (simp only [List.length_drop, List.length_take]; rfl)) ?_; (with_reducible refine (laws_toLock.calls k a0_0 _ _ l0_1 _ _ l0_2 t50019 t50020 t50023 _ ?side1 ?side2 ?side3 ?side4 A11.out).mono ?_); (case side1 => exact Kd.C_below HR0_1.out (by repeat (first | (with_reducible first | exact HB.out | apply below_alloc | apply pw_below_drewN | apply below_drew1 | refine below_set ?_ GE50001.out | refine below_set ?_ GE50018.out) | exact HB.out))); (case side2 => exact HC0_1.out); (case side3 => exact Kd.C_below HR0_2.out (by repeat (first | (with_reducible first | exact HB.out | apply below_alloc | apply pw_below_drewN | apply below_drew1 | refine below_set ?_ GE50001.out | refine below_set ?_ GE50018.out) | exact HB.out))); (case side4 => exact HC0_2.out); rintro e w28 ⟨v50021, v50024, rfl, ho0, ho1, hb⟩; refine ⟨_, rfl, ?_⟩; have n0_ := Aside0.mk (Kd.R_mono (Kd.R_told (Kd.R_told (Kd.R_old (by (with_reducible repeat (first | apply Kd.R_alloc | apply Kd.R_drewN | apply Kd.R_drew)); exact (Kd.R_mono (Kd.R_far (p := ⟨gb50018, 2, none⟩) (Kd.R_far (p := ⟨gb50018, 1, none⟩) (Kd.R_far (p := ⟨gb50018, 0, none⟩) (Kd.R_types HO50006.out BK50018.out (by decide)) (fun _ hk => hk.2) (.int .i64 t50010)) (fun _ hk => hk.2) (.slice Ao25 t50011.length co25)) (fun _ hk => hk.2) (.slice Ao26 t50014.length co26)) (fun _ h_ => h_.1))) hb) (Kd.R_base ho0)) (Kd.R_base ho1)) (fun _ h_ => h_.1)); have n1_ := Aside0.mk (Kd.R_mono (Kd.R_told (Kd.R_told (Kd.R_old (by (with_reducible repeat (first | apply Kd.R_alloc | apply Kd.R_drewN | apply Kd.R_drew)); exact (Kd.R_mono (Kd.R_far (p := ⟨gb50018, 2, none⟩) (Kd.R_far (p := ⟨gb50018, 1, none⟩) (Kd.R_far (p := ⟨gb50018, 0, none⟩) (Kd.R_types HO50009.out BK50018.out (by decide)) (fun _ hk => hk.2) (.int .i64 t50010)) (fun _ hk => hk.2) (.slice Ao25 t50011.length co25)) (fun _ hk => hk.2) (.slice Ao26 t50014.length co26)) (fun _ h_ => h_.1))) hb) (Kd.R_base ho0)) (Kd.R_base ho1)) (fun _ h_ => h_.1)); have n2_ := Aside0.mk (Kd.R_mono (Kd.R_told (Kd.R_told (Kd.R_old (by (with_reducible repeat (first | apply Kd.R_alloc | apply Kd.R_drewN | apply Kd.R_drew)); exact (Kd.R_mono (Kd.R_far (p := ⟨gb50018, 2, none⟩) (Kd.R_far (p := ⟨gb50018, 1, none⟩) (Kd.R_far (p := ⟨gb50018, 0, none⟩) (Kd.R_types HO50013.out BK50018.out (by decide)) (fun _ hk => hk.2) (.int .i64 t50010)) (fun _ hk => hk.2) (.slice Ao25 t50011.length co25)) (fun _ hk => hk.2) (.slice Ao26 t50014.length co26)) (fun _ h_ => h_.1))) hb) (Kd.R_base ho0)) (Kd.R_base ho1)) (fun _ h_ => h_.1)); have n3_ := Aside0.mk (Kd.R_mono (Kd.R_told (Kd.R_told (Kd.R_old (by (with_reducible repeat (first | apply Kd.R_alloc | apply Kd.R_drewN | apply Kd.R_drew)); exact (Kd.R_mono (Kd.R_far (p := ⟨gb50018, 2, none⟩) (Kd.R_far (p := ⟨gb50018, 1, none⟩) (Kd.R_far (p := ⟨gb50018, 0, none⟩) (Kd.R_types HO50016.out BK50018.out (by decide)) (fun _ hk => hk.2) (.int .i64 t50010)) (fun _ hk => hk.2) (.slice Ao25 t50011.length co25)) (fun _ hk => hk.2) (.slice Ao26 t50014.length co26)) (fun _ h_ => h_.1))) hb) (Kd.R_base ho0)) (Kd.R_base ho1)) (fun _ h_ => h_.1)); have n4_ := Aside0.mk (Kd.R_lower (Kd.R_new' (Kd.R_new' (Kd.R_new' (Kd.R_new' ho0 (Kd.R_lt (by (with_reducible repeat (first | apply Kd.R_alloc | apply Kd.R_drewN | apply Kd.R_drew)); exact (Kd.R_mono (Kd.R_far (p := ⟨gb50018, 2, none⟩) (Kd.R_far (p := ⟨gb50018, 1, none⟩) (Kd.R_far (p := ⟨gb50018, 0, none⟩) (Kd.R_types HO50006.out BK50018.out (by decide)) (fun _ hk => hk.2) (.int .i64 t50010)) (fun _ hk => hk.2) (.slice Ao25 t50011.length co25)) (fun _ hk => hk.2) (.slice Ao26 t50014.length co26)) (fun _ h_ => h_.1))))) (Kd.R_lt (by (with_reducible repeat (first | apply Kd.R_alloc | apply Kd.R_drewN | apply Kd.R_drew)); exact (Kd.R_mono (Kd.R_far (p := ⟨gb50018, 2, none⟩) (Kd.R_far (p := ⟨gb50018, 1, none⟩) (Kd.R_far (p := ⟨gb50018, 0, none⟩) (Kd.R_types HO50009.out BK50018.out (by decide)) (fun _ hk => hk.2) (.int .i64 t50010)) (fun _ hk => hk.2) (.slice Ao25 t50011.length co25)) (fun _ hk => hk.2) (.slice Ao26 t50014.length co26)) (fun _ h_ => h_.1))))) (Kd.R_lt (by (with_reducible repeat (first | apply Kd.R_alloc | apply Kd.R_drewN | apply Kd.R_drew)); exact (Kd.R_mono (Kd.R_far (p := ⟨gb50018, 2, none⟩) (Kd.R_far (p := ⟨gb50018, 1, none⟩) (Kd.R_far (p := ⟨gb50018, 0, none⟩) (Kd.R_types HO50013.out BK50018.out (by decide)) (fun _ hk => hk.2) (.int .i64 t50010)) (fun _ hk => hk.2) (.slice Ao25 t50011.length co25)) (fun _ hk => hk.2) (.slice Ao26 t50014.length co26)) (fun _ h_ => h_.1))))) (Kd.R_lt (by (with_reducible repeat (first | apply Kd.R_alloc | apply Kd.R_drewN | apply Kd.R_drew)); exact (Kd.R_mono (Kd.R_far (p := ⟨gb50018, 2, none⟩) (Kd.R_far (p := ⟨gb50018, 1, none⟩) (Kd.R_far (p := ⟨gb50018, 0, none⟩) (Kd.R_types HO50016.out BK50018.out (by decide)) (fun _ hk => hk.2) (.int .i64 t50010)) (fun _ hk => hk.2) (.slice Ao25 t50011.length co25)) (fun _ hk => hk.2) (.slice Ao26 t50014.length co26)) (fun _ h_ => h_.1))))) (below_size (by repeat (first | (with_reducible first | exact HB.out | apply below_alloc | apply pw_below_drewN | apply below_drew1 | refine below_set ?_ GE50001.out | refine below_set ?_ GE50018.out) | exact HB.out)))); have n5_ := Aside0.mk (Kd.R_lower (Kd.R_new' (Kd.R_new' (Kd.R_new' (Kd.R_new' ho1 (Kd.R_lt (by (with_reducible repeat (first | apply Kd.R_alloc | apply Kd.R_drewN | apply Kd.R_drew)); exact (Kd.R_mono (Kd.R_far (p := ⟨gb50018, 2, none⟩) (Kd.R_far (p := ⟨gb50018, 1, none⟩) (Kd.R_far (p := ⟨gb50018, 0, none⟩) (Kd.R_types HO50006.out BK50018.out (by decide)) (fun _ hk => hk.2) (.int .i64 t50010)) (fun _ hk => hk.2) (.slice Ao25 t50011.length co25)) (fun _ hk => hk.2) (.slice Ao26 t50014.length co26)) (fun _ h_ => h_.1))))) (Kd.R_lt (by (with_reducible repeat (first | apply Kd.R_alloc | apply Kd.R_drewN | apply Kd.R_drew)); exact (Kd.R_mono (Kd.R_far (p := ⟨gb50018, 2, none⟩) (Kd.R_far (p := ⟨gb50018, 1, none⟩) (Kd.R_far (p := ⟨gb50018, 0, none⟩) (Kd.R_types HO50009.out BK50018.out (by decide)) (fun _ hk => hk.2) (.int .i64 t50010)) (fun _ hk => hk.2) (.slice Ao25 t50011.length co25)) (fun _ hk => hk.2) (.slice Ao26 t50014.length co26)) (fun _ h_ => h_.1))))) (Kd.R_lt (by (with_reducible repeat (first | apply Kd.R_alloc | apply Kd.R_drewN | apply Kd.R_drew)); exact (Kd.R_mono (Kd.R_far (p := ⟨gb50018, 2, none⟩) (Kd.R_far (p := ⟨gb50018, 1, none⟩) (Kd.R_far (p := ⟨gb50018, 0, none⟩) (Kd.R_types HO50013.out BK50018.out (by decide)) (fun _ hk => hk.2) (.int .i64 t50010)) (fun _ hk => hk.2) (.slice Ao25 t50011.length co25)) (fun _ hk => hk.2) (.slice Ao26 t50014.length co26)) (fun _ h_ => h_.1))))) (Kd.R_lt (by (with_reducible repeat (first | apply Kd.R_alloc | apply Kd.R_drewN | apply Kd.R_drew)); exact (Kd.R_mono (Kd.R_far (p := ⟨gb50018, 2, none⟩) (Kd.R_far (p := ⟨gb50018, 1, none⟩) (Kd.R_far (p := ⟨gb50018, 0, none⟩) (Kd.R_types HO50016.out BK50018.out (by decide)) (fun _ hk => hk.2) (.int .i64 t50010)) (fun _ hk => hk.2) (.slice Ao25 t50011.length co25)) (fun _ hk => hk.2) (.slice Ao26 t50014.length co26)) (fun _ h_ => h_.1))))) (below_size (by repeat (first | (with_reducible first | exact HB.out | apply below_alloc | apply pw_below_drewN | apply below_drew1 | refine below_set ?_ GE50001.out | refine below_set ?_ GE50018.out) | exact HB.out)))); have n6_ := Aside0.mk (blk_below (g := gb50001) (o := .cells #[.int .i64 a0_0, .slice A0_1 l0_1.length c0_1, .slice A0_2 l0_2.length c0_2] 24 (0, 0)) (by (with_reducible repeat (first | refine blk_drewN ?_ _ | refine blk_drew ?_ | refine blk_alloc ?_ _)); refine blk_far ?_ NB50001_50018.out _; (with_reducible repeat (first | refine blk_drewN ?_ _ | refine blk_drew ?_ | refine blk_alloc ?_ _)); refine blk_far ?_ NB50001_50018.out _; (with_reducible repeat (first | refine blk_drewN ?_ _ | refine blk_drew ?_ | refine blk_alloc ?_ _)); refine blk_far ?_ NB50001_50018.out _; (with_reducible repeat (first | refine blk_drewN ?_ _ | refine blk_drew ?_ | refine blk_alloc ?_ _)); exact BK50001.out) hb); have n7_ := Aside0.mk (blk_below (g := gb50018) (o := .cells #[.int .i64 t50010, .slice Ao25 t50011.length co25, .slice Ao26 t50014.length co26] 29 (0, 0)) (by (with_reducible repeat (first | refine blk_drewN ?_ _ | refine blk_drew ?_ | refine blk_alloc ?_ _)); refine blk_put (cs := #[.int .i64 t50010, .slice Ao25 t50011.length co25, .slice none 0 0]) ?_ 2 _ rfl; (with_reducible repeat (first | refine blk_drewN ?_ _ | refine blk_drew ?_ | refine blk_alloc ?_ _)); refine blk_put (cs := #[.int .i64 t50010, .slice none 0 0, .slice none 0 0]) ?_ 1 _ rfl; (with_reducible repeat (first | refine blk_drewN ?_ _ | refine blk_drew ?_ | refine blk_alloc ?_ _)); refine blk_put (cs := #[.int .i64 0, .slice none 0 0, .slice none 0 0]) ?_ 0 _ rfl; (with_reducible repeat (first | refine blk_drewN ?_ _ | refine blk_drew ?_ | refine blk_alloc ?_ _)); exact BK50018.out) hb); have n8_ := Aside0.mk (below_step (by repeat (first | (with_reducible first | exact HB.out | apply below_alloc | apply pw_below_drewN | apply below_drew1 | refine below_set ?_ GE50001.out | refine below_set ?_ GE50018.out) | exact HB.out)) hb); clear HO50006; clear HO50009; clear HO50013; clear HO50016; clear BK50001; clear BK50018; clear HB; have HO50006 := n0_; have HO50009 := n1_; have HO50013 := n2_; have HO50016 := n3_; have HO50022 := n4_; have HO50025 := n5_; have BK50001 := n6_; have BK50018 := n7_; have HB := n8_; clear n0_ n1_ n2_ n3_ n4_ n5_ n6_ n7_ n8_; (try clear hb); (try clear hb2); (try clear hk); (try clear hi); (try clear ho0); (try clear ho1)) | ((with_reducible refine gate_dst (N := 10) rfl ?_); refine box_event ?hg (N := 10) ?hd (cs := #[.int .i64 0, .slice none 0 0, .slice none 0 0]) (t := 29) ?hr ?_; (case hd => rfl); (case hg => rfl); (case hr => first | (go_simp; done) | (go_simp; rfl)); intro gb50026 hg w29 hbox hb; have n0_ := Aside0.mk (Kd.R_below (by (with_reducible repeat (first | apply Kd.R_alloc | apply Kd.R_drewN | apply Kd.R_drew)); exact HO50006.out) hb); have n1_ := Aside0.mk (Kd.R_below (by (with_reducible repeat (first | apply Kd.R_alloc | apply Kd.R_drewN | apply Kd.R_drew)); exact HO50009.out) hb); have n2_ := Aside0.mk (Kd.R_below (by (with_reducible repeat (first | apply Kd.R_alloc | apply Kd.R_drewN | apply Kd.R_drew)); exact HO50013.out) hb); have n3_ := Aside0.mk (Kd.R_below (by (with_reducible repeat (first | apply Kd.R_alloc | apply Kd.R_drewN | apply Kd.R_drew)); exact HO50016.out) hb); have n4_ := Aside0.mk (Kd.R_below (by (with_reducible repeat (first | apply Kd.R_alloc | apply Kd.R_drewN | apply Kd.R_drew)); exact HO50022.out) hb); have n5_ := Aside0.mk (Kd.R_below (by (with_reducible repeat (first | apply Kd.R_alloc | apply Kd.R_drewN | apply Kd.R_drew)); exact HO50025.out) hb); have n6_ := Aside0.mk (blk_below (g := gb50001) (o := .cells #[.int .i64 a0_0, .slice A0_1 l0_1.length c0_1, .slice A0_2 l0_2.length c0_2] 24 (0, 0)) (by (with_reducible repeat (first | refine blk_drewN ?_ _ | refine blk_drew ?_ | refine blk_alloc ?_ _)); exact BK50001.out) hb); have n7_ := Aside0.mk (blk_below (g := gb50018) (o := .cells #[.int .i64 t50010, .slice Ao25 t50011.length co25, .slice Ao26 t50014.length co26] 29 (0, 0)) (by (with_reducible repeat (first | refine blk_drewN ?_ _ | refine blk_drew ?_ | refine blk_alloc ?_ _)); exact BK50018.out) hb); have n8_ := Aside0.mk (below_step (by repeat (first | (with_reducible first | exact HB.out | apply below_alloc | apply pw_below_drewN | apply below_drew1 | refine below_set ?_ GE50001.out | refine below_set ?_ GE50018.out) | exact HB.out)) hb); have n9_ := Aside0.mk (hbox); have n10_ := Aside0.mk ((by rw [hg]; exact (below_size (by repeat (first | (with_reducible first | exact HB.out | apply below_alloc | apply pw_below_drewN | apply below_drew1 | refine below_set ?_ GE50001.out | refine below_set ?_ GE50018.out) | exact HB.out))) : w.heap.size ≤ gb50026)); have n11_ := Aside0.mk ((by rw [hg]; exact (below_size (by repeat (first | (with_reducible first | exact HB.out | apply below_alloc | apply pw_below_drewN | apply below_drew1 | refine below_set ?_ GE50001.out | refine below_set ?_ GE50018.out) | exact HB.out))) : w.heap.size ≤ gb50026)); have n12_ := Aside0.mk ((by rw [hg]; exact Nat.ne_of_lt (blk_lt (g := gb50001) (o := .cells #[.int .i64 a0_0, .slice A0_1 l0_1.length c0_1, .slice A0_2 l0_2.length c0_2] 24 (0, 0)) (by (with_reducible repeat (first | refine blk_drewN ?_ _ | refine blk_drew ?_ | refine blk_alloc ?_ _)); exact BK50001.out)) : gb50001 ≠ gb50026)); have n13_ := Aside0.mk ((by rw [hg]; exact Nat.ne_of_gt (blk_lt (g := gb50001) (o := .cells #[.int .i64 a0_0, .slice A0_1 l0_1.length c0_1, .slice A0_2 l0_2.length c0_2] 24 (0, 0)) (by (with_reducible repeat (first | refine blk_drewN ?_ _ | refine blk_drew ?_ | refine blk_alloc ?_ _)); exact BK50001.out)) : gb50026 ≠ gb50001)); have n14_ := Aside0.mk ((by rw [hg]; exact Nat.ne_of_lt (blk_lt (g := gb50018) (o := .cells #[.int .i64 t50010, .slice Ao25 t50011.length co25, .slice Ao26 t50014.length co26] 29 (0, 0)) (by (with_reducible repeat (first | refine blk_drewN ?_ _ | refine blk_drew ?_ | refine blk_alloc ?_ _)); exact BK50018.out)) : gb50018 ≠ gb50026)); have n15_ := Aside0.mk ((by rw [hg]; exact Nat.ne_of_gt (blk_lt (g := gb50018) (o := .cells #[.int .i64 t50010, .slice Ao25 t50011.length co25, .slice Ao26 t50014.length co26] 29 (0, 0)) (by (with_reducible repeat (first | refine blk_drewN ?_ _ | refine blk_drew ?_ | refine blk_alloc ?_ _)); exact BK50018.out)) : gb50026 ≠ gb50018)); clear HO50006; clear HO50009; clear HO50013; clear HO50016; clear HO50022; clear HO50025; clear BK50001; clear BK50018; clear HB; have HO50006 := n0_; have HO50009 := n1_; have HO50013 := n2_; have HO50016 := n3_; have HO50022 := n4_; have HO50025 := n5_; have BK50001 := n6_; have BK50018 := n7_; have HB := n8_; have BK50026 := n9_; have GW50026 := n10_; have GE50026 := n11_; have NB50001_50026 := n12_; have NB50026_50001 := n13_; have NB50018_50026 := n14_; have NB50026_50018 := n15_; clear n0_ n1_ n2_ n3_ n4_ n5_ n6_ n7_ n8_ n9_ n10_ n11_ n12_ n13_ n14_ n15_; clear hb hbox hg; have hnb30 := NB50026_50001.out; have hnc30 := NB50001_50026.out; have hnb31 := NB50026_50018.out; have hnc31 := NB50018_50026.out; have hcz32_0 : w29.cell? ⟨gb50026, 0, none⟩ = some (.int .i64 0) := (blk_cell BK50026.out 0).trans rfl; have hcz32_1 : w29.cell? ⟨gb50026, 1, none⟩ = some (.slice none 0 0) := (blk_cell BK50026.out 1).trans rfl; have hcz32_2 : w29.cell? ⟨gb50026, 2, none⟩ = some (.slice none 0 0) := (blk_cell BK50026.out 2).trans rfl; have hfz32_0 := blk_frozen BK50026.out 0; have hfz32_1 := blk_frozen BK50026.out 1; have hfz32_2 := blk_frozen BK50026.out 2; obtain ⟨Ao33, co33, eo33⟩ := Kd.R_slice HO50022.out; subst eo33; obtain ⟨Ao34, co34, eo34⟩ := Kd.R_slice HO50025.out; subst eo34) | ((with_reducible refine gate_callee (f := 21) rfl ?_); refine goesL_ (some 37) rfl rfl Try.func21 (by kernel_rfl) rfl #[.agg #[.int .i64 t50019, .slice Ao33 t50020.length co33, .slice Ao34 t50023.length co34], .int .i64 a1, .int .i64 a2] rfl (by (try simp only [List.map_toArray, List.map_cons, List.map_nil]); first | done | rfl | (simp only [List.length_drop, List.length_take]; rfl)) ?_; (with_reducible refine (impl_LockFirm.calls t50019 _ _ t50020 _ _ t50023 a1 a2 t50027 t50028 t50031 t50034 _ ?side1 ?side2 ?side3 ?side4 A12.out).mono ?_); (case side1 => refine (Kd.R_reads' (e := 45) (base := w.heap.size) (ok := fun k_ => ((((some k_ ≠ (.slice Ao34 t50023.length co34 : Value).ownBlock ∧ some k_ ≠ (.slice Ao19 t50004.length co19 : Value).ownBlock) ∧ some k_ ≠ (.slice Ao20 t50007.length co20 : Value).ownBlock) ∧ some k_ ≠ (.slice Ao25 t50011.length co25 : Value).ownBlock) ∧ some k_ ≠ (.slice Ao26 t50014.length co26 : Value).ownBlock)) (n := t50020.length) (c := co33) ?_).2.2; exact (by (with_reducible repeat (first | apply Kd.R_alloc | apply Kd.R_drewN | apply Kd.R_drew)); exact (Kd.R_mono (Kd.R_far (p := ⟨gb50026, 2, none⟩) (Kd.R_far (p := ⟨gb50026, 1, none⟩) (Kd.R_far (p := ⟨gb50026, 0, none⟩) (Kd.R_types HO50022.out BK50026.out (by decide)) (fun _ hk => hk.2) (.int .i64 t50019)) (fun _ hk => hk.2) (.slice Ao33 t50020.length co33)) (fun _ hk => hk.2) (.slice Ao34 t50023.length co34)) (fun _ h_ => h_.1)))); (case side2 => exact (Kd.R_reads' HO50022.out).2.1); (case side3 => refine (Kd.R_reads' (e := 45) (base := w.heap.size) (ok := fun k_ => ((((some k_ ≠ (.slice Ao33 t50020.length co33 : Value).ownBlock ∧ some k_ ≠ (.slice Ao19 t50004.length co19 : Value).ownBlock) ∧ some k_ ≠ (.slice Ao20 t50007.length co20 : Value).ownBlock) ∧ some k_ ≠ (.slice Ao25 t50011.length co25 : Value).ownBlock) ∧ some k_ ≠ (.slice Ao26 t50014.length co26 : Value).ownBlock)) (n := t50023.length) (c := co34) ?_).2.2; exact (by (with_reducible repeat (first | apply Kd.R_alloc | apply Kd.R_drewN | apply Kd.R_drew)); exact (Kd.R_mono (Kd.R_far (p := ⟨gb50026, 2, none⟩) (Kd.R_far (p := ⟨gb50026, 1, none⟩) (Kd.R_far (p := ⟨gb50026, 0, none⟩) (Kd.R_types HO50025.out BK50026.out (by decide)) (fun _ hk => hk.2) (.int .i64 t50019)) (fun _ hk => hk.2) (.slice Ao33 t50020.length co33)) (fun _ hk => hk.2) (.slice Ao34 t50023.length co34)) (fun _ h_ => h_.1)))); (case side4 => exact (Kd.R_reads' HO50025.out).2.1); rintro e w35 ⟨v50029, v50032, rfl, ho0, ho1, hb⟩; refine ⟨_, rfl, ?_⟩; have n0_ := Aside0.mk (Kd.R_mono (Kd.R_told (Kd.R_told (Kd.R_old (by (with_reducible repeat (first | apply Kd.R_alloc | apply Kd.R_drewN | apply Kd.R_drew)); exact (Kd.R_mono (Kd.R_far (p := ⟨gb50026, 2, none⟩) (Kd.R_far (p := ⟨gb50026, 1, none⟩) (Kd.R_far (p := ⟨gb50026, 0, none⟩) (Kd.R_types HO50006.out BK50026.out (by decide)) (fun _ hk => hk.2) (.int .i64 t50019)) (fun _ hk => hk.2) (.slice Ao33 t50020.length co33)) (fun _ hk => hk.2) (.slice Ao34 t50023.length co34)) (fun _ h_ => h_.1))) hb) (Kd.R_base ho0)) (Kd.R_base ho1)) (fun _ h_ => h_.1)); have n1_ := Aside0.mk (Kd.R_mono (Kd.R_told (Kd.R_told (Kd.R_old (by (with_reducible repeat (first | apply Kd.R_alloc | apply Kd.R_drewN | apply Kd.R_drew)); exact (Kd.R_mono (Kd.R_far (p := ⟨gb50026, 2, none⟩) (Kd.R_far (p := ⟨gb50026, 1, none⟩) (Kd.R_far (p := ⟨gb50026, 0, none⟩) (Kd.R_types HO50009.out BK50026.out (by decide)) (fun _ hk => hk.2) (.int .i64 t50019)) (fun _ hk => hk.2) (.slice Ao33 t50020.length co33)) (fun _ hk => hk.2) (.slice Ao34 t50023.length co34)) (fun _ h_ => h_.1))) hb) (Kd.R_base ho0)) (Kd.R_base ho1)) (fun _ h_ => h_.1)); have n2_ := Aside0.mk (Kd.R_mono (Kd.R_told (Kd.R_told (Kd.R_old (by (with_reducible repeat (first | apply Kd.R_alloc | apply Kd.R_drewN | apply Kd.R_drew)); exact (Kd.R_mono (Kd.R_far (p := ⟨gb50026, 2, none⟩) (Kd.R_far (p := ⟨gb50026, 1, none⟩) (Kd.R_far (p := ⟨gb50026, 0, none⟩) (Kd.R_types HO50013.out BK50026.out (by decide)) (fun _ hk => hk.2) (.int .i64 t50019)) (fun _ hk => hk.2) (.slice Ao33 t50020.length co33)) (fun _ hk => hk.2) (.slice Ao34 t50023.length co34)) (fun _ h_ => h_.1))) hb) (Kd.R_base ho0)) (Kd.R_base ho1)) (fun _ h_ => h_.1)); have n3_ := Aside0.mk (Kd.R_mono (Kd.R_told (Kd.R_told (Kd.R_old (by (with_reducible repeat (first | apply Kd.R_alloc | apply Kd.R_drewN | apply Kd.R_drew)); exact (Kd.R_mono (Kd.R_far (p := ⟨gb50026, 2, none⟩) (Kd.R_far (p := ⟨gb50026, 1, none⟩) (Kd.R_far (p := ⟨gb50026, 0, none⟩) (Kd.R_types HO50016.out BK50026.out (by decide)) (fun _ hk => hk.2) (.int .i64 t50019)) (fun _ hk => hk.2) (.slice Ao33 t50020.length co33)) (fun _ hk => hk.2) (.slice Ao34 t50023.length co34)) (fun _ h_ => h_.1))) hb) (Kd.R_base ho0)) (Kd.R_base ho1)) (fun _ h_ => h_.1)); have n4_ := Aside0.mk (Kd.R_mono (Kd.R_told (Kd.R_told (Kd.R_old (by (with_reducible repeat (first | apply Kd.R_alloc | apply Kd.R_drewN | apply Kd.R_drew)); exact (Kd.R_mono (Kd.R_far (p := ⟨gb50026, 2, none⟩) (Kd.R_far (p := ⟨gb50026, 1, none⟩) (Kd.R_far (p := ⟨gb50026, 0, none⟩) (Kd.R_types HO50022.out BK50026.out (by decide)) (fun _ hk => hk.2) (.int .i64 t50019)) (fun _ hk => hk.2) (.slice Ao33 t50020.length co33)) (fun _ hk => hk.2) (.slice Ao34 t50023.length co34)) (fun _ h_ => h_.1))) hb) (Kd.R_base ho0)) (Kd.R_base ho1)) (fun _ h_ => h_.1)); have n5_ := Aside0.mk (Kd.R_mono (Kd.R_told (Kd.R_told (Kd.R_old (by (with_reducible repeat (first | apply Kd.R_alloc | apply Kd.R_drewN | apply Kd.R_drew)); exact (Kd.R_mono (Kd.R_far (p := ⟨gb50026, 2, none⟩) (Kd.R_far (p := ⟨gb50026, 1, none⟩) (Kd.R_far (p := ⟨gb50026, 0, none⟩) (Kd.R_types HO50025.out BK50026.out (by decide)) (fun _ hk => hk.2) (.int .i64 t50019)) (fun _ hk => hk.2) (.slice Ao33 t50020.length co33)) (fun _ hk => hk.2) (.slice Ao34 t50023.length co34)) (fun _ h_ => h_.1))) hb) (Kd.R_base ho0)) (Kd.R_base ho1)) (fun _ h_ => h_.1)); have n6_ := Aside0.mk (Kd.R_lower (Kd.R_new' (Kd.R_new' (Kd.R_new' (Kd.R_new' (Kd.R_new' (Kd.R_new' ho0 (Kd.R_lt (by (with_reducible repeat (first | apply Kd.R_alloc | apply Kd.R_drewN | apply Kd.R_drew)); exact (Kd.R_mono (Kd.R_far (p := ⟨gb50026, 2, none⟩) (Kd.R_far (p := ⟨gb50026, 1, none⟩) (Kd.R_far (p := ⟨gb50026, 0, none⟩) (Kd.R_types HO50006.out BK50026.out (by decide)) (fun _ hk => hk.2) (.int .i64 t50019)) (fun _ hk => hk.2) (.slice Ao33 t50020.length co33)) (fun _ hk => hk.2) (.slice Ao34 t50023.length co34)) (fun _ h_ => h_.1))))) (Kd.R_lt (by (with_reducible repeat (first | apply Kd.R_alloc | apply Kd.R_drewN | apply Kd.R_drew)); exact (Kd.R_mono (Kd.R_far (p := ⟨gb50026, 2, none⟩) (Kd.R_far (p := ⟨gb50026, 1, none⟩) (Kd.R_far (p := ⟨gb50026, 0, none⟩) (Kd.R_types HO50009.out BK50026.out (by decide)) (fun _ hk => hk.2) (.int .i64 t50019)) (fun _ hk => hk.2) (.slice Ao33 t50020.length co33)) (fun _ hk => hk.2) (.slice Ao34 t50023.length co34)) (fun _ h_ => h_.1))))) (Kd.R_lt (by (with_reducible repeat (first | apply Kd.R_alloc | apply Kd.R_drewN | apply Kd.R_drew)); exact (Kd.R_mono (Kd.R_far (p := ⟨gb50026, 2, none⟩) (Kd.R_far (p := ⟨gb50026, 1, none⟩) (Kd.R_far (p := ⟨gb50026, 0, none⟩) (Kd.R_types HO50013.out BK50026.out (by decide)) (fun _ hk => hk.2) (.int .i64 t50019)) (fun _ hk => hk.2) (.slice Ao33 t50020.length co33)) (fun _ hk => hk.2) (.slice Ao34 t50023.length co34)) (fun _ h_ => h_.1))))) (Kd.R_lt (by (with_reducible repeat (first | apply Kd.R_alloc | apply Kd.R_drewN | apply Kd.R_drew)); exact (Kd.R_mono (Kd.R_far (p := ⟨gb50026, 2, none⟩) (Kd.R_far (p := ⟨gb50026, 1, none⟩) (Kd.R_far (p := ⟨gb50026, 0, none⟩) (Kd.R_types HO50016.out BK50026.out (by decide)) (fun _ hk => hk.2) (.int .i64 t50019)) (fun _ hk => hk.2) (.slice Ao33 t50020.length co33)) (fun _ hk => hk.2) (.slice Ao34 t50023.length co34)) (fun _ h_ => h_.1))))) (Kd.R_lt (by (with_reducible repeat (first | apply Kd.R_alloc | apply Kd.R_drewN | apply Kd.R_drew)); exact (Kd.R_mono (Kd.R_far (p := ⟨gb50026, 2, none⟩) (Kd.R_far (p := ⟨gb50026, 1, none⟩) (Kd.R_far (p := ⟨gb50026, 0, none⟩) (Kd.R_types HO50022.out BK50026.out (by decide)) (fun _ hk => hk.2) (.int .i64 t50019)) (fun _ hk => hk.2) (.slice Ao33 t50020.length co33)) (fun _ hk => hk.2) (.slice Ao34 t50023.length co34)) (fun _ h_ => h_.1))))) (Kd.R_lt (by (with_reducible repeat (first | apply Kd.R_alloc | apply Kd.R_drewN | apply Kd.R_drew)); exact (Kd.R_mono (Kd.R_far (p := ⟨gb50026, 2, none⟩) (Kd.R_far (p := ⟨gb50026, 1, none⟩) (Kd.R_far (p := ⟨gb50026, 0, none⟩) (Kd.R_types HO50025.out BK50026.out (by decide)) (fun _ hk => hk.2) (.int .i64 t50019)) (fun _ hk => hk.2) (.slice Ao33 t50020.length co33)) (fun _ hk => hk.2) (.slice Ao34 t50023.length co34)) (fun _ h_ => h_.1))))) (below_size (by repeat (first | (with_reducible first | exact HB.out | apply below_alloc | apply pw_below_drewN | apply below_drew1 | refine below_set ?_ GE50001.out | refine below_set ?_ GE50018.out | refine below_set ?_ GE50026.out) | exact HB.out)))); have n7_ := Aside0.mk (Kd.R_lower (Kd.R_new' (Kd.R_new' (Kd.R_new' (Kd.R_new' (Kd.R_new' (Kd.R_new' ho1 (Kd.R_lt (by (with_reducible repeat (first | apply Kd.R_alloc | apply Kd.R_drewN | apply Kd.R_drew)); exact (Kd.R_mono (Kd.R_far (p := ⟨gb50026, 2, none⟩) (Kd.R_far (p := ⟨gb50026, 1, none⟩) (Kd.R_far (p := ⟨gb50026, 0, none⟩) (Kd.R_types HO50006.out BK50026.out (by decide)) (fun _ hk => hk.2) (.int .i64 t50019)) (fun _ hk => hk.2) (.slice Ao33 t50020.length co33)) (fun _ hk => hk.2) (.slice Ao34 t50023.length co34)) (fun _ h_ => h_.1))))) (Kd.R_lt (by (with_reducible repeat (first | apply Kd.R_alloc | apply Kd.R_drewN | apply Kd.R_drew)); exact (Kd.R_mono (Kd.R_far (p := ⟨gb50026, 2, none⟩) (Kd.R_far (p := ⟨gb50026, 1, none⟩) (Kd.R_far (p := ⟨gb50026, 0, none⟩) (Kd.R_types HO50009.out BK50026.out (by decide)) (fun _ hk => hk.2) (.int .i64 t50019)) (fun _ hk => hk.2) (.slice Ao33 t50020.length co33)) (fun _ hk => hk.2) (.slice Ao34 t50023.length co34)) (fun _ h_ => h_.1))))) (Kd.R_lt (by (with_reducible repeat (first | apply Kd.R_alloc | apply Kd.R_drewN | apply Kd.R_drew)); exact (Kd.R_mono (Kd.R_far (p := ⟨gb50026, 2, none⟩) (Kd.R_far (p := ⟨gb50026, 1, none⟩) (Kd.R_far (p := ⟨gb50026, 0, none⟩) (Kd.R_types HO50013.out BK50026.out (by decide)) (fun _ hk => hk.2) (.int .i64 t50019)) (fun _ hk => hk.2) (.slice Ao33 t50020.length co33)) (fun _ hk => hk.2) (.slice Ao34 t50023.length co34)) (fun _ h_ => h_.1))))) (Kd.R_lt (by (with_reducible repeat (first | apply Kd.R_alloc | apply Kd.R_drewN | apply Kd.R_drew)); exact (Kd.R_mono (Kd.R_far (p := ⟨gb50026, 2, none⟩) (Kd.R_far (p := ⟨gb50026, 1, none⟩) (Kd.R_far (p := ⟨gb50026, 0, none⟩) (Kd.R_types HO50016.out BK50026.out (by decide)) (fun _ hk => hk.2) (.int .i64 t50019)) (fun _ hk => hk.2) (.slice Ao33 t50020.length co33)) (fun _ hk => hk.2) (.slice Ao34 t50023.length co34)) (fun _ h_ => h_.1))))) (Kd.R_lt (by (with_reducible repeat (first | apply Kd.R_alloc | apply Kd.R_drewN | apply Kd.R_drew)); exact (Kd.R_mono (Kd.R_far (p := ⟨gb50026, 2, none⟩) (Kd.R_far (p := ⟨gb50026, 1, none⟩) (Kd.R_far (p := ⟨gb50026, 0, none⟩) (Kd.R_types HO50022.out BK50026.out (by decide)) (fun _ hk => hk.2) (.int .i64 t50019)) (fun _ hk => hk.2) (.slice Ao33 t50020.length co33)) (fun _ hk => hk.2) (.slice Ao34 t50023.length co34)) (fun _ h_ => h_.1))))) (Kd.R_lt (by (with_reducible repeat (first | apply Kd.R_alloc | apply Kd.R_drewN | apply Kd.R_drew)); exact (Kd.R_mono (Kd.R_far (p := ⟨gb50026, 2, none⟩) (Kd.R_far (p := ⟨gb50026, 1, none⟩) (Kd.R_far (p := ⟨gb50026, 0, none⟩) (Kd.R_types HO50025.out BK50026.out (by decide)) (fun _ hk => hk.2) (.int .i64 t50019)) (fun _ hk => hk.2) (.slice Ao33 t50020.length co33)) (fun _ hk => hk.2) (.slice Ao34 t50023.length co34)) (fun _ h_ => h_.1))))) (below_size (by repeat (first | (with_reducible first | exact HB.out | apply below_alloc | apply pw_below_drewN | apply below_drew1 | refine below_set ?_ GE50001.out | refine below_set ?_ GE50018.out | refine below_set ?_ GE50026.out) | exact HB.out)))); have n8_ := Aside0.mk (blk_below (g := gb50001) (o := .cells #[.int .i64 a0_0, .slice A0_1 l0_1.length c0_1, .slice A0_2 l0_2.length c0_2] 24 (0, 0)) (by (with_reducible repeat (first | refine blk_drewN ?_ _ | refine blk_drew ?_ | refine blk_alloc ?_ _)); refine blk_far ?_ NB50001_50026.out _; (with_reducible repeat (first | refine blk_drewN ?_ _ | refine blk_drew ?_ | refine blk_alloc ?_ _)); refine blk_far ?_ NB50001_50026.out _; (with_reducible repeat (first | refine blk_drewN ?_ _ | refine blk_drew ?_ | refine blk_alloc ?_ _)); refine blk_far ?_ NB50001_50026.out _; (with_reducible repeat (first | refine blk_drewN ?_ _ | refine blk_drew ?_ | refine blk_alloc ?_ _)); exact BK50001.out) hb); have n9_ := Aside0.mk (blk_below (g := gb50018) (o := .cells #[.int .i64 t50010, .slice Ao25 t50011.length co25, .slice Ao26 t50014.length co26] 29 (0, 0)) (by (with_reducible repeat (first | refine blk_drewN ?_ _ | refine blk_drew ?_ | refine blk_alloc ?_ _)); refine blk_far ?_ NB50018_50026.out _; (with_reducible repeat (first | refine blk_drewN ?_ _ | refine blk_drew ?_ | refine blk_alloc ?_ _)); refine blk_far ?_ NB50018_50026.out _; (with_reducible repeat (first | refine blk_drewN ?_ _ | refine blk_drew ?_ | refine blk_alloc ?_ _)); refine blk_far ?_ NB50018_50026.out _; (with_reducible repeat (first | refine blk_drewN ?_ _ | refine blk_drew ?_ | refine blk_alloc ?_ _)); exact BK50018.out) hb); have n10_ := Aside0.mk (blk_below (g := gb50026) (o := .cells #[.int .i64 t50019, .slice Ao33 t50020.length co33, .slice Ao34 t50023.length co34] 29 (0, 0)) (by (with_reducible repeat (first | refine blk_drewN ?_ _ | refine blk_drew ?_ | refine blk_alloc ?_ _)); refine blk_put (cs := #[.int .i64 t50019, .slice Ao33 t50020.length co33, .slice none 0 0]) ?_ 2 _ rfl; (with_reducible repeat (first | refine blk_drewN ?_ _ | refine blk_drew ?_ | refine blk_alloc ?_ _)); refine blk_put (cs := #[.int .i64 t50019, .slice none 0 0, .slice none 0 0]) ?_ 1 _ rfl; (with_reducible repeat (first | refine blk_drewN ?_ _ | refine blk_drew ?_ | refine blk_alloc ?_ _)); refine blk_put (cs := #[.int .i64 0, .slice none 0 0, .slice none 0 0]) ?_ 0 _ rfl; (with_reducible repeat (first | refine blk_drewN ?_ _ | refine blk_drew ?_ | refine blk_alloc ?_ _)); exact BK50026.out) hb); have n11_ := Aside0.mk (below_step (by repeat (first | (with_reducible first | exact HB.out | apply below_alloc | apply pw_below_drewN | apply below_drew1 | refine below_set ?_ GE50001.out | refine below_set ?_ GE50018.out | refine below_set ?_ GE50026.out) | exact HB.out)) hb); clear HO50006; clear HO50009; clear HO50013; clear HO50016; clear HO50022; clear HO50025; clear BK50001; clear BK50018; clear BK50026; clear HB; have HO50006 := n0_; have HO50009 := n1_; have HO50013 := n2_; have HO50016 := n3_; have HO50022 := n4_; have HO50025 := n5_; have HO50030 := n6_; have HO50033 := n7_; have BK50001 := n8_; have BK50018 := n9_; have BK50026 := n10_; have HB := n11_; clear n0_ n1_ n2_ n3_ n4_ n5_ n6_ n7_ n8_ n9_ n10_ n11_; (try clear hb); (try clear hb2); (try clear hk); (try clear hi); (try clear ho0); (try clear ho1)) | ((with_reducible refine gate_dst (N := 11) rfl ?_); refine box_event ?hg (N := 11) ?hd (cs := #[.int .i64 0, .slice none 0 0, .slice none 0 0]) (t := 29) ?hr ?_; (case hd => rfl); (case hg => rfl); (case hr => first | (go_simp; done) | (go_simp; rfl)); intro gb50035 hg w36 hbox hb; have n0_ := Aside0.mk (Kd.R_below (by (with_reducible repeat (first | apply Kd.R_alloc | apply Kd.R_drewN | apply Kd.R_drew)); exact HO50006.out) hb); have n1_ := Aside0.mk (Kd.R_below (by (with_reducible repeat (first | apply Kd.R_alloc | apply Kd.R_drewN | apply Kd.R_drew)); exact HO50009.out) hb); have n2_ := Aside0.mk (Kd.R_below (by (with_reducible repeat (first | apply Kd.R_alloc | apply Kd.R_drewN | apply Kd.R_drew)); exact HO50013.out) hb); have n3_ := Aside0.mk (Kd.R_below (by (with_reducible repeat (first | apply Kd.R_alloc | apply Kd.R_drewN | apply Kd.R_drew)); exact HO50016.out) hb); have n4_ := Aside0.mk (Kd.R_below (by (with_reducible repeat (first | apply Kd.R_alloc | apply Kd.R_drewN | apply Kd.R_drew)); exact HO50022.out) hb); have n5_ := Aside0.mk (Kd.R_below (by (with_reducible repeat (first | apply Kd.R_alloc | apply Kd.R_drewN | apply Kd.R_drew)); exact HO50025.out) hb); have n6_ := Aside0.mk (Kd.R_below (by (with_reducible repeat (first | apply Kd.R_alloc | apply Kd.R_drewN | apply Kd.R_drew)); exact HO50030.out) hb); have n7_ := Aside0.mk (Kd.R_below (by (with_reducible repeat (first | apply Kd.R_alloc | apply Kd.R_drewN | apply Kd.R_drew)); exact HO50033.out) hb); have n8_ := Aside0.mk (blk_below (g := gb50001) (o := .cells #[.int .i64 a0_0, .slice A0_1 l0_1.length c0_1, .slice A0_2 l0_2.length c0_2] 24 (0, 0)) (by (with_reducible repeat (first | refine blk_drewN ?_ _ | refine blk_drew ?_ | refine blk_alloc ?_ _)); exact BK50001.out) hb); have n9_ := Aside0.mk (blk_below (g := gb50018) (o := .cells #[.int .i64 t50010, .slice Ao25 t50011.length co25, .slice Ao26 t50014.length co26] 29 (0, 0)) (by (with_reducible repeat (first | refine blk_drewN ?_ _ | refine blk_drew ?_ | refine blk_alloc ?_ _)); exact BK50018.out) hb); have n10_ := Aside0.mk (blk_below (g := gb50026) (o := .cells #[.int .i64 t50019, .slice Ao33 t50020.length co33, .slice Ao34 t50023.length co34] 29 (0, 0)) (by (with_reducible repeat (first | refine blk_drewN ?_ _ | refine blk_drew ?_ | refine blk_alloc ?_ _)); exact BK50026.out) hb); have n11_ := Aside0.mk (below_step (by repeat (first | (with_reducible first | exact HB.out | apply below_alloc | apply pw_below_drewN | apply below_drew1 | refine below_set ?_ GE50001.out | refine below_set ?_ GE50018.out | refine below_set ?_ GE50026.out) | exact HB.out)) hb); have n12_ := Aside0.mk (hbox); have n13_ := Aside0.mk ((by rw [hg]; exact (below_size (by repeat (first | (with_reducible first | exact HB.out | apply below_alloc | apply pw_below_drewN | apply below_drew1 | refine below_set ?_ GE50001.out | refine below_set ?_ GE50018.out | refine below_set ?_ GE50026.out) | exact HB.out))) : w.heap.size ≤ gb50035)); have n14_ := Aside0.mk ((by rw [hg]; exact (below_size (by repeat (first | (with_reducible first | exact HB.out | apply below_alloc | apply pw_below_drewN | apply below_drew1 | refine below_set ?_ GE50001.out | refine below_set ?_ GE50018.out | refine below_set ?_ GE50026.out) | exact HB.out))) : w.heap.size ≤ gb50035)); have n15_ := Aside0.mk ((by rw [hg]; exact Nat.ne_of_lt (blk_lt (g := gb50001) (o := .cells #[.int .i64 a0_0, .slice A0_1 l0_1.length c0_1, .slice A0_2 l0_2.length c0_2] 24 (0, 0)) (by (with_reducible repeat (first | refine blk_drewN ?_ _ | refine blk_drew ?_ | refine blk_alloc ?_ _)); exact BK50001.out)) : gb50001 ≠ gb50035)); have n16_ := Aside0.mk ((by rw [hg]; exact Nat.ne_of_gt (blk_lt (g := gb50001) (o := .cells #[.int .i64 a0_0, .slice A0_1 l0_1.length c0_1, .slice A0_2 l0_2.length c0_2] 24 (0, 0)) (by (with_reducible repeat (first | refine blk_drewN ?_ _ | refine blk_drew ?_ | refine blk_alloc ?_ _)); exact BK50001.out)) : gb50035 ≠ gb50001)); have n17_ := Aside0.mk ((by rw [hg]; exact Nat.ne_of_lt (blk_lt (g := gb50018) (o := .cells #[.int .i64 t50010, .slice Ao25 t50011.length co25, .slice Ao26 t50014.length co26] 29 (0, 0)) (by (with_reducible repeat (first | refine blk_drewN ?_ _ | refine blk_drew ?_ | refine blk_alloc ?_ _)); exact BK50018.out)) : gb50018 ≠ gb50035)); have n18_ := Aside0.mk ((by rw [hg]; exact Nat.ne_of_gt (blk_lt (g := gb50018) (o := .cells #[.int .i64 t50010, .slice Ao25 t50011.length co25, .slice Ao26 t50014.length co26] 29 (0, 0)) (by (with_reducible repeat (first | refine blk_drewN ?_ _ | refine blk_drew ?_ | refine blk_alloc ?_ _)); exact BK50018.out)) : gb50035 ≠ gb50018)); have n19_ := Aside0.mk ((by rw [hg]; exact Nat.ne_of_lt (blk_lt (g := gb50026) (o := .cells #[.int .i64 t50019, .slice Ao33 t50020.length co33, .slice Ao34 t50023.length co34] 29 (0, 0)) (by (with_reducible repeat (first | refine blk_drewN ?_ _ | refine blk_drew ?_ | refine blk_alloc ?_ _)); exact BK50026.out)) : gb50026 ≠ gb50035)); have n20_ := Aside0.mk ((by rw [hg]; exact Nat.ne_of_gt (blk_lt (g := gb50026) (o := .cells #[.int .i64 t50019, .slice Ao33 t50020.length co33, .slice Ao34 t50023.length co34] 29 (0, 0)) (by (with_reducible repeat (first | refine blk_drewN ?_ _ | refine blk_drew ?_ | refine blk_alloc ?_ _)); exact BK50026.out)) : gb50035 ≠ gb50026)); clear HO50006; clear HO50009; clear HO50013; clear HO50016; clear HO50022; clear HO50025; clear HO50030; clear HO50033; clear BK50001; clear BK50018; clear BK50026; clear HB; have HO50006 := n0_; have HO50009 := n1_; have HO50013 := n2_; have HO50016 := n3_; have HO50022 := n4_; have HO50025 := n5_; have HO50030 := n6_; have HO50033 := n7_; have BK50001 := n8_; have BK50018 := n9_; have BK50026 := n10_; have HB := n11_; have BK50035 := n12_; have GW50035 := n13_; have GE50035 := n14_; have NB50001_50035 := n15_; have NB50035_50001 := n16_; have NB50018_50035 := n17_; have NB50035_50018 := n18_; have NB50026_50035 := n19_; have NB50035_50026 := n20_; clear n0_ n1_ n2_ n3_ n4_ n5_ n6_ n7_ n8_ n9_ n10_ n11_ n12_ n13_ n14_ n15_ n16_ n17_ n18_ n19_ n20_; clear hb hbox hg; have hnb37 := NB50035_50001.out; have hnc37 := NB50001_50035.out; have hnb38 := NB50035_50018.out; have hnc38 := NB50018_50035.out; have hnb39 := NB50035_50026.out; have hnc39 := NB50026_50035.out; have hcz40_0 : w36.cell? ⟨gb50035, 0, none⟩ = some (.int .i64 0) := (blk_cell BK50035.out 0).trans rfl; have hcz40_1 : w36.cell? ⟨gb50035, 1, none⟩ = some (.slice none 0 0) := (blk_cell BK50035.out 1).trans rfl; have hcz40_2 : w36.cell? ⟨gb50035, 2, none⟩ = some (.slice none 0 0) := (blk_cell BK50035.out 2).trans rfl; have hfz40_0 := blk_frozen BK50035.out 0; have hfz40_1 := blk_frozen BK50035.out 1; have hfz40_2 := blk_frozen BK50035.out 2; obtain ⟨Ao41, co41, eo41⟩ := Kd.R_slice HO50030.out; subst eo41; obtain ⟨Ao42, co42, eo42⟩ := Kd.R_slice HO50033.out; subst eo42))
  (try simp only [Act.put, List.setIfInBounds_toArray, List.set_cons_zero, List.set_cons_succ])
  go_cut [48] (fun v48 wc => ∃ (kq : Nat) (x48_12 : Bool), v48 = .bool x48_12 ∧ Aside0 (laws_FnExactLockFirm.j0 kq a1 a2 t50017 t50034 x48_12 a0_0 l0_1 l0_2 t50010 t50011 t50014 t50019 t50020 t50023 t50027 t50028 t50031 = some true) ∧ Aside0 (kq ≤ k) ∧ Aside0 (Kd.R k45 45 wc w.heap.size (fun k_ => some k_ ≠ ((.slice Ao26 t50014.length co26) : Value).ownBlock ∧ some k_ ≠ ((.slice Ao33 t50020.length co33) : Value).ownBlock ∧ some k_ ≠ ((.slice Ao34 t50023.length co34) : Value).ownBlock ∧ some k_ ≠ ((.slice Ao41 t50028.length co41) : Value).ownBlock ∧ some k_ ≠ ((.slice Ao42 t50031.length co42) : Value).ownBlock) (.slice Ao25 t50011.length co25) t50011) ∧ Aside0 (Kd.R k45 45 wc w.heap.size (fun k_ => some k_ ≠ ((.slice Ao25 t50011.length co25) : Value).ownBlock ∧ some k_ ≠ ((.slice Ao33 t50020.length co33) : Value).ownBlock ∧ some k_ ≠ ((.slice Ao34 t50023.length co34) : Value).ownBlock ∧ some k_ ≠ ((.slice Ao41 t50028.length co41) : Value).ownBlock ∧ some k_ ≠ ((.slice Ao42 t50031.length co42) : Value).ownBlock) (.slice Ao26 t50014.length co26) t50014) ∧ Aside0 (Kd.R k45 45 wc w.heap.size (fun k_ => some k_ ≠ ((.slice Ao25 t50011.length co25) : Value).ownBlock ∧ some k_ ≠ ((.slice Ao26 t50014.length co26) : Value).ownBlock ∧ some k_ ≠ ((.slice Ao34 t50023.length co34) : Value).ownBlock ∧ some k_ ≠ ((.slice Ao41 t50028.length co41) : Value).ownBlock ∧ some k_ ≠ ((.slice Ao42 t50031.length co42) : Value).ownBlock) (.slice Ao33 t50020.length co33) t50020) ∧ Aside0 (Kd.R k45 45 wc w.heap.size (fun k_ => some k_ ≠ ((.slice Ao25 t50011.length co25) : Value).ownBlock ∧ some k_ ≠ ((.slice Ao26 t50014.length co26) : Value).ownBlock ∧ some k_ ≠ ((.slice Ao33 t50020.length co33) : Value).ownBlock ∧ some k_ ≠ ((.slice Ao41 t50028.length co41) : Value).ownBlock ∧ some k_ ≠ ((.slice Ao42 t50031.length co42) : Value).ownBlock) (.slice Ao34 t50023.length co34) t50023) ∧ Aside0 (Kd.R k45 45 wc w.heap.size (fun k_ => some k_ ≠ ((.slice Ao25 t50011.length co25) : Value).ownBlock ∧ some k_ ≠ ((.slice Ao26 t50014.length co26) : Value).ownBlock ∧ some k_ ≠ ((.slice Ao33 t50020.length co33) : Value).ownBlock ∧ some k_ ≠ ((.slice Ao34 t50023.length co34) : Value).ownBlock ∧ some k_ ≠ ((.slice Ao42 t50031.length co42) : Value).ownBlock) (.slice Ao41 t50028.length co41) t50028) ∧ Aside0 (Kd.R k45 45 wc w.heap.size (fun k_ => some k_ ≠ ((.slice Ao25 t50011.length co25) : Value).ownBlock ∧ some k_ ≠ ((.slice Ao26 t50014.length co26) : Value).ownBlock ∧ some k_ ≠ ((.slice Ao33 t50020.length co33) : Value).ownBlock ∧ some k_ ≠ ((.slice Ao34 t50023.length co34) : Value).ownBlock ∧ some k_ ≠ ((.slice Ao41 t50028.length co41) : Value).ownBlock) (.slice Ao42 t50031.length co42) t50031) ∧ Aside0 (wc.heap[gb50001]? = some (.cells #[.int .i64 a0_0, (.slice A0_1 l0_1.length c0_1), (.slice A0_2 l0_2.length c0_2)] 24 (0, 0))) ∧ Aside0 (wc.heap[gb50018]? = some (.cells #[.int .i64 t50010, (.slice Ao25 t50011.length co25), (.slice Ao26 t50014.length co26)] 29 (0, 0))) ∧ Aside0 (wc.heap[gb50026]? = some (.cells #[.int .i64 t50019, (.slice Ao33 t50020.length co33), (.slice Ao34 t50023.length co34)] 29 (0, 0))) ∧ Aside0 (wc.heap[gb50035]? = some (.cells #[.int .i64 t50027, (.slice Ao41 t50028.length co41), (.slice Ao42 t50031.length co42)] 29 (0, 0))) ∧ Aside0 (Below w.heap.size w wc))
  case first =>
   have H := HC13.out
   clear HC13
   replace H := Option.bind_eq_some_iff.mp H
   obtain ⟨t50036, A430, H⟩ := H
   replace H : (if t50036 = true then (laws_FnExactLockFirm.j0 k a1 a2 t50017 t50034 (t50034 != t50017) a0_0 l0_1 l0_2 t50010 t50011 t50014 t50019 t50020 t50023 t50027 t50028 t50031) else (laws_FnExactLockFirm.j0 k a1 a2 t50017 t50034 true a0_0 l0_1 l0_2 t50010 t50011 t50014 t50019 t50020 t50023 t50027 t50028 t50031)) = some true := H
   have A43 := Aside0.mk A430
   clear A430
   by_cases c44 : t50036 = true
   ·subst c44
    have H1 : (laws_FnExactLockFirm.j0 k a1 a2 t50017 t50034 (t50034 != t50017) a0_0 l0_1 l0_2 t50010 t50011 t50014 t50019 t50020 t50023 t50027 t50028 t50031) = some true := by rw [if_pos rfl] at H; exact H
    clear H
    have H := H1
    clear H1
    have H' := Aside0.mk H
    clear H
    have hnb45 := NB50035_50001.out
    have hnc45 := NB50001_50035.out
    have hnb46 := NB50035_50018.out
    have hnc46 := NB50018_50035.out
    have hnb47 := NB50035_50026.out
    have hnc47 := NB50026_50035.out
    have hcz48_0 : w36.cell? ⟨gb50035, 0, none⟩ = some (.int .i64 0) := (blk_cell BK50035.out 0).trans rfl
    have hcz48_1 : w36.cell? ⟨gb50035, 1, none⟩ = some (.slice none 0 0) := (blk_cell BK50035.out 1).trans rfl
    have hcz48_2 : w36.cell? ⟨gb50035, 2, none⟩ = some (.slice none 0 0) := (blk_cell BK50035.out 2).trans rfl
    have hfz48_0 := blk_frozen BK50035.out 0
    have hfz48_1 := blk_frozen BK50035.out 1
    have hfz48_2 := blk_frozen BK50035.out 2
    have hnb49 := NB50018_50001.out
    have hnc49 := NB50001_50018.out
    have hnb50 := NB50018_50026.out
    have hnc50 := NB50026_50018.out
    have hcz51_0 : w36.cell? ⟨gb50018, 0, none⟩ = some (.int .i64 t50010) := (blk_cell BK50018.out 0).trans rfl
    have hcz51_1 : w36.cell? ⟨gb50018, 1, none⟩ = some (.slice Ao25 t50011.length co25) := (blk_cell BK50018.out 1).trans rfl
    have hcz51_2 : w36.cell? ⟨gb50018, 2, none⟩ = some (.slice Ao26 t50014.length co26) := (blk_cell BK50018.out 2).trans rfl
    have hfz51_0 := blk_frozen BK50018.out 0
    have hfz51_1 := blk_frozen BK50018.out 1
    have hfz51_2 := blk_frozen BK50018.out 2
    go_wp2_with (first | ((with_reducible refine gate_callee (f := 19) rfl ?_); refine goesL_ (some 42) rfl rfl Try.func19 (by kernel_rfl) rfl #[.agg #[.int .i64 t50027, .slice Ao41 t50028.length co41, .slice Ao42 t50031.length co42], .agg #[.int .i64 t50010, .slice Ao25 t50011.length co25, .slice Ao26 t50014.length co26]] rfl (by (try simp only [List.map_toArray, List.map_cons, List.map_nil]); first | done | rfl | (simp only [List.length_drop, List.length_take]; rfl)) ?_; (with_reducible refine (laws_eqLock.calls k t50027 _ _ t50028 _ _ t50031 t50010 _ _ t50011 _ _ t50014 true _ ?side1 ?side2 ?side3 ?side4 ?side5 ?side6 ?side7 ?side8 A43.out).mono ?_); (case side1 => refine (Kd.R_reads' (e := 45) (base := w.heap.size) (ok := fun k_ => ((((((some k_ ≠ (.slice Ao42 t50031.length co42 : Value).ownBlock ∧ some k_ ≠ (.slice Ao19 t50004.length co19 : Value).ownBlock) ∧ some k_ ≠ (.slice Ao20 t50007.length co20 : Value).ownBlock) ∧ some k_ ≠ (.slice Ao25 t50011.length co25 : Value).ownBlock) ∧ some k_ ≠ (.slice Ao26 t50014.length co26 : Value).ownBlock) ∧ some k_ ≠ (.slice Ao33 t50020.length co33 : Value).ownBlock) ∧ some k_ ≠ (.slice Ao34 t50023.length co34 : Value).ownBlock)) (n := t50028.length) (c := co41) ?_).2.2; exact (by (with_reducible repeat (first | apply Kd.R_alloc | apply Kd.R_drewN | apply Kd.R_drew)); exact (Kd.R_mono (Kd.R_far (p := ⟨gb50035, 2, none⟩) (Kd.R_far (p := ⟨gb50035, 1, none⟩) (Kd.R_far (p := ⟨gb50035, 0, none⟩) (Kd.R_types HO50030.out BK50035.out (by decide)) (fun _ hk => hk.2) (.int .i64 t50027)) (fun _ hk => hk.2) (.slice Ao41 t50028.length co41)) (fun _ hk => hk.2) (.slice Ao42 t50031.length co42)) (fun _ h_ => h_.1)))); (case side2 => exact (Kd.R_reads' HO50030.out).2.1); (case side3 => refine (Kd.R_reads' (e := 45) (base := w.heap.size) (ok := fun k_ => ((((((some k_ ≠ (.slice Ao41 t50028.length co41 : Value).ownBlock ∧ some k_ ≠ (.slice Ao19 t50004.length co19 : Value).ownBlock) ∧ some k_ ≠ (.slice Ao20 t50007.length co20 : Value).ownBlock) ∧ some k_ ≠ (.slice Ao25 t50011.length co25 : Value).ownBlock) ∧ some k_ ≠ (.slice Ao26 t50014.length co26 : Value).ownBlock) ∧ some k_ ≠ (.slice Ao33 t50020.length co33 : Value).ownBlock) ∧ some k_ ≠ (.slice Ao34 t50023.length co34 : Value).ownBlock)) (n := t50031.length) (c := co42) ?_).2.2; exact (by (with_reducible repeat (first | apply Kd.R_alloc | apply Kd.R_drewN | apply Kd.R_drew)); exact (Kd.R_mono (Kd.R_far (p := ⟨gb50035, 2, none⟩) (Kd.R_far (p := ⟨gb50035, 1, none⟩) (Kd.R_far (p := ⟨gb50035, 0, none⟩) (Kd.R_types HO50033.out BK50035.out (by decide)) (fun _ hk => hk.2) (.int .i64 t50027)) (fun _ hk => hk.2) (.slice Ao41 t50028.length co41)) (fun _ hk => hk.2) (.slice Ao42 t50031.length co42)) (fun _ h_ => h_.1)))); (case side4 => exact (Kd.R_reads' HO50033.out).2.1); (case side5 => refine (Kd.R_reads' (e := 45) (base := w.heap.size) (ok := fun k_ => ((((((some k_ ≠ (.slice Ao26 t50014.length co26 : Value).ownBlock ∧ some k_ ≠ (.slice Ao19 t50004.length co19 : Value).ownBlock) ∧ some k_ ≠ (.slice Ao20 t50007.length co20 : Value).ownBlock) ∧ some k_ ≠ (.slice Ao33 t50020.length co33 : Value).ownBlock) ∧ some k_ ≠ (.slice Ao34 t50023.length co34 : Value).ownBlock) ∧ some k_ ≠ (.slice Ao41 t50028.length co41 : Value).ownBlock) ∧ some k_ ≠ (.slice Ao42 t50031.length co42 : Value).ownBlock)) (n := t50011.length) (c := co25) ?_).2.2; exact (by (with_reducible repeat (first | apply Kd.R_alloc | apply Kd.R_drewN | apply Kd.R_drew)); exact (Kd.R_mono (Kd.R_far (p := ⟨gb50035, 2, none⟩) (Kd.R_far (p := ⟨gb50035, 1, none⟩) (Kd.R_far (p := ⟨gb50035, 0, none⟩) (Kd.R_types HO50013.out BK50035.out (by decide)) (fun _ hk => hk.2) (.int .i64 t50027)) (fun _ hk => hk.2) (.slice Ao41 t50028.length co41)) (fun _ hk => hk.2) (.slice Ao42 t50031.length co42)) (fun _ h_ => h_.1)))); (case side6 => exact (Kd.R_reads' HO50013.out).2.1); (case side7 => refine (Kd.R_reads' (e := 45) (base := w.heap.size) (ok := fun k_ => ((((((some k_ ≠ (.slice Ao25 t50011.length co25 : Value).ownBlock ∧ some k_ ≠ (.slice Ao19 t50004.length co19 : Value).ownBlock) ∧ some k_ ≠ (.slice Ao20 t50007.length co20 : Value).ownBlock) ∧ some k_ ≠ (.slice Ao33 t50020.length co33 : Value).ownBlock) ∧ some k_ ≠ (.slice Ao34 t50023.length co34 : Value).ownBlock) ∧ some k_ ≠ (.slice Ao41 t50028.length co41 : Value).ownBlock) ∧ some k_ ≠ (.slice Ao42 t50031.length co42 : Value).ownBlock)) (n := t50014.length) (c := co26) ?_).2.2; exact (by (with_reducible repeat (first | apply Kd.R_alloc | apply Kd.R_drewN | apply Kd.R_drew)); exact (Kd.R_mono (Kd.R_far (p := ⟨gb50035, 2, none⟩) (Kd.R_far (p := ⟨gb50035, 1, none⟩) (Kd.R_far (p := ⟨gb50035, 0, none⟩) (Kd.R_types HO50016.out BK50035.out (by decide)) (fun _ hk => hk.2) (.int .i64 t50027)) (fun _ hk => hk.2) (.slice Ao41 t50028.length co41)) (fun _ hk => hk.2) (.slice Ao42 t50031.length co42)) (fun _ h_ => h_.1)))); (case side8 => exact (Kd.R_reads' HO50016.out).2.1); rintro e w52 ⟨rfl, hb⟩; refine ⟨_, rfl, ?_⟩; have n0_ := Aside0.mk (Kd.R_below (by (with_reducible repeat (first | apply Kd.R_alloc | apply Kd.R_drewN | apply Kd.R_drew)); exact (Kd.R_mono (Kd.R_far (p := ⟨gb50035, 2, none⟩) (Kd.R_far (p := ⟨gb50035, 1, none⟩) (Kd.R_far (p := ⟨gb50035, 0, none⟩) (Kd.R_types HO50006.out BK50035.out (by decide)) (fun _ hk => hk.2) (.int .i64 t50027)) (fun _ hk => hk.2) (.slice Ao41 t50028.length co41)) (fun _ hk => hk.2) (.slice Ao42 t50031.length co42)) (fun _ h_ => h_.1))) hb); have n1_ := Aside0.mk (Kd.R_below (by (with_reducible repeat (first | apply Kd.R_alloc | apply Kd.R_drewN | apply Kd.R_drew)); exact (Kd.R_mono (Kd.R_far (p := ⟨gb50035, 2, none⟩) (Kd.R_far (p := ⟨gb50035, 1, none⟩) (Kd.R_far (p := ⟨gb50035, 0, none⟩) (Kd.R_types HO50009.out BK50035.out (by decide)) (fun _ hk => hk.2) (.int .i64 t50027)) (fun _ hk => hk.2) (.slice Ao41 t50028.length co41)) (fun _ hk => hk.2) (.slice Ao42 t50031.length co42)) (fun _ h_ => h_.1))) hb); have n2_ := Aside0.mk (Kd.R_below (by (with_reducible repeat (first | apply Kd.R_alloc | apply Kd.R_drewN | apply Kd.R_drew)); exact (Kd.R_mono (Kd.R_far (p := ⟨gb50035, 2, none⟩) (Kd.R_far (p := ⟨gb50035, 1, none⟩) (Kd.R_far (p := ⟨gb50035, 0, none⟩) (Kd.R_types HO50013.out BK50035.out (by decide)) (fun _ hk => hk.2) (.int .i64 t50027)) (fun _ hk => hk.2) (.slice Ao41 t50028.length co41)) (fun _ hk => hk.2) (.slice Ao42 t50031.length co42)) (fun _ h_ => h_.1))) hb); have n3_ := Aside0.mk (Kd.R_below (by (with_reducible repeat (first | apply Kd.R_alloc | apply Kd.R_drewN | apply Kd.R_drew)); exact (Kd.R_mono (Kd.R_far (p := ⟨gb50035, 2, none⟩) (Kd.R_far (p := ⟨gb50035, 1, none⟩) (Kd.R_far (p := ⟨gb50035, 0, none⟩) (Kd.R_types HO50016.out BK50035.out (by decide)) (fun _ hk => hk.2) (.int .i64 t50027)) (fun _ hk => hk.2) (.slice Ao41 t50028.length co41)) (fun _ hk => hk.2) (.slice Ao42 t50031.length co42)) (fun _ h_ => h_.1))) hb); have n4_ := Aside0.mk (Kd.R_below (by (with_reducible repeat (first | apply Kd.R_alloc | apply Kd.R_drewN | apply Kd.R_drew)); exact (Kd.R_mono (Kd.R_far (p := ⟨gb50035, 2, none⟩) (Kd.R_far (p := ⟨gb50035, 1, none⟩) (Kd.R_far (p := ⟨gb50035, 0, none⟩) (Kd.R_types HO50022.out BK50035.out (by decide)) (fun _ hk => hk.2) (.int .i64 t50027)) (fun _ hk => hk.2) (.slice Ao41 t50028.length co41)) (fun _ hk => hk.2) (.slice Ao42 t50031.length co42)) (fun _ h_ => h_.1))) hb); have n5_ := Aside0.mk (Kd.R_below (by (with_reducible repeat (first | apply Kd.R_alloc | apply Kd.R_drewN | apply Kd.R_drew)); exact (Kd.R_mono (Kd.R_far (p := ⟨gb50035, 2, none⟩) (Kd.R_far (p := ⟨gb50035, 1, none⟩) (Kd.R_far (p := ⟨gb50035, 0, none⟩) (Kd.R_types HO50025.out BK50035.out (by decide)) (fun _ hk => hk.2) (.int .i64 t50027)) (fun _ hk => hk.2) (.slice Ao41 t50028.length co41)) (fun _ hk => hk.2) (.slice Ao42 t50031.length co42)) (fun _ h_ => h_.1))) hb); have n6_ := Aside0.mk (Kd.R_below (by (with_reducible repeat (first | apply Kd.R_alloc | apply Kd.R_drewN | apply Kd.R_drew)); exact (Kd.R_mono (Kd.R_far (p := ⟨gb50035, 2, none⟩) (Kd.R_far (p := ⟨gb50035, 1, none⟩) (Kd.R_far (p := ⟨gb50035, 0, none⟩) (Kd.R_types HO50030.out BK50035.out (by decide)) (fun _ hk => hk.2) (.int .i64 t50027)) (fun _ hk => hk.2) (.slice Ao41 t50028.length co41)) (fun _ hk => hk.2) (.slice Ao42 t50031.length co42)) (fun _ h_ => h_.1))) hb); have n7_ := Aside0.mk (Kd.R_below (by (with_reducible repeat (first | apply Kd.R_alloc | apply Kd.R_drewN | apply Kd.R_drew)); exact (Kd.R_mono (Kd.R_far (p := ⟨gb50035, 2, none⟩) (Kd.R_far (p := ⟨gb50035, 1, none⟩) (Kd.R_far (p := ⟨gb50035, 0, none⟩) (Kd.R_types HO50033.out BK50035.out (by decide)) (fun _ hk => hk.2) (.int .i64 t50027)) (fun _ hk => hk.2) (.slice Ao41 t50028.length co41)) (fun _ hk => hk.2) (.slice Ao42 t50031.length co42)) (fun _ h_ => h_.1))) hb); have n8_ := Aside0.mk (blk_below (g := gb50001) (o := .cells #[.int .i64 a0_0, .slice A0_1 l0_1.length c0_1, .slice A0_2 l0_2.length c0_2] 24 (0, 0)) (by (with_reducible repeat (first | refine blk_drewN ?_ _ | refine blk_drew ?_ | refine blk_alloc ?_ _)); refine blk_far ?_ NB50001_50035.out _; (with_reducible repeat (first | refine blk_drewN ?_ _ | refine blk_drew ?_ | refine blk_alloc ?_ _)); refine blk_far ?_ NB50001_50035.out _; (with_reducible repeat (first | refine blk_drewN ?_ _ | refine blk_drew ?_ | refine blk_alloc ?_ _)); refine blk_far ?_ NB50001_50035.out _; (with_reducible repeat (first | refine blk_drewN ?_ _ | refine blk_drew ?_ | refine blk_alloc ?_ _)); exact BK50001.out) hb); have n9_ := Aside0.mk (blk_below (g := gb50018) (o := .cells #[.int .i64 t50010, .slice Ao25 t50011.length co25, .slice Ao26 t50014.length co26] 29 (0, 0)) (by (with_reducible repeat (first | refine blk_drewN ?_ _ | refine blk_drew ?_ | refine blk_alloc ?_ _)); refine blk_far ?_ NB50018_50035.out _; (with_reducible repeat (first | refine blk_drewN ?_ _ | refine blk_drew ?_ | refine blk_alloc ?_ _)); refine blk_far ?_ NB50018_50035.out _; (with_reducible repeat (first | refine blk_drewN ?_ _ | refine blk_drew ?_ | refine blk_alloc ?_ _)); refine blk_far ?_ NB50018_50035.out _; (with_reducible repeat (first | refine blk_drewN ?_ _ | refine blk_drew ?_ | refine blk_alloc ?_ _)); exact BK50018.out) hb); have n10_ := Aside0.mk (blk_below (g := gb50026) (o := .cells #[.int .i64 t50019, .slice Ao33 t50020.length co33, .slice Ao34 t50023.length co34] 29 (0, 0)) (by (with_reducible repeat (first | refine blk_drewN ?_ _ | refine blk_drew ?_ | refine blk_alloc ?_ _)); refine blk_far ?_ NB50026_50035.out _; (with_reducible repeat (first | refine blk_drewN ?_ _ | refine blk_drew ?_ | refine blk_alloc ?_ _)); refine blk_far ?_ NB50026_50035.out _; (with_reducible repeat (first | refine blk_drewN ?_ _ | refine blk_drew ?_ | refine blk_alloc ?_ _)); refine blk_far ?_ NB50026_50035.out _; (with_reducible repeat (first | refine blk_drewN ?_ _ | refine blk_drew ?_ | refine blk_alloc ?_ _)); exact BK50026.out) hb); have n11_ := Aside0.mk (blk_below (g := gb50035) (o := .cells #[.int .i64 t50027, .slice Ao41 t50028.length co41, .slice Ao42 t50031.length co42] 29 (0, 0)) (by (with_reducible repeat (first | refine blk_drewN ?_ _ | refine blk_drew ?_ | refine blk_alloc ?_ _)); refine blk_put (cs := #[.int .i64 t50027, .slice Ao41 t50028.length co41, .slice none 0 0]) ?_ 2 _ rfl; (with_reducible repeat (first | refine blk_drewN ?_ _ | refine blk_drew ?_ | refine blk_alloc ?_ _)); refine blk_put (cs := #[.int .i64 t50027, .slice none 0 0, .slice none 0 0]) ?_ 1 _ rfl; (with_reducible repeat (first | refine blk_drewN ?_ _ | refine blk_drew ?_ | refine blk_alloc ?_ _)); refine blk_put (cs := #[.int .i64 0, .slice none 0 0, .slice none 0 0]) ?_ 0 _ rfl; (with_reducible repeat (first | refine blk_drewN ?_ _ | refine blk_drew ?_ | refine blk_alloc ?_ _)); exact BK50035.out) hb); have n12_ := Aside0.mk (below_step (by repeat (first | (with_reducible first | exact HB.out | apply below_alloc | apply pw_below_drewN | apply below_drew1 | refine below_set ?_ GE50001.out | refine below_set ?_ GE50018.out | refine below_set ?_ GE50026.out | refine below_set ?_ GE50035.out) | exact HB.out)) hb); clear HO50006; clear HO50009; clear HO50013; clear HO50016; clear HO50022; clear HO50025; clear HO50030; clear HO50033; clear BK50001; clear BK50018; clear BK50026; clear BK50035; clear HB; have HO50006 := n0_; have HO50009 := n1_; have HO50013 := n2_; have HO50016 := n3_; have HO50022 := n4_; have HO50025 := n5_; have HO50030 := n6_; have HO50033 := n7_; have BK50001 := n8_; have BK50018 := n9_; have BK50026 := n10_; have BK50035 := n11_; have HB := n12_; clear n0_ n1_ n2_ n3_ n4_ n5_ n6_ n7_ n8_ n9_ n10_ n11_ n12_; (try clear hb); (try clear hb2); (try clear hk); (try clear hi)))
    go_meet
    case rel => exact ⟨_, ((t50034 != t50017)), (by first | rfl | (simp; done) | (simp [*]; done)), H', ⟨by first | omega | exact Nat.le_refl _⟩, ⟨by (with_reducible repeat (first | apply Kd.R_alloc | apply Kd.R_drewN | apply Kd.R_drew)); exact Kd.R_mono HO50013.out (fun _ hk => ⟨hk.1.1.1.1.1.1, ⟨hk.1.1.1.2, ⟨hk.1.1.2, ⟨hk.1.2, hk.2⟩⟩⟩⟩)⟩, ⟨by (with_reducible repeat (first | apply Kd.R_alloc | apply Kd.R_drewN | apply Kd.R_drew)); exact Kd.R_mono HO50016.out (fun _ hk => ⟨hk.1.1.1.1.1.1, ⟨hk.1.1.1.2, ⟨hk.1.1.2, ⟨hk.1.2, hk.2⟩⟩⟩⟩)⟩, ⟨by (with_reducible repeat (first | apply Kd.R_alloc | apply Kd.R_drewN | apply Kd.R_drew)); exact Kd.R_mono HO50022.out (fun _ hk => ⟨hk.1.1.1.2, ⟨hk.1.1.2, ⟨hk.1.1.1.1.1.1, ⟨hk.1.2, hk.2⟩⟩⟩⟩)⟩, ⟨by (with_reducible repeat (first | apply Kd.R_alloc | apply Kd.R_drewN | apply Kd.R_drew)); exact Kd.R_mono HO50025.out (fun _ hk => ⟨hk.1.1.1.2, ⟨hk.1.1.2, ⟨hk.1.1.1.1.1.1, ⟨hk.1.2, hk.2⟩⟩⟩⟩)⟩, ⟨by (with_reducible repeat (first | apply Kd.R_alloc | apply Kd.R_drewN | apply Kd.R_drew)); exact Kd.R_mono HO50030.out (fun _ hk => ⟨hk.1.1.1.2, ⟨hk.1.1.2, ⟨hk.1.2, ⟨hk.2, hk.1.1.1.1.1.1⟩⟩⟩⟩)⟩, ⟨by (with_reducible repeat (first | apply Kd.R_alloc | apply Kd.R_drewN | apply Kd.R_drew)); exact Kd.R_mono HO50033.out (fun _ hk => ⟨hk.1.1.1.2, ⟨hk.1.1.2, ⟨hk.1.2, ⟨hk.2, hk.1.1.1.1.1.1⟩⟩⟩⟩)⟩, ⟨by (with_reducible repeat (first | refine blk_drewN ?_ _ | refine blk_drew ?_ | refine blk_alloc ?_ _)); exact BK50001.out⟩, ⟨by (with_reducible repeat (first | refine blk_drewN ?_ _ | refine blk_drew ?_ | refine blk_alloc ?_ _)); exact BK50018.out⟩, ⟨by (with_reducible repeat (first | refine blk_drewN ?_ _ | refine blk_drew ?_ | refine blk_alloc ?_ _)); exact BK50026.out⟩, ⟨by (with_reducible repeat (first | refine blk_drewN ?_ _ | refine blk_drew ?_ | refine blk_alloc ?_ _)); exact BK50035.out⟩, ⟨by repeat (first | (with_reducible first | exact HB.out | apply below_alloc | apply pw_below_drewN | apply below_drew1 | refine below_set ?_ GE50001.out | refine below_set ?_ GE50018.out | refine below_set ?_ GE50026.out | refine below_set ?_ GE50035.out) | exact HB.out)⟩⟩
   ·replace c44 := Bool.eq_false_iff.mpr c44
    subst c44
    have H1 : (laws_FnExactLockFirm.j0 k a1 a2 t50017 t50034 true a0_0 l0_1 l0_2 t50010 t50011 t50014 t50019 t50020 t50023 t50027 t50028 t50031) = some true := by rw [if_neg (show ¬ (false = true) by decide)] at H; exact H
    clear H
    have H := H1
    clear H1
    have H' := Aside0.mk H
    clear H
    have hnb53 := NB50035_50001.out
    have hnc53 := NB50001_50035.out
    have hnb54 := NB50035_50018.out
    have hnc54 := NB50018_50035.out
    have hnb55 := NB50035_50026.out
    have hnc55 := NB50026_50035.out
    have hcz56_0 : w36.cell? ⟨gb50035, 0, none⟩ = some (.int .i64 0) := (blk_cell BK50035.out 0).trans rfl
    have hcz56_1 : w36.cell? ⟨gb50035, 1, none⟩ = some (.slice none 0 0) := (blk_cell BK50035.out 1).trans rfl
    have hcz56_2 : w36.cell? ⟨gb50035, 2, none⟩ = some (.slice none 0 0) := (blk_cell BK50035.out 2).trans rfl
    have hfz56_0 := blk_frozen BK50035.out 0
    have hfz56_1 := blk_frozen BK50035.out 1
    have hfz56_2 := blk_frozen BK50035.out 2
    have hnb57 := NB50018_50001.out
    have hnc57 := NB50001_50018.out
    have hnb58 := NB50018_50026.out
    have hnc58 := NB50026_50018.out
    have hcz59_0 : w36.cell? ⟨gb50018, 0, none⟩ = some (.int .i64 t50010) := (blk_cell BK50018.out 0).trans rfl
    have hcz59_1 : w36.cell? ⟨gb50018, 1, none⟩ = some (.slice Ao25 t50011.length co25) := (blk_cell BK50018.out 1).trans rfl
    have hcz59_2 : w36.cell? ⟨gb50018, 2, none⟩ = some (.slice Ao26 t50014.length co26) := (blk_cell BK50018.out 2).trans rfl
    have hfz59_0 := blk_frozen BK50018.out 0
    have hfz59_1 := blk_frozen BK50018.out 1
    have hfz59_2 := blk_frozen BK50018.out 2
    go_wp2_with (first | ((with_reducible refine gate_callee (f := 19) rfl ?_); refine goesL_ (some 42) rfl rfl Try.func19 (by kernel_rfl) rfl #[.agg #[.int .i64 t50027, .slice Ao41 t50028.length co41, .slice Ao42 t50031.length co42], .agg #[.int .i64 t50010, .slice Ao25 t50011.length co25, .slice Ao26 t50014.length co26]] rfl (by (try simp only [List.map_toArray, List.map_cons, List.map_nil]); first | done | rfl | (simp only [List.length_drop, List.length_take]; rfl)) ?_; (with_reducible refine (laws_eqLock.calls k t50027 _ _ t50028 _ _ t50031 t50010 _ _ t50011 _ _ t50014 false _ ?side1 ?side2 ?side3 ?side4 ?side5 ?side6 ?side7 ?side8 A43.out).mono ?_); (case side1 => refine (Kd.R_reads' (e := 45) (base := w.heap.size) (ok := fun k_ => ((((((some k_ ≠ (.slice Ao42 t50031.length co42 : Value).ownBlock ∧ some k_ ≠ (.slice Ao19 t50004.length co19 : Value).ownBlock) ∧ some k_ ≠ (.slice Ao20 t50007.length co20 : Value).ownBlock) ∧ some k_ ≠ (.slice Ao25 t50011.length co25 : Value).ownBlock) ∧ some k_ ≠ (.slice Ao26 t50014.length co26 : Value).ownBlock) ∧ some k_ ≠ (.slice Ao33 t50020.length co33 : Value).ownBlock) ∧ some k_ ≠ (.slice Ao34 t50023.length co34 : Value).ownBlock)) (n := t50028.length) (c := co41) ?_).2.2; exact (by (with_reducible repeat (first | apply Kd.R_alloc | apply Kd.R_drewN | apply Kd.R_drew)); exact (Kd.R_mono (Kd.R_far (p := ⟨gb50035, 2, none⟩) (Kd.R_far (p := ⟨gb50035, 1, none⟩) (Kd.R_far (p := ⟨gb50035, 0, none⟩) (Kd.R_types HO50030.out BK50035.out (by decide)) (fun _ hk => hk.2) (.int .i64 t50027)) (fun _ hk => hk.2) (.slice Ao41 t50028.length co41)) (fun _ hk => hk.2) (.slice Ao42 t50031.length co42)) (fun _ h_ => h_.1)))); (case side2 => exact (Kd.R_reads' HO50030.out).2.1); (case side3 => refine (Kd.R_reads' (e := 45) (base := w.heap.size) (ok := fun k_ => ((((((some k_ ≠ (.slice Ao41 t50028.length co41 : Value).ownBlock ∧ some k_ ≠ (.slice Ao19 t50004.length co19 : Value).ownBlock) ∧ some k_ ≠ (.slice Ao20 t50007.length co20 : Value).ownBlock) ∧ some k_ ≠ (.slice Ao25 t50011.length co25 : Value).ownBlock) ∧ some k_ ≠ (.slice Ao26 t50014.length co26 : Value).ownBlock) ∧ some k_ ≠ (.slice Ao33 t50020.length co33 : Value).ownBlock) ∧ some k_ ≠ (.slice Ao34 t50023.length co34 : Value).ownBlock)) (n := t50031.length) (c := co42) ?_).2.2; exact (by (with_reducible repeat (first | apply Kd.R_alloc | apply Kd.R_drewN | apply Kd.R_drew)); exact (Kd.R_mono (Kd.R_far (p := ⟨gb50035, 2, none⟩) (Kd.R_far (p := ⟨gb50035, 1, none⟩) (Kd.R_far (p := ⟨gb50035, 0, none⟩) (Kd.R_types HO50033.out BK50035.out (by decide)) (fun _ hk => hk.2) (.int .i64 t50027)) (fun _ hk => hk.2) (.slice Ao41 t50028.length co41)) (fun _ hk => hk.2) (.slice Ao42 t50031.length co42)) (fun _ h_ => h_.1)))); (case side4 => exact (Kd.R_reads' HO50033.out).2.1); (case side5 => refine (Kd.R_reads' (e := 45) (base := w.heap.size) (ok := fun k_ => ((((((some k_ ≠ (.slice Ao26 t50014.length co26 : Value).ownBlock ∧ some k_ ≠ (.slice Ao19 t50004.length co19 : Value).ownBlock) ∧ some k_ ≠ (.slice Ao20 t50007.length co20 : Value).ownBlock) ∧ some k_ ≠ (.slice Ao33 t50020.length co33 : Value).ownBlock) ∧ some k_ ≠ (.slice Ao34 t50023.length co34 : Value).ownBlock) ∧ some k_ ≠ (.slice Ao41 t50028.length co41 : Value).ownBlock) ∧ some k_ ≠ (.slice Ao42 t50031.length co42 : Value).ownBlock)) (n := t50011.length) (c := co25) ?_).2.2; exact (by (with_reducible repeat (first | apply Kd.R_alloc | apply Kd.R_drewN | apply Kd.R_drew)); exact (Kd.R_mono (Kd.R_far (p := ⟨gb50035, 2, none⟩) (Kd.R_far (p := ⟨gb50035, 1, none⟩) (Kd.R_far (p := ⟨gb50035, 0, none⟩) (Kd.R_types HO50013.out BK50035.out (by decide)) (fun _ hk => hk.2) (.int .i64 t50027)) (fun _ hk => hk.2) (.slice Ao41 t50028.length co41)) (fun _ hk => hk.2) (.slice Ao42 t50031.length co42)) (fun _ h_ => h_.1)))); (case side6 => exact (Kd.R_reads' HO50013.out).2.1); (case side7 => refine (Kd.R_reads' (e := 45) (base := w.heap.size) (ok := fun k_ => ((((((some k_ ≠ (.slice Ao25 t50011.length co25 : Value).ownBlock ∧ some k_ ≠ (.slice Ao19 t50004.length co19 : Value).ownBlock) ∧ some k_ ≠ (.slice Ao20 t50007.length co20 : Value).ownBlock) ∧ some k_ ≠ (.slice Ao33 t50020.length co33 : Value).ownBlock) ∧ some k_ ≠ (.slice Ao34 t50023.length co34 : Value).ownBlock) ∧ some k_ ≠ (.slice Ao41 t50028.length co41 : Value).ownBlock) ∧ some k_ ≠ (.slice Ao42 t50031.length co42 : Value).ownBlock)) (n := t50014.length) (c := co26) ?_).2.2; exact (by (with_reducible repeat (first | apply Kd.R_alloc | apply Kd.R_drewN | apply Kd.R_drew)); exact (Kd.R_mono (Kd.R_far (p := ⟨gb50035, 2, none⟩) (Kd.R_far (p := ⟨gb50035, 1, none⟩) (Kd.R_far (p := ⟨gb50035, 0, none⟩) (Kd.R_types HO50016.out BK50035.out (by decide)) (fun _ hk => hk.2) (.int .i64 t50027)) (fun _ hk => hk.2) (.slice Ao41 t50028.length co41)) (fun _ hk => hk.2) (.slice Ao42 t50031.length co42)) (fun _ h_ => h_.1)))); (case side8 => exact (Kd.R_reads' HO50016.out).2.1); rintro e w60 ⟨rfl, hb⟩; refine ⟨_, rfl, ?_⟩; have n0_ := Aside0.mk (Kd.R_below (by (with_reducible repeat (first | apply Kd.R_alloc | apply Kd.R_drewN | apply Kd.R_drew)); exact (Kd.R_mono (Kd.R_far (p := ⟨gb50035, 2, none⟩) (Kd.R_far (p := ⟨gb50035, 1, none⟩) (Kd.R_far (p := ⟨gb50035, 0, none⟩) (Kd.R_types HO50006.out BK50035.out (by decide)) (fun _ hk => hk.2) (.int .i64 t50027)) (fun _ hk => hk.2) (.slice Ao41 t50028.length co41)) (fun _ hk => hk.2) (.slice Ao42 t50031.length co42)) (fun _ h_ => h_.1))) hb); have n1_ := Aside0.mk (Kd.R_below (by (with_reducible repeat (first | apply Kd.R_alloc | apply Kd.R_drewN | apply Kd.R_drew)); exact (Kd.R_mono (Kd.R_far (p := ⟨gb50035, 2, none⟩) (Kd.R_far (p := ⟨gb50035, 1, none⟩) (Kd.R_far (p := ⟨gb50035, 0, none⟩) (Kd.R_types HO50009.out BK50035.out (by decide)) (fun _ hk => hk.2) (.int .i64 t50027)) (fun _ hk => hk.2) (.slice Ao41 t50028.length co41)) (fun _ hk => hk.2) (.slice Ao42 t50031.length co42)) (fun _ h_ => h_.1))) hb); have n2_ := Aside0.mk (Kd.R_below (by (with_reducible repeat (first | apply Kd.R_alloc | apply Kd.R_drewN | apply Kd.R_drew)); exact (Kd.R_mono (Kd.R_far (p := ⟨gb50035, 2, none⟩) (Kd.R_far (p := ⟨gb50035, 1, none⟩) (Kd.R_far (p := ⟨gb50035, 0, none⟩) (Kd.R_types HO50013.out BK50035.out (by decide)) (fun _ hk => hk.2) (.int .i64 t50027)) (fun _ hk => hk.2) (.slice Ao41 t50028.length co41)) (fun _ hk => hk.2) (.slice Ao42 t50031.length co42)) (fun _ h_ => h_.1))) hb); have n3_ := Aside0.mk (Kd.R_below (by (with_reducible repeat (first | apply Kd.R_alloc | apply Kd.R_drewN | apply Kd.R_drew)); exact (Kd.R_mono (Kd.R_far (p := ⟨gb50035, 2, none⟩) (Kd.R_far (p := ⟨gb50035, 1, none⟩) (Kd.R_far (p := ⟨gb50035, 0, none⟩) (Kd.R_types HO50016.out BK50035.out (by decide)) (fun _ hk => hk.2) (.int .i64 t50027)) (fun _ hk => hk.2) (.slice Ao41 t50028.length co41)) (fun _ hk => hk.2) (.slice Ao42 t50031.length co42)) (fun _ h_ => h_.1))) hb); have n4_ := Aside0.mk (Kd.R_below (by (with_reducible repeat (first | apply Kd.R_alloc | apply Kd.R_drewN | apply Kd.R_drew)); exact (Kd.R_mono (Kd.R_far (p := ⟨gb50035, 2, none⟩) (Kd.R_far (p := ⟨gb50035, 1, none⟩) (Kd.R_far (p := ⟨gb50035, 0, none⟩) (Kd.R_types HO50022.out BK50035.out (by decide)) (fun _ hk => hk.2) (.int .i64 t50027)) (fun _ hk => hk.2) (.slice Ao41 t50028.length co41)) (fun _ hk => hk.2) (.slice Ao42 t50031.length co42)) (fun _ h_ => h_.1))) hb); have n5_ := Aside0.mk (Kd.R_below (by (with_reducible repeat (first | apply Kd.R_alloc | apply Kd.R_drewN | apply Kd.R_drew)); exact (Kd.R_mono (Kd.R_far (p := ⟨gb50035, 2, none⟩) (Kd.R_far (p := ⟨gb50035, 1, none⟩) (Kd.R_far (p := ⟨gb50035, 0, none⟩) (Kd.R_types HO50025.out BK50035.out (by decide)) (fun _ hk => hk.2) (.int .i64 t50027)) (fun _ hk => hk.2) (.slice Ao41 t50028.length co41)) (fun _ hk => hk.2) (.slice Ao42 t50031.length co42)) (fun _ h_ => h_.1))) hb); have n6_ := Aside0.mk (Kd.R_below (by (with_reducible repeat (first | apply Kd.R_alloc | apply Kd.R_drewN | apply Kd.R_drew)); exact (Kd.R_mono (Kd.R_far (p := ⟨gb50035, 2, none⟩) (Kd.R_far (p := ⟨gb50035, 1, none⟩) (Kd.R_far (p := ⟨gb50035, 0, none⟩) (Kd.R_types HO50030.out BK50035.out (by decide)) (fun _ hk => hk.2) (.int .i64 t50027)) (fun _ hk => hk.2) (.slice Ao41 t50028.length co41)) (fun _ hk => hk.2) (.slice Ao42 t50031.length co42)) (fun _ h_ => h_.1))) hb); have n7_ := Aside0.mk (Kd.R_below (by (with_reducible repeat (first | apply Kd.R_alloc | apply Kd.R_drewN | apply Kd.R_drew)); exact (Kd.R_mono (Kd.R_far (p := ⟨gb50035, 2, none⟩) (Kd.R_far (p := ⟨gb50035, 1, none⟩) (Kd.R_far (p := ⟨gb50035, 0, none⟩) (Kd.R_types HO50033.out BK50035.out (by decide)) (fun _ hk => hk.2) (.int .i64 t50027)) (fun _ hk => hk.2) (.slice Ao41 t50028.length co41)) (fun _ hk => hk.2) (.slice Ao42 t50031.length co42)) (fun _ h_ => h_.1))) hb); have n8_ := Aside0.mk (blk_below (g := gb50001) (o := .cells #[.int .i64 a0_0, .slice A0_1 l0_1.length c0_1, .slice A0_2 l0_2.length c0_2] 24 (0, 0)) (by (with_reducible repeat (first | refine blk_drewN ?_ _ | refine blk_drew ?_ | refine blk_alloc ?_ _)); refine blk_far ?_ NB50001_50035.out _; (with_reducible repeat (first | refine blk_drewN ?_ _ | refine blk_drew ?_ | refine blk_alloc ?_ _)); refine blk_far ?_ NB50001_50035.out _; (with_reducible repeat (first | refine blk_drewN ?_ _ | refine blk_drew ?_ | refine blk_alloc ?_ _)); refine blk_far ?_ NB50001_50035.out _; (with_reducible repeat (first | refine blk_drewN ?_ _ | refine blk_drew ?_ | refine blk_alloc ?_ _)); exact BK50001.out) hb); have n9_ := Aside0.mk (blk_below (g := gb50018) (o := .cells #[.int .i64 t50010, .slice Ao25 t50011.length co25, .slice Ao26 t50014.length co26] 29 (0, 0)) (by (with_reducible repeat (first | refine blk_drewN ?_ _ | refine blk_drew ?_ | refine blk_alloc ?_ _)); refine blk_far ?_ NB50018_50035.out _; (with_reducible repeat (first | refine blk_drewN ?_ _ | refine blk_drew ?_ | refine blk_alloc ?_ _)); refine blk_far ?_ NB50018_50035.out _; (with_reducible repeat (first | refine blk_drewN ?_ _ | refine blk_drew ?_ | refine blk_alloc ?_ _)); refine blk_far ?_ NB50018_50035.out _; (with_reducible repeat (first | refine blk_drewN ?_ _ | refine blk_drew ?_ | refine blk_alloc ?_ _)); exact BK50018.out) hb); have n10_ := Aside0.mk (blk_below (g := gb50026) (o := .cells #[.int .i64 t50019, .slice Ao33 t50020.length co33, .slice Ao34 t50023.length co34] 29 (0, 0)) (by (with_reducible repeat (first | refine blk_drewN ?_ _ | refine blk_drew ?_ | refine blk_alloc ?_ _)); refine blk_far ?_ NB50026_50035.out _; (with_reducible repeat (first | refine blk_drewN ?_ _ | refine blk_drew ?_ | refine blk_alloc ?_ _)); refine blk_far ?_ NB50026_50035.out _; (with_reducible repeat (first | refine blk_drewN ?_ _ | refine blk_drew ?_ | refine blk_alloc ?_ _)); refine blk_far ?_ NB50026_50035.out _; (with_reducible repeat (first | refine blk_drewN ?_ _ | refine blk_drew ?_ | refine blk_alloc ?_ _)); exact BK50026.out) hb); have n11_ := Aside0.mk (blk_below (g := gb50035) (o := .cells #[.int .i64 t50027, .slice Ao41 t50028.length co41, .slice Ao42 t50031.length co42] 29 (0, 0)) (by (with_reducible repeat (first | refine blk_drewN ?_ _ | refine blk_drew ?_ | refine blk_alloc ?_ _)); refine blk_put (cs := #[.int .i64 t50027, .slice Ao41 t50028.length co41, .slice none 0 0]) ?_ 2 _ rfl; (with_reducible repeat (first | refine blk_drewN ?_ _ | refine blk_drew ?_ | refine blk_alloc ?_ _)); refine blk_put (cs := #[.int .i64 t50027, .slice none 0 0, .slice none 0 0]) ?_ 1 _ rfl; (with_reducible repeat (first | refine blk_drewN ?_ _ | refine blk_drew ?_ | refine blk_alloc ?_ _)); refine blk_put (cs := #[.int .i64 0, .slice none 0 0, .slice none 0 0]) ?_ 0 _ rfl; (with_reducible repeat (first | refine blk_drewN ?_ _ | refine blk_drew ?_ | refine blk_alloc ?_ _)); exact BK50035.out) hb); have n12_ := Aside0.mk (below_step (by repeat (first | (with_reducible first | exact HB.out | apply below_alloc | apply pw_below_drewN | apply below_drew1 | refine below_set ?_ GE50001.out | refine below_set ?_ GE50018.out | refine below_set ?_ GE50026.out | refine below_set ?_ GE50035.out) | exact HB.out)) hb); clear HO50006; clear HO50009; clear HO50013; clear HO50016; clear HO50022; clear HO50025; clear HO50030; clear HO50033; clear BK50001; clear BK50018; clear BK50026; clear BK50035; clear HB; have HO50006 := n0_; have HO50009 := n1_; have HO50013 := n2_; have HO50016 := n3_; have HO50022 := n4_; have HO50025 := n5_; have HO50030 := n6_; have HO50033 := n7_; have BK50001 := n8_; have BK50018 := n9_; have BK50026 := n10_; have BK50035 := n11_; have HB := n12_; clear n0_ n1_ n2_ n3_ n4_ n5_ n6_ n7_ n8_ n9_ n10_ n11_ n12_; (try clear hb); (try clear hb2); (try clear hk); (try clear hi)))
    go_meet
    case rel => exact ⟨_, (true), (by first | rfl | (simp; done) | (simp [*]; done)), H', ⟨by first | omega | exact Nat.le_refl _⟩, ⟨by (with_reducible repeat (first | apply Kd.R_alloc | apply Kd.R_drewN | apply Kd.R_drew)); exact Kd.R_mono HO50013.out (fun _ hk => ⟨hk.1.1.1.1.1.1, ⟨hk.1.1.1.2, ⟨hk.1.1.2, ⟨hk.1.2, hk.2⟩⟩⟩⟩)⟩, ⟨by (with_reducible repeat (first | apply Kd.R_alloc | apply Kd.R_drewN | apply Kd.R_drew)); exact Kd.R_mono HO50016.out (fun _ hk => ⟨hk.1.1.1.1.1.1, ⟨hk.1.1.1.2, ⟨hk.1.1.2, ⟨hk.1.2, hk.2⟩⟩⟩⟩)⟩, ⟨by (with_reducible repeat (first | apply Kd.R_alloc | apply Kd.R_drewN | apply Kd.R_drew)); exact Kd.R_mono HO50022.out (fun _ hk => ⟨hk.1.1.1.2, ⟨hk.1.1.2, ⟨hk.1.1.1.1.1.1, ⟨hk.1.2, hk.2⟩⟩⟩⟩)⟩, ⟨by (with_reducible repeat (first | apply Kd.R_alloc | apply Kd.R_drewN | apply Kd.R_drew)); exact Kd.R_mono HO50025.out (fun _ hk => ⟨hk.1.1.1.2, ⟨hk.1.1.2, ⟨hk.1.1.1.1.1.1, ⟨hk.1.2, hk.2⟩⟩⟩⟩)⟩, ⟨by (with_reducible repeat (first | apply Kd.R_alloc | apply Kd.R_drewN | apply Kd.R_drew)); exact Kd.R_mono HO50030.out (fun _ hk => ⟨hk.1.1.1.2, ⟨hk.1.1.2, ⟨hk.1.2, ⟨hk.2, hk.1.1.1.1.1.1⟩⟩⟩⟩)⟩, ⟨by (with_reducible repeat (first | apply Kd.R_alloc | apply Kd.R_drewN | apply Kd.R_drew)); exact Kd.R_mono HO50033.out (fun _ hk => ⟨hk.1.1.1.2, ⟨hk.1.1.2, ⟨hk.1.2, ⟨hk.2, hk.1.1.1.1.1.1⟩⟩⟩⟩)⟩, ⟨by (with_reducible repeat (first | refine blk_drewN ?_ _ | refine blk_drew ?_ | refine blk_alloc ?_ _)); exact BK50001.out⟩, ⟨by (with_reducible repeat (first | refine blk_drewN ?_ _ | refine blk_drew ?_ | refine blk_alloc ?_ _)); exact BK50018.out⟩, ⟨by (with_reducible repeat (first | refine blk_drewN ?_ _ | refine blk_drew ?_ | refine blk_alloc ?_ _)); exact BK50026.out⟩, ⟨by (with_reducible repeat (first | refine blk_drewN ?_ _ | refine blk_drew ?_ | refine blk_alloc ?_ _)); exact BK50035.out⟩, ⟨by repeat (first | (with_reducible first | exact HB.out | apply below_alloc | apply pw_below_drewN | apply below_drew1 | refine below_set ?_ GE50001.out | refine below_set ?_ GE50018.out | refine below_set ?_ GE50026.out | refine below_set ?_ GE50035.out) | exact HB.out)⟩⟩
  case rest =>
   clear HC13
   try clear c1
   try clear c2
   try clear p2
   try clear c3
   try clear c4
   try clear c5
   try clear c5b0
   try clear c15
   try clear c17
   try clear c19
   try clear c20
   try clear c21
   try clear c23
   try clear c30
   try clear c31
   try clear c37
   try clear c38
   try clear c39
   try clear c44
   try clear c45
   try clear c46
   try clear c47
   try clear c49
   try clear c50
   try clear c53
   try clear c54
   try clear c55
   try clear c57
   try clear c58
   try clear hcz15_0
   try clear hcz15_1
   try clear hcz15_2
   try clear hcz17_0
   try clear hcz17_1
   try clear hcz17_2
   try clear hcz24_0
   try clear hcz24_1
   try clear hcz24_2
   try clear hcz27_0
   try clear hcz27_1
   try clear hcz27_2
   try clear hcz32_0
   try clear hcz32_1
   try clear hcz32_2
   try clear hcz40_0
   try clear hcz40_1
   try clear hcz40_2
   try clear hcz48_0
   try clear hcz48_1
   try clear hcz48_2
   try clear hcz51_0
   try clear hcz51_1
   try clear hcz51_2
   try clear hcz56_0
   try clear hcz56_1
   try clear hcz56_2
   try clear hcz59_0
   try clear hcz59_1
   try clear hcz59_2
   try clear hcz7_0
   try clear hcz7_1
   try clear hcz7_2
   try clear hfz15_0
   try clear hfz15_1
   try clear hfz15_2
   try clear hfz17_0
   try clear hfz17_1
   try clear hfz17_2
   try clear hfz24_0
   try clear hfz24_1
   try clear hfz24_2
   try clear hfz27_0
   try clear hfz27_1
   try clear hfz27_2
   try clear hfz32_0
   try clear hfz32_1
   try clear hfz32_2
   try clear hfz40_0
   try clear hfz40_1
   try clear hfz40_2
   try clear hfz48_0
   try clear hfz48_1
   try clear hfz48_2
   try clear hfz51_0
   try clear hfz51_1
   try clear hfz51_2
   try clear hfz56_0
   try clear hfz56_1
   try clear hfz56_2
   try clear hfz59_0
   try clear hfz59_1
   try clear hfz59_2
   try clear hfz7_0
   try clear hfz7_1
   try clear hfz7_2
   obtain ⟨kq, x48_12, rfl, HA, HJ12, HO_50019001, HO_50019002, HO_50027001, HO_50027002, HO_50036001, HO_50036002, BK50001, BK50018, BK50026, BK50035, HB⟩ := hcut
   cases kq with
   | zero => exact absurd HA.out (by simp [laws_FnExactLockFirm.j0])
   | succ kj12 =>
    have H := HA.out
    clear HA
    simp only [laws_FnExactLockFirm.j0] at H
    by_cases c61 : x48_12 = true
    ·subst c61
     have H1 : (some false) = some true := by rw [if_pos rfl] at H; exact H
     clear H
     have H := H1
     clear H1
     exact absurd H (by decide)
    ·replace c61 := Bool.eq_false_iff.mpr c61
     subst c61
     have H1 : ((laws_toLock.f kj12 a0_0 l0_1 l0_2).bind fun bt50037 => ((laws_eqLock.f kj12 t50019 t50020 t50023 bt50037.1 bt50037.2.1 bt50037.2.2).bind fun t50044 => (if t50044 = true then ((laws_markLock.f kj12 t50019 t50020 t50023 1).bind fun bt50045 => (if bt50045.1 < 0 then (laws_FnExactLockFirm.j1 kj12 a1 a2 t50017 true a0_0 l0_1 l0_2 t50010 t50011 t50014 t50027 t50028 t50031) else ((laws_eqLock.f kj12 t50027 t50028 t50031 t50010 t50011 t50014).bind fun t50048 => (if t50048 = true then (laws_FnExactLockFirm.j1 kj12 a1 a2 t50017 (t50034 != t50017) a0_0 l0_1 l0_2 t50010 t50011 t50014 t50027 t50028 t50031) else (laws_FnExactLockFirm.j1 kj12 a1 a2 t50017 true a0_0 l0_1 l0_2 t50010 t50011 t50014 t50027 t50028 t50031))))) else (some false)))) = some true := by rw [if_neg (show ¬ (false = true) by decide)] at H; exact H
     clear H
     have H := H1
     clear H1
     replace H := Option.bind_eq_some_iff.mp H
     obtain ⟨⟨t50037, t50038, t50041⟩, A620, H⟩ := H
     replace H : ((laws_eqLock.f kj12 t50019 t50020 t50023 t50037 t50038 t50041).bind fun t50044 => (if t50044 = true then ((laws_markLock.f kj12 t50019 t50020 t50023 1).bind fun bt50045 => (if bt50045.1 < 0 then (laws_FnExactLockFirm.j1 kj12 a1 a2 t50017 true a0_0 l0_1 l0_2 t50010 t50011 t50014 t50027 t50028 t50031) else ((laws_eqLock.f kj12 t50027 t50028 t50031 t50010 t50011 t50014).bind fun t50048 => (if t50048 = true then (laws_FnExactLockFirm.j1 kj12 a1 a2 t50017 (t50034 != t50017) a0_0 l0_1 l0_2 t50010 t50011 t50014 t50027 t50028 t50031) else (laws_FnExactLockFirm.j1 kj12 a1 a2 t50017 true a0_0 l0_1 l0_2 t50010 t50011 t50014 t50027 t50028 t50031))))) else (some false))) = some true := H
     have A62 := Aside0.mk A620
     clear A620
     replace H := Option.bind_eq_some_iff.mp H
     obtain ⟨t50044, A630, H⟩ := H
     replace H : (if t50044 = true then ((laws_markLock.f kj12 t50019 t50020 t50023 1).bind fun bt50045 => (if bt50045.1 < 0 then (laws_FnExactLockFirm.j1 kj12 a1 a2 t50017 true a0_0 l0_1 l0_2 t50010 t50011 t50014 t50027 t50028 t50031) else ((laws_eqLock.f kj12 t50027 t50028 t50031 t50010 t50011 t50014).bind fun t50048 => (if t50048 = true then (laws_FnExactLockFirm.j1 kj12 a1 a2 t50017 (t50034 != t50017) a0_0 l0_1 l0_2 t50010 t50011 t50014 t50027 t50028 t50031) else (laws_FnExactLockFirm.j1 kj12 a1 a2 t50017 true a0_0 l0_1 l0_2 t50010 t50011 t50014 t50027 t50028 t50031))))) else (some false)) = some true := H
     have A63 := Aside0.mk A630
     clear A630
     by_cases c64 : t50044 = true
     ·subst c64
      have H1 : ((laws_markLock.f kj12 t50019 t50020 t50023 1).bind fun bt50045 => (if bt50045.1 < 0 then (laws_FnExactLockFirm.j1 kj12 a1 a2 t50017 true a0_0 l0_1 l0_2 t50010 t50011 t50014 t50027 t50028 t50031) else ((laws_eqLock.f kj12 t50027 t50028 t50031 t50010 t50011 t50014).bind fun t50048 => (if t50048 = true then (laws_FnExactLockFirm.j1 kj12 a1 a2 t50017 (t50034 != t50017) a0_0 l0_1 l0_2 t50010 t50011 t50014 t50027 t50028 t50031) else (laws_FnExactLockFirm.j1 kj12 a1 a2 t50017 true a0_0 l0_1 l0_2 t50010 t50011 t50014 t50027 t50028 t50031))))) = some true := by rw [if_pos rfl] at H; exact H
      clear H
      have H := H1
      clear H1
      replace H := Option.bind_eq_some_iff.mp H
      obtain ⟨⟨t50045, t50046, t50047⟩, A650, H⟩ := H
      replace H : (if t50045 < 0 then (laws_FnExactLockFirm.j1 kj12 a1 a2 t50017 true a0_0 l0_1 l0_2 t50010 t50011 t50014 t50027 t50028 t50031) else ((laws_eqLock.f kj12 t50027 t50028 t50031 t50010 t50011 t50014).bind fun t50048 => (if t50048 = true then (laws_FnExactLockFirm.j1 kj12 a1 a2 t50017 (t50034 != t50017) a0_0 l0_1 l0_2 t50010 t50011 t50014 t50027 t50028 t50031) else (laws_FnExactLockFirm.j1 kj12 a1 a2 t50017 true a0_0 l0_1 l0_2 t50010 t50011 t50014 t50027 t50028 t50031)))) = some true := H
      have A65 := Aside0.mk A650
      clear A650
      have HC66 := Aside0.mk H
      clear H
      try go_wp2
      have n0_ := Aside0.mk (Kd.R_drew HO_50019001.out)
      have n1_ := Aside0.mk (Kd.R_drew HO_50019002.out)
      have n2_ := Aside0.mk (Kd.R_drew HO_50027001.out)
      have n3_ := Aside0.mk (Kd.R_drew HO_50027002.out)
      have n4_ := Aside0.mk (Kd.R_drew HO_50036001.out)
      have n5_ := Aside0.mk (Kd.R_drew HO_50036002.out)
      have n6_ := Aside0.mk (blk_drew BK50001.out)
      have n7_ := Aside0.mk (blk_drew BK50018.out)
      have n8_ := Aside0.mk (blk_drew BK50026.out)
      have n9_ := Aside0.mk (blk_drew BK50035.out)
      have n10_ := Aside0.mk (below_drew1 HB.out)
      clear HO_50019001
      clear HO_50019002
      clear HO_50027001
      clear HO_50027002
      clear HO_50036001
      clear HO_50036002
      clear BK50001
      clear BK50018
      clear BK50026
      clear BK50035
      clear HB
      have HO_50019001 := n0_
      have HO_50019002 := n1_
      have HO_50027001 := n2_
      have HO_50027002 := n3_
      have HO_50036001 := n4_
      have HO_50036002 := n5_
      have BK50001 := n6_
      have BK50018 := n7_
      have BK50026 := n8_
      have BK50035 := n9_
      have HB := n10_
      clear n0_ n1_ n2_ n3_ n4_ n5_ n6_ n7_ n8_ n9_ n10_
      refine start_ (n := 5) (S := fun w' => w'.cell? ⟨gb50026, 0, none⟩ = some (.int .i64 t50019) ∧ w'.cell? ⟨gb50026, 1, none⟩ = some (.slice Ao33 t50020.length co33) ∧ w'.cell? ⟨gb50026, 2, none⟩ = some (.slice Ao34 t50023.length co34) ∧ w'.cell? ⟨gb50001, 0, none⟩ = some (.int .i64 a0_0) ∧ w'.cell? ⟨gb50001, 1, none⟩ = some (.slice A0_1 l0_1.length c0_1) ∧ w'.cell? ⟨gb50001, 2, none⟩ = some (.slice A0_2 l0_2.length c0_2)) (ds := []) (bt_ 5 0) (by kernel_rfl) rfl rfl ⟨(blk_cell BK50026.out 0).trans rfl, (blk_cell BK50026.out 1).trans rfl, (blk_cell BK50026.out 2).trans rfl, (blk_cell BK50001.out 0).trans rfl, (blk_cell BK50001.out 1).trans rfl, (blk_cell BK50001.out 2).trans rfl⟩ (fun hHeld => ?_)
      generalize wc.drew = w67 at HO_50019001 HO_50019002 HO_50027001 HO_50027002 HO_50036001 HO_50036002 BK50001 BK50018 BK50026 BK50035 HB hHeld ⊢
      refine tk_ 0 (some 49) (bt_ 5 1) (by kernel_rfl) hHeld ?_
      refine tk_ 1 (some 50) (bt_ 5 3) (by kernel_rfl) hHeld ?_
      refine one_ (i := 2) (N := some 51) (bt_ 5 7) rfl rfl (by kernel_rfl) (by decide) (fun K hK => ?_)
      refine goes_ Try.func17 (by kernel_rfl) rfl #[.agg #[.int .i64 a0_0, .slice A0_1 l0_1.length c0_1, .slice A0_2 l0_2.length c0_2]] (by rfl) rfl rfl (by (try simp only [List.map_toArray, List.map_cons, List.map_nil]); first | done | rfl | (simp only [List.length_drop, List.length_take]; rfl)) ?_
      with_reducible refine (laws_toLock.calls kj12 a0_0 _ _ l0_1 _ _ l0_2 t50037 t50038 t50041 _ ?side1 ?side2 ?side3 ?side4 A62.out).mono ?_
      (case side1 => repeat (first | exact (Kd.C_below HR0_1.out HB.out) | (with_reducible refine Kd.C_alloc ?_ _) | (with_reducible refine Kd.C_drewN ?_ _) | (with_reducible refine Kd.C_drew ?_)))
      (case side2 => exact HC0_1.out)
      (case side3 => repeat (first | exact (Kd.C_below HR0_2.out HB.out) | (with_reducible refine Kd.C_alloc ?_ _) | (with_reducible refine Kd.C_drewN ?_ _) | (with_reducible refine Kd.C_drew ?_)))
      (case side4 => exact HC0_2.out)
      rintro e w68 ⟨v50039, v50042, rfl, ho0, ho1, hb⟩
      refine ⟨_, rfl, ?_⟩
      have n0_ := Aside0.mk (Kd.R_mono (Kd.R_told (Kd.R_told (Kd.R_old (by (with_reducible repeat (first | apply Kd.R_alloc | apply Kd.R_drewN | apply Kd.R_drew)); exact HO_50019001.out) hb) (Kd.R_base ho0)) (Kd.R_base ho1)) (fun _ h_ => h_.1))
      have n1_ := Aside0.mk (Kd.R_mono (Kd.R_told (Kd.R_told (Kd.R_old (by (with_reducible repeat (first | apply Kd.R_alloc | apply Kd.R_drewN | apply Kd.R_drew)); exact HO_50019002.out) hb) (Kd.R_base ho0)) (Kd.R_base ho1)) (fun _ h_ => h_.1))
      have n2_ := Aside0.mk (Kd.R_mono (Kd.R_told (Kd.R_told (Kd.R_old (by (with_reducible repeat (first | apply Kd.R_alloc | apply Kd.R_drewN | apply Kd.R_drew)); exact HO_50027001.out) hb) (Kd.R_base ho0)) (Kd.R_base ho1)) (fun _ h_ => h_.1))
      have n3_ := Aside0.mk (Kd.R_mono (Kd.R_told (Kd.R_told (Kd.R_old (by (with_reducible repeat (first | apply Kd.R_alloc | apply Kd.R_drewN | apply Kd.R_drew)); exact HO_50027002.out) hb) (Kd.R_base ho0)) (Kd.R_base ho1)) (fun _ h_ => h_.1))
      have n4_ := Aside0.mk (Kd.R_mono (Kd.R_told (Kd.R_told (Kd.R_old (by (with_reducible repeat (first | apply Kd.R_alloc | apply Kd.R_drewN | apply Kd.R_drew)); exact HO_50036001.out) hb) (Kd.R_base ho0)) (Kd.R_base ho1)) (fun _ h_ => h_.1))
      have n5_ := Aside0.mk (Kd.R_mono (Kd.R_told (Kd.R_told (Kd.R_old (by (with_reducible repeat (first | apply Kd.R_alloc | apply Kd.R_drewN | apply Kd.R_drew)); exact HO_50036002.out) hb) (Kd.R_base ho0)) (Kd.R_base ho1)) (fun _ h_ => h_.1))
      have n6_ := Aside0.mk (Kd.R_lower (Kd.R_new' (Kd.R_new' (Kd.R_new' (Kd.R_new' (Kd.R_new' (Kd.R_new' ho0 (Kd.R_lt (by (with_reducible repeat (first | apply Kd.R_alloc | apply Kd.R_drewN | apply Kd.R_drew)); exact HO_50019001.out))) (Kd.R_lt (by (with_reducible repeat (first | apply Kd.R_alloc | apply Kd.R_drewN | apply Kd.R_drew)); exact HO_50019002.out))) (Kd.R_lt (by (with_reducible repeat (first | apply Kd.R_alloc | apply Kd.R_drewN | apply Kd.R_drew)); exact HO_50027001.out))) (Kd.R_lt (by (with_reducible repeat (first | apply Kd.R_alloc | apply Kd.R_drewN | apply Kd.R_drew)); exact HO_50027002.out))) (Kd.R_lt (by (with_reducible repeat (first | apply Kd.R_alloc | apply Kd.R_drewN | apply Kd.R_drew)); exact HO_50036001.out))) (Kd.R_lt (by (with_reducible repeat (first | apply Kd.R_alloc | apply Kd.R_drewN | apply Kd.R_drew)); exact HO_50036002.out))) (below_size (by repeat (first | (with_reducible first | exact HB.out | apply below_alloc | apply pw_below_drewN | apply below_drew1 | refine below_set ?_ GE50001.out | refine below_set ?_ GE50018.out | refine below_set ?_ GE50026.out | refine below_set ?_ GE50035.out) | exact HB.out))))
      have n7_ := Aside0.mk (Kd.R_lower (Kd.R_new' (Kd.R_new' (Kd.R_new' (Kd.R_new' (Kd.R_new' (Kd.R_new' ho1 (Kd.R_lt (by (with_reducible repeat (first | apply Kd.R_alloc | apply Kd.R_drewN | apply Kd.R_drew)); exact HO_50019001.out))) (Kd.R_lt (by (with_reducible repeat (first | apply Kd.R_alloc | apply Kd.R_drewN | apply Kd.R_drew)); exact HO_50019002.out))) (Kd.R_lt (by (with_reducible repeat (first | apply Kd.R_alloc | apply Kd.R_drewN | apply Kd.R_drew)); exact HO_50027001.out))) (Kd.R_lt (by (with_reducible repeat (first | apply Kd.R_alloc | apply Kd.R_drewN | apply Kd.R_drew)); exact HO_50027002.out))) (Kd.R_lt (by (with_reducible repeat (first | apply Kd.R_alloc | apply Kd.R_drewN | apply Kd.R_drew)); exact HO_50036001.out))) (Kd.R_lt (by (with_reducible repeat (first | apply Kd.R_alloc | apply Kd.R_drewN | apply Kd.R_drew)); exact HO_50036002.out))) (below_size (by repeat (first | (with_reducible first | exact HB.out | apply below_alloc | apply pw_below_drewN | apply below_drew1 | refine below_set ?_ GE50001.out | refine below_set ?_ GE50018.out | refine below_set ?_ GE50026.out | refine below_set ?_ GE50035.out) | exact HB.out))))
      have n8_ := Aside0.mk (blk_below (g := gb50001) (o := .cells #[.int .i64 a0_0, .slice A0_1 l0_1.length c0_1, .slice A0_2 l0_2.length c0_2] 24 (0, 0)) (by (with_reducible repeat (first | refine blk_drewN ?_ _ | refine blk_drew ?_ | refine blk_alloc ?_ _)); exact BK50001.out) hb)
      have n9_ := Aside0.mk (blk_below (g := gb50018) (o := .cells #[.int .i64 t50010, .slice Ao25 t50011.length co25, .slice Ao26 t50014.length co26] 29 (0, 0)) (by (with_reducible repeat (first | refine blk_drewN ?_ _ | refine blk_drew ?_ | refine blk_alloc ?_ _)); exact BK50018.out) hb)
      have n10_ := Aside0.mk (blk_below (g := gb50026) (o := .cells #[.int .i64 t50019, .slice Ao33 t50020.length co33, .slice Ao34 t50023.length co34] 29 (0, 0)) (by (with_reducible repeat (first | refine blk_drewN ?_ _ | refine blk_drew ?_ | refine blk_alloc ?_ _)); exact BK50026.out) hb)
      have n11_ := Aside0.mk (blk_below (g := gb50035) (o := .cells #[.int .i64 t50027, .slice Ao41 t50028.length co41, .slice Ao42 t50031.length co42] 29 (0, 0)) (by (with_reducible repeat (first | refine blk_drewN ?_ _ | refine blk_drew ?_ | refine blk_alloc ?_ _)); exact BK50035.out) hb)
      have n12_ := Aside0.mk (below_step (by repeat (first | (with_reducible first | exact HB.out | apply below_alloc | apply pw_below_drewN | apply below_drew1 | refine below_set ?_ GE50001.out | refine below_set ?_ GE50018.out | refine below_set ?_ GE50026.out | refine below_set ?_ GE50035.out) | exact HB.out)) hb)
      clear HO_50019001
      clear HO_50019002
      clear HO_50027001
      clear HO_50027002
      clear HO_50036001
      clear HO_50036002
      clear BK50001
      clear BK50018
      clear BK50026
      clear BK50035
      clear HB
      have HO_50019001 := n0_
      have HO_50019002 := n1_
      have HO_50027001 := n2_
      have HO_50027002 := n3_
      have HO_50036001 := n4_
      have HO_50036002 := n5_
      have HO50040 := n6_
      have HO50043 := n7_
      have BK50001 := n8_
      have BK50018 := n9_
      have BK50026 := n10_
      have BK50035 := n11_
      have HB := n12_
      clear n0_ n1_ n2_ n3_ n4_ n5_ n6_ n7_ n8_ n9_ n10_ n11_ n12_
      (try clear hb)
      (try clear hb2)
      (try clear hk)
      (try clear hi)
      (try clear ho0)
      (try clear ho1)
      obtain ⟨Ao69, co69, eo69⟩ := Kd.R_slice HO50040.out
      (first | subst eo69 | (injection eo69 with f1_ f2_ f3_; have f4_ := f1_.symm; have f5_ := f3_.symm; clear f1_ f2_ f3_; subst f4_; subst f5_))
      obtain ⟨Ao70, co70, eo70⟩ := Kd.R_slice HO50043.out
      (first | subst eo70 | (injection eo70 with f1_ f2_ f3_; have f4_ := f1_.symm; have f5_ := f3_.symm; clear f1_ f2_ f3_; subst f4_; subst f5_))
      refine hK.out _ _ ⟨(blk_cell BK50026.out 0).trans rfl, (blk_cell BK50026.out 1).trans rfl, (blk_cell BK50026.out 2).trans rfl, (blk_cell BK50001.out 0).trans rfl, (blk_cell BK50001.out 1).trans rfl, (blk_cell BK50001.out 2).trans rfl⟩ (fun hHeld => ?_)
      clear hK K
      refine norm_ (a' := ?_) ?_ ?_
      rotate_left
      ·show Act.put _ (some 51) _ = _
       simp only [Act.put, List.setIfInBounds_toArray, List.set_cons_zero, List.set_cons_succ, i64_w, i32_w]
       rfl
      refine one_ (i := 3) (N := some 52) (bt_ 5 15) rfl rfl (by kernel_rfl) (by decide) (fun K hK => ?_)
      refine goes_ Try.func19 (by kernel_rfl) rfl #[.agg #[.int .i64 t50019, .slice Ao33 t50020.length co33, .slice Ao34 t50023.length co34], .agg #[.int .i64 t50037, .slice Ao69 t50038.length co69, .slice Ao70 t50041.length co70]] (by rfl) rfl rfl (by (try simp only [List.map_toArray, List.map_cons, List.map_nil]); first | done | rfl | (simp only [List.length_drop, List.length_take]; rfl)) ?_
      with_reducible refine (laws_eqLock.calls kj12 t50019 _ _ t50020 _ _ t50023 t50037 _ _ t50038 _ _ t50041 true _ ?side1 ?side2 ?side3 ?side4 ?side5 ?side6 ?side7 ?side8 A63.out).mono ?_
      (case side1 => repeat (first | exact (Kd.R_reads' HO_50027001.out).2.2 | (with_reducible refine Kd.C_alloc ?_ _) | (with_reducible refine Kd.C_drewN ?_ _) | (with_reducible refine Kd.C_drew ?_)))
      (case side2 => exact (Kd.R_reads' HO_50027001.out).2.1)
      (case side3 => repeat (first | exact (Kd.R_reads' HO_50027002.out).2.2 | (with_reducible refine Kd.C_alloc ?_ _) | (with_reducible refine Kd.C_drewN ?_ _) | (with_reducible refine Kd.C_drew ?_)))
      (case side4 => exact (Kd.R_reads' HO_50027002.out).2.1)
      (case side5 => repeat (first | exact (Kd.R_reads' HO50040.out).2.2 | (with_reducible refine Kd.C_alloc ?_ _) | (with_reducible refine Kd.C_drewN ?_ _) | (with_reducible refine Kd.C_drew ?_)))
      (case side6 => exact (Kd.R_reads' HO50040.out).2.1)
      (case side7 => repeat (first | exact (Kd.R_reads' HO50043.out).2.2 | (with_reducible refine Kd.C_alloc ?_ _) | (with_reducible refine Kd.C_drewN ?_ _) | (with_reducible refine Kd.C_drew ?_)))
      (case side8 => exact (Kd.R_reads' HO50043.out).2.1)
      rintro e w71 ⟨rfl, hb⟩
      refine ⟨_, rfl, ?_⟩
      have n0_ := Aside0.mk (Kd.R_below (by (with_reducible repeat (first | apply Kd.R_alloc | apply Kd.R_drewN | apply Kd.R_drew)); exact HO_50019001.out) hb)
      have n1_ := Aside0.mk (Kd.R_below (by (with_reducible repeat (first | apply Kd.R_alloc | apply Kd.R_drewN | apply Kd.R_drew)); exact HO_50019002.out) hb)
      have n2_ := Aside0.mk (Kd.R_below (by (with_reducible repeat (first | apply Kd.R_alloc | apply Kd.R_drewN | apply Kd.R_drew)); exact HO_50027001.out) hb)
      have n3_ := Aside0.mk (Kd.R_below (by (with_reducible repeat (first | apply Kd.R_alloc | apply Kd.R_drewN | apply Kd.R_drew)); exact HO_50027002.out) hb)
      have n4_ := Aside0.mk (Kd.R_below (by (with_reducible repeat (first | apply Kd.R_alloc | apply Kd.R_drewN | apply Kd.R_drew)); exact HO_50036001.out) hb)
      have n5_ := Aside0.mk (Kd.R_below (by (with_reducible repeat (first | apply Kd.R_alloc | apply Kd.R_drewN | apply Kd.R_drew)); exact HO_50036002.out) hb)
      have n6_ := Aside0.mk (Kd.R_below (by (with_reducible repeat (first | apply Kd.R_alloc | apply Kd.R_drewN | apply Kd.R_drew)); exact HO50040.out) hb)
      have n7_ := Aside0.mk (Kd.R_below (by (with_reducible repeat (first | apply Kd.R_alloc | apply Kd.R_drewN | apply Kd.R_drew)); exact HO50043.out) hb)
      have n8_ := Aside0.mk (blk_below (g := gb50001) (o := .cells #[.int .i64 a0_0, .slice A0_1 l0_1.length c0_1, .slice A0_2 l0_2.length c0_2] 24 (0, 0)) (by (with_reducible repeat (first | refine blk_drewN ?_ _ | refine blk_drew ?_ | refine blk_alloc ?_ _)); exact BK50001.out) hb)
      have n9_ := Aside0.mk (blk_below (g := gb50018) (o := .cells #[.int .i64 t50010, .slice Ao25 t50011.length co25, .slice Ao26 t50014.length co26] 29 (0, 0)) (by (with_reducible repeat (first | refine blk_drewN ?_ _ | refine blk_drew ?_ | refine blk_alloc ?_ _)); exact BK50018.out) hb)
      have n10_ := Aside0.mk (blk_below (g := gb50026) (o := .cells #[.int .i64 t50019, .slice Ao33 t50020.length co33, .slice Ao34 t50023.length co34] 29 (0, 0)) (by (with_reducible repeat (first | refine blk_drewN ?_ _ | refine blk_drew ?_ | refine blk_alloc ?_ _)); exact BK50026.out) hb)
      have n11_ := Aside0.mk (blk_below (g := gb50035) (o := .cells #[.int .i64 t50027, .slice Ao41 t50028.length co41, .slice Ao42 t50031.length co42] 29 (0, 0)) (by (with_reducible repeat (first | refine blk_drewN ?_ _ | refine blk_drew ?_ | refine blk_alloc ?_ _)); exact BK50035.out) hb)
      have n12_ := Aside0.mk (below_step (by repeat (first | (with_reducible first | exact HB.out | apply below_alloc | apply pw_below_drewN | apply below_drew1 | refine below_set ?_ GE50001.out | refine below_set ?_ GE50018.out | refine below_set ?_ GE50026.out | refine below_set ?_ GE50035.out) | exact HB.out)) hb)
      clear HO_50019001
      clear HO_50019002
      clear HO_50027001
      clear HO_50027002
      clear HO_50036001
      clear HO_50036002
      clear HO50040
      clear HO50043
      clear BK50001
      clear BK50018
      clear BK50026
      clear BK50035
      clear HB
      have HO_50019001 := n0_
      have HO_50019002 := n1_
      have HO_50027001 := n2_
      have HO_50027002 := n3_
      have HO_50036001 := n4_
      have HO_50036002 := n5_
      have HO50040 := n6_
      have HO50043 := n7_
      have BK50001 := n8_
      have BK50018 := n9_
      have BK50026 := n10_
      have BK50035 := n11_
      have HB := n12_
      clear n0_ n1_ n2_ n3_ n4_ n5_ n6_ n7_ n8_ n9_ n10_ n11_ n12_
      (try clear hb)
      (try clear hb2)
      (try clear hk)
      (try clear hi)
      refine hK.out _ _ ⟨(blk_cell BK50026.out 0).trans rfl, (blk_cell BK50026.out 1).trans rfl, (blk_cell BK50026.out 2).trans rfl, (blk_cell BK50001.out 0).trans rfl, (blk_cell BK50001.out 1).trans rfl, (blk_cell BK50001.out 2).trans rfl⟩ (fun hHeld => ?_)
      clear hK K
      refine norm_ (a' := ?_) ?_ ?_
      rotate_left
      ·show Act.put _ (some 52) _ = _
       simp only [Act.put, List.setIfInBounds_toArray, List.set_cons_zero, List.set_cons_succ, i64_w, i32_w]
       rfl
      refine pu_ 4 (some 53) (bt_ 5 31) (by kernel_rfl) ?_
      refine done_ (by kernel_rfl) ?_
      have hnb72 := NB50026_50001.out
      have hnc72 := NB50001_50026.out
      have hnb73 := NB50026_50018.out
      have hnc73 := NB50018_50026.out
      have hnb74 := NB50026_50035.out
      have hnc74 := NB50035_50026.out
      have hcz75_0 : w71.cell? ⟨gb50026, 0, none⟩ = some (.int .i64 t50019) := (blk_cell BK50026.out 0).trans rfl
      have hcz75_1 : w71.cell? ⟨gb50026, 1, none⟩ = some (.slice Ao33 t50020.length co33) := (blk_cell BK50026.out 1).trans rfl
      have hcz75_2 : w71.cell? ⟨gb50026, 2, none⟩ = some (.slice Ao34 t50023.length co34) := (blk_cell BK50026.out 2).trans rfl
      have hfz75_0 := blk_frozen BK50026.out 0
      have hfz75_1 := blk_frozen BK50026.out 1
      have hfz75_2 := blk_frozen BK50026.out 2
      go_upto_region 14 with (first | ((with_reducible refine gate_callee (f := 22) rfl ?_); refine goesL_ (some 56) rfl rfl Try.func22 (by kernel_rfl) rfl #[.agg #[.int .i64 t50019, .slice Ao33 t50020.length co33, .slice Ao34 t50023.length co34], .int .i64 1] rfl (by (try simp only [List.map_toArray, List.map_cons, List.map_nil]); first | done | rfl | (simp only [List.length_drop, List.length_take]; rfl)) ?_; (with_reducible refine (laws_markLock.calls kj12 t50019 (fun k_ => some k_ = (.slice Ao33 t50020.length co33 : Value).ownBlock) (.slice Ao33 t50020.length co33) t50020 (fun k_ => some k_ = (.slice Ao34 t50023.length co34 : Value).ownBlock) (.slice Ao34 t50023.length co34) t50023 1 t50045 t50046 t50047 w _ ?side1 ?side2 ?side3 ?side4 ?side5 A65.out).mono ?_); (case side1 => repeat (first | (with_reducible first | exact HB.out | apply below_alloc | apply pw_below_drewN | apply below_drew1 | refine below_set ?_ GE50001.out | refine below_set ?_ GE50018.out | refine below_set ?_ GE50026.out | refine below_set ?_ GE50035.out) | exact HB.out)); (case side2 => exact Kd.R_tight rfl HO_50027001.out); (case side3 => exact fun k_ e_ => (HO_50027001.out.1 k_ e_.symm).1.1.2.2.1); (case side4 => exact Kd.R_tight rfl HO_50027002.out); (case side5 => exact fun k_ e_ => (HO_50027002.out.1 k_ e_.symm).1.1.2.2.1); rintro e w76 ⟨rfl, hy0, hy1, hb, hkp⟩; refine ⟨_, rfl, ?_⟩; have n0_ := Aside0.mk (Kd.R_mono (ok' := fun k_ => some k_ ≠ (.slice Ao26 t50014.length co26 : Value).ownBlock ∧ some k_ ≠ (.slice Ao33 t50020.length co33 : Value).ownBlock ∧ some k_ ≠ (.slice Ao34 t50023.length co34 : Value).ownBlock ∧ some k_ ≠ (.slice Ao41 t50028.length co41 : Value).ownBlock ∧ some k_ ≠ (.slice Ao42 t50031.length co42 : Value).ownBlock ∧ some k_ ≠ (.slice Ao69 t50038.length co69 : Value).ownBlock ∧ some k_ ≠ (.slice Ao70 t50041.length co70 : Value).ownBlock) (Kd.R_keptB (HO_50019001.out) hkp (fun k_ hk_ hs_ => Or.elim hs_ (fun e_ => (hk_.1.1.2.1) e_) (fun e_ => (hk_.1.1.2.2.1) e_))) (fun k_ hk_ => ⟨hk_.1.1.1.1, hk_.1.1.1.2.1, hk_.1.1.1.2.2.1, hk_.1.1.1.2.2.2.1, hk_.1.1.1.2.2.2.2, hk_.1.1.2, hk_.1.2⟩)); have n1_ := Aside0.mk (Kd.R_mono (ok' := fun k_ => some k_ ≠ (.slice Ao25 t50011.length co25 : Value).ownBlock ∧ some k_ ≠ (.slice Ao33 t50020.length co33 : Value).ownBlock ∧ some k_ ≠ (.slice Ao34 t50023.length co34 : Value).ownBlock ∧ some k_ ≠ (.slice Ao41 t50028.length co41 : Value).ownBlock ∧ some k_ ≠ (.slice Ao42 t50031.length co42 : Value).ownBlock ∧ some k_ ≠ (.slice Ao69 t50038.length co69 : Value).ownBlock ∧ some k_ ≠ (.slice Ao70 t50041.length co70 : Value).ownBlock) (Kd.R_keptB (HO_50019002.out) hkp (fun k_ hk_ hs_ => Or.elim hs_ (fun e_ => (hk_.1.1.2.1) e_) (fun e_ => (hk_.1.1.2.2.1) e_))) (fun k_ hk_ => ⟨hk_.1.1.1.1, hk_.1.1.1.2.1, hk_.1.1.1.2.2.1, hk_.1.1.1.2.2.2.1, hk_.1.1.1.2.2.2.2, hk_.1.1.2, hk_.1.2⟩)); have n2_ := Aside0.mk (Kd.R_reok rfl hy0 (fun k_ e_ => HO_50027001.out.1 k_ e_)); have n3_ := Aside0.mk (Kd.R_reok rfl hy1 (fun k_ e_ => HO_50027002.out.1 k_ e_)); have n4_ := Aside0.mk (Kd.R_mono (ok' := fun k_ => some k_ ≠ (.slice Ao25 t50011.length co25 : Value).ownBlock ∧ some k_ ≠ (.slice Ao26 t50014.length co26 : Value).ownBlock ∧ some k_ ≠ (.slice Ao33 t50020.length co33 : Value).ownBlock ∧ some k_ ≠ (.slice Ao34 t50023.length co34 : Value).ownBlock ∧ some k_ ≠ (.slice Ao42 t50031.length co42 : Value).ownBlock ∧ some k_ ≠ (.slice Ao69 t50038.length co69 : Value).ownBlock ∧ some k_ ≠ (.slice Ao70 t50041.length co70 : Value).ownBlock) (Kd.R_keptB (HO_50036001.out) hkp (fun k_ hk_ hs_ => Or.elim hs_ (fun e_ => (hk_.1.1.2.2.1) e_) (fun e_ => (hk_.1.1.2.2.2.1) e_))) (fun k_ hk_ => ⟨hk_.1.1.1.1, hk_.1.1.1.2.1, hk_.1.1.1.2.2.1, hk_.1.1.1.2.2.2.1, hk_.1.1.1.2.2.2.2, hk_.1.1.2, hk_.1.2⟩)); have n5_ := Aside0.mk (Kd.R_mono (ok' := fun k_ => some k_ ≠ (.slice Ao25 t50011.length co25 : Value).ownBlock ∧ some k_ ≠ (.slice Ao26 t50014.length co26 : Value).ownBlock ∧ some k_ ≠ (.slice Ao33 t50020.length co33 : Value).ownBlock ∧ some k_ ≠ (.slice Ao34 t50023.length co34 : Value).ownBlock ∧ some k_ ≠ (.slice Ao41 t50028.length co41 : Value).ownBlock ∧ some k_ ≠ (.slice Ao69 t50038.length co69 : Value).ownBlock ∧ some k_ ≠ (.slice Ao70 t50041.length co70 : Value).ownBlock) (Kd.R_keptB (HO_50036002.out) hkp (fun k_ hk_ hs_ => Or.elim hs_ (fun e_ => (hk_.1.1.2.2.1) e_) (fun e_ => (hk_.1.1.2.2.2.1) e_))) (fun k_ hk_ => ⟨hk_.1.1.1.1, hk_.1.1.1.2.1, hk_.1.1.1.2.2.1, hk_.1.1.1.2.2.2.1, hk_.1.1.1.2.2.2.2, hk_.1.1.2, hk_.1.2⟩)); have n6_ := Aside0.mk (blk_kept (by (with_reducible repeat (first | refine blk_drewN ?_ _ | refine blk_drew ?_ | refine blk_alloc ?_ _)); exact BK50001.out) hkp (fun hs_ => Or.elim hs_ (fun e_ => (fun e_ => (Kd.R_ne HO_50027001.out BK50001.out (by decide)) e_) e_) (fun e_ => (fun e_ => (Kd.R_ne HO_50027002.out BK50001.out (by decide)) e_) e_))); have n7_ := Aside0.mk (blk_kept (by (with_reducible repeat (first | refine blk_drewN ?_ _ | refine blk_drew ?_ | refine blk_alloc ?_ _)); exact BK50018.out) hkp (fun hs_ => Or.elim hs_ (fun e_ => (fun e_ => (Kd.R_ne HO_50027001.out BK50018.out (by decide)) e_) e_) (fun e_ => (fun e_ => (Kd.R_ne HO_50027002.out BK50018.out (by decide)) e_) e_))); have n8_ := Aside0.mk (blk_kept (by (with_reducible repeat (first | refine blk_drewN ?_ _ | refine blk_drew ?_ | refine blk_alloc ?_ _)); exact BK50026.out) hkp (fun hs_ => Or.elim hs_ (fun e_ => (fun e_ => (Kd.R_ne HO_50027001.out BK50026.out (by decide)) e_) e_) (fun e_ => (fun e_ => (Kd.R_ne HO_50027002.out BK50026.out (by decide)) e_) e_))); have n9_ := Aside0.mk (blk_kept (by (with_reducible repeat (first | refine blk_drewN ?_ _ | refine blk_drew ?_ | refine blk_alloc ?_ _)); exact BK50035.out) hkp (fun hs_ => Or.elim hs_ (fun e_ => (fun e_ => (Kd.R_ne HO_50027001.out BK50035.out (by decide)) e_) e_) (fun e_ => (fun e_ => (Kd.R_ne HO_50027002.out BK50035.out (by decide)) e_) e_))); have n10_ := Aside0.mk (Kd.R_mono (ok' := fun k_ => some k_ ≠ (.slice Ao25 t50011.length co25 : Value).ownBlock ∧ some k_ ≠ (.slice Ao26 t50014.length co26 : Value).ownBlock ∧ some k_ ≠ (.slice Ao33 t50020.length co33 : Value).ownBlock ∧ some k_ ≠ (.slice Ao34 t50023.length co34 : Value).ownBlock ∧ some k_ ≠ (.slice Ao41 t50028.length co41 : Value).ownBlock ∧ some k_ ≠ (.slice Ao42 t50031.length co42 : Value).ownBlock ∧ some k_ ≠ (.slice Ao70 t50041.length co70 : Value).ownBlock) (Kd.R_keptB (HO50040.out) hkp (fun k_ hk_ hs_ => Or.elim hs_ (fun e_ => (hk_.1.1.1.2) e_) (fun e_ => (hk_.1.1.2) e_))) (fun k_ hk_ => ⟨hk_.1.1.1.1.1.1.2, hk_.1.1.1.1.1.2, hk_.1.1.1.1.2, hk_.1.1.1.2, hk_.1.1.2, hk_.1.2, hk_.1.1.1.1.1.1.1⟩)); have n11_ := Aside0.mk (Kd.R_mono (ok' := fun k_ => some k_ ≠ (.slice Ao25 t50011.length co25 : Value).ownBlock ∧ some k_ ≠ (.slice Ao26 t50014.length co26 : Value).ownBlock ∧ some k_ ≠ (.slice Ao33 t50020.length co33 : Value).ownBlock ∧ some k_ ≠ (.slice Ao34 t50023.length co34 : Value).ownBlock ∧ some k_ ≠ (.slice Ao41 t50028.length co41 : Value).ownBlock ∧ some k_ ≠ (.slice Ao42 t50031.length co42 : Value).ownBlock ∧ some k_ ≠ (.slice Ao69 t50038.length co69 : Value).ownBlock) (Kd.R_keptB (HO50043.out) hkp (fun k_ hk_ hs_ => Or.elim hs_ (fun e_ => (hk_.1.1.1.2) e_) (fun e_ => (hk_.1.1.2) e_))) (fun k_ hk_ => ⟨hk_.1.1.1.1.1.1.2, hk_.1.1.1.1.1.2, hk_.1.1.1.1.2, hk_.1.1.1.2, hk_.1.1.2, hk_.1.2, hk_.1.1.1.1.1.1.1⟩)); have n12_ := Aside0.mk (hb); clear HO_50019001; clear HO_50019002; clear HO_50027001; clear HO_50027002; clear HO_50036001; clear HO_50036002; clear BK50001; clear BK50018; clear BK50026; clear BK50035; clear HO50040; clear HO50043; clear HB; have HO_50019001 := n0_; have HO_50019002 := n1_; have HO_50027001 := n2_; have HO_50027002 := n3_; have HO_50036001 := n4_; have HO_50036002 := n5_; have BK50001 := n6_; have BK50018 := n7_; have BK50026 := n8_; have BK50035 := n9_; have HO50040 := n10_; have HO50043 := n11_; have HB := n12_; clear n0_ n1_ n2_ n3_ n4_ n5_ n6_ n7_ n8_ n9_ n10_ n11_ n12_; (try clear hb); (try clear hkp); (try clear hy0); (try clear hy1)))
      (try simp only [Act.put, List.setIfInBounds_toArray, List.set_cons_zero, List.set_cons_succ])
      go_cut [69] (fun v69 wc => ∃ (kq : Nat) (x69_65 : Bool), v69 = .bool x69_65 ∧ Aside0 (laws_FnExactLockFirm.j1 kq a1 a2 t50017 x69_65 a0_0 l0_1 l0_2 t50010 t50011 t50014 t50027 t50028 t50031 = some true) ∧ Aside0 (kq ≤ kj12) ∧ Aside0 (Kd.R k45 45 wc w.heap.size (fun k_ => some k_ ≠ ((.slice Ao26 t50014.length co26) : Value).ownBlock ∧ some k_ ≠ ((.slice Ao33 t50020.length co33) : Value).ownBlock ∧ some k_ ≠ ((.slice Ao34 t50023.length co34) : Value).ownBlock ∧ some k_ ≠ ((.slice Ao41 t50028.length co41) : Value).ownBlock ∧ some k_ ≠ ((.slice Ao42 t50031.length co42) : Value).ownBlock) (.slice Ao25 t50011.length co25) t50011) ∧ Aside0 (Kd.R k45 45 wc w.heap.size (fun k_ => some k_ ≠ ((.slice Ao25 t50011.length co25) : Value).ownBlock ∧ some k_ ≠ ((.slice Ao33 t50020.length co33) : Value).ownBlock ∧ some k_ ≠ ((.slice Ao34 t50023.length co34) : Value).ownBlock ∧ some k_ ≠ ((.slice Ao41 t50028.length co41) : Value).ownBlock ∧ some k_ ≠ ((.slice Ao42 t50031.length co42) : Value).ownBlock) (.slice Ao26 t50014.length co26) t50014) ∧ Aside0 (Kd.R k45 45 wc w.heap.size (fun k_ => some k_ ≠ ((.slice Ao25 t50011.length co25) : Value).ownBlock ∧ some k_ ≠ ((.slice Ao26 t50014.length co26) : Value).ownBlock ∧ some k_ ≠ ((.slice Ao34 t50023.length co34) : Value).ownBlock ∧ some k_ ≠ ((.slice Ao41 t50028.length co41) : Value).ownBlock ∧ some k_ ≠ ((.slice Ao42 t50031.length co42) : Value).ownBlock) (.slice Ao33 t50020.length co33) t50046) ∧ Aside0 (Kd.R k45 45 wc w.heap.size (fun k_ => some k_ ≠ ((.slice Ao25 t50011.length co25) : Value).ownBlock ∧ some k_ ≠ ((.slice Ao26 t50014.length co26) : Value).ownBlock ∧ some k_ ≠ ((.slice Ao33 t50020.length co33) : Value).ownBlock ∧ some k_ ≠ ((.slice Ao41 t50028.length co41) : Value).ownBlock ∧ some k_ ≠ ((.slice Ao42 t50031.length co42) : Value).ownBlock) (.slice Ao34 t50023.length co34) t50047) ∧ Aside0 (Kd.R k45 45 wc w.heap.size (fun k_ => some k_ ≠ ((.slice Ao25 t50011.length co25) : Value).ownBlock ∧ some k_ ≠ ((.slice Ao26 t50014.length co26) : Value).ownBlock ∧ some k_ ≠ ((.slice Ao33 t50020.length co33) : Value).ownBlock ∧ some k_ ≠ ((.slice Ao34 t50023.length co34) : Value).ownBlock ∧ some k_ ≠ ((.slice Ao42 t50031.length co42) : Value).ownBlock) (.slice Ao41 t50028.length co41) t50028) ∧ Aside0 (Kd.R k45 45 wc w.heap.size (fun k_ => some k_ ≠ ((.slice Ao25 t50011.length co25) : Value).ownBlock ∧ some k_ ≠ ((.slice Ao26 t50014.length co26) : Value).ownBlock ∧ some k_ ≠ ((.slice Ao33 t50020.length co33) : Value).ownBlock ∧ some k_ ≠ ((.slice Ao34 t50023.length co34) : Value).ownBlock ∧ some k_ ≠ ((.slice Ao41 t50028.length co41) : Value).ownBlock) (.slice Ao42 t50031.length co42) t50031) ∧ Aside0 (wc.heap[gb50001]? = some (.cells #[.int .i64 a0_0, (.slice A0_1 l0_1.length c0_1), (.slice A0_2 l0_2.length c0_2)] 24 (0, 0))) ∧ Aside0 (wc.heap[gb50018]? = some (.cells #[.int .i64 t50010, (.slice Ao25 t50011.length co25), (.slice Ao26 t50014.length co26)] 29 (0, 0))) ∧ Aside0 (wc.heap[gb50026]? = some (.cells #[.int .i64 t50019, (.slice Ao33 t50020.length co33), (.slice Ao34 t50023.length co34)] 29 (0, 0))) ∧ Aside0 (wc.heap[gb50035]? = some (.cells #[.int .i64 t50027, (.slice Ao41 t50028.length co41), (.slice Ao42 t50031.length co42)] 29 (0, 0))) ∧ Aside0 (Below w.heap.size w wc))
      case first =>
       have H := HC66.out
       clear HC66
       by_cases c77 : t50045 < 0
       ·rw [if_pos c77] at H
        have c77b0 : decide (t50045 < 0) = true := decide_eq_true c77
        clear c77
        (first | rw [c77b0] | (simp only [i64_w, i32_w]; rw [c77b0]) | skip)
        have H' := Aside0.mk H
        clear H
        go_wp2
        go_meet
        case rel => exact ⟨_, (true), (by first | rfl | (simp; done) | (simp [*]; done)), H', ⟨by have := HJ12.out; first | omega | exact Nat.le_refl _⟩, ⟨by (with_reducible repeat (first | apply Kd.R_alloc | apply Kd.R_drewN | apply Kd.R_drew)); exact Kd.R_mono HO_50019001.out (fun _ hk => ⟨hk.1, ⟨hk.2.1, ⟨hk.2.2.1, ⟨hk.2.2.2.1, hk.2.2.2.2.1⟩⟩⟩⟩)⟩, ⟨by (with_reducible repeat (first | apply Kd.R_alloc | apply Kd.R_drewN | apply Kd.R_drew)); exact Kd.R_mono HO_50019002.out (fun _ hk => ⟨hk.1, ⟨hk.2.1, ⟨hk.2.2.1, ⟨hk.2.2.2.1, hk.2.2.2.2.1⟩⟩⟩⟩)⟩, ⟨by (with_reducible repeat (first | apply Kd.R_alloc | apply Kd.R_drewN | apply Kd.R_drew)); exact Kd.R_mono HO_50027001.out (fun _ hk => ⟨hk.1.1.1, ⟨hk.1.1.2.1, ⟨hk.1.1.2.2.1, ⟨hk.1.1.2.2.2.1, hk.1.1.2.2.2.2⟩⟩⟩⟩)⟩, ⟨by (with_reducible repeat (first | apply Kd.R_alloc | apply Kd.R_drewN | apply Kd.R_drew)); exact Kd.R_mono HO_50027002.out (fun _ hk => ⟨hk.1.1.1, ⟨hk.1.1.2.1, ⟨hk.1.1.2.2.1, ⟨hk.1.1.2.2.2.1, hk.1.1.2.2.2.2⟩⟩⟩⟩)⟩, ⟨by (with_reducible repeat (first | apply Kd.R_alloc | apply Kd.R_drewN | apply Kd.R_drew)); exact Kd.R_mono HO_50036001.out (fun _ hk => ⟨hk.1, ⟨hk.2.1, ⟨hk.2.2.1, ⟨hk.2.2.2.1, hk.2.2.2.2.1⟩⟩⟩⟩)⟩, ⟨by (with_reducible repeat (first | apply Kd.R_alloc | apply Kd.R_drewN | apply Kd.R_drew)); exact Kd.R_mono HO_50036002.out (fun _ hk => ⟨hk.1, ⟨hk.2.1, ⟨hk.2.2.1, ⟨hk.2.2.2.1, hk.2.2.2.2.1⟩⟩⟩⟩)⟩, ⟨by (with_reducible repeat (first | refine blk_drewN ?_ _ | refine blk_drew ?_ | refine blk_alloc ?_ _)); exact BK50001.out⟩, ⟨by (with_reducible repeat (first | refine blk_drewN ?_ _ | refine blk_drew ?_ | refine blk_alloc ?_ _)); exact BK50018.out⟩, ⟨by (with_reducible repeat (first | refine blk_drewN ?_ _ | refine blk_drew ?_ | refine blk_alloc ?_ _)); exact BK50026.out⟩, ⟨by (with_reducible repeat (first | refine blk_drewN ?_ _ | refine blk_drew ?_ | refine blk_alloc ?_ _)); exact BK50035.out⟩, ⟨by repeat (first | (with_reducible first | exact HB.out | apply below_alloc | apply pw_below_drewN | apply below_drew1 | refine below_set ?_ GE50001.out | refine below_set ?_ GE50018.out | refine below_set ?_ GE50026.out | refine below_set ?_ GE50035.out) | exact HB.out)⟩⟩
       ·rw [if_neg c77] at H
        have c77b0 : decide (t50045 < 0) = false := decide_eq_false c77
        clear c77
        (first | rw [c77b0] | (simp only [i64_w, i32_w]; rw [c77b0]) | skip)
        replace H := Option.bind_eq_some_iff.mp H
        obtain ⟨t50048, A780, H⟩ := H
        replace H : (if t50048 = true then (laws_FnExactLockFirm.j1 kj12 a1 a2 t50017 (t50034 != t50017) a0_0 l0_1 l0_2 t50010 t50011 t50014 t50027 t50028 t50031) else (laws_FnExactLockFirm.j1 kj12 a1 a2 t50017 true a0_0 l0_1 l0_2 t50010 t50011 t50014 t50027 t50028 t50031)) = some true := H
        have A78 := Aside0.mk A780
        clear A780
        by_cases c79 : t50048 = true
        ·subst c79
         have H1 : (laws_FnExactLockFirm.j1 kj12 a1 a2 t50017 (t50034 != t50017) a0_0 l0_1 l0_2 t50010 t50011 t50014 t50027 t50028 t50031) = some true := by rw [if_pos rfl] at H; exact H
         clear H
         have H := H1
         clear H1
         have H' := Aside0.mk H
         clear H
         have hnb80 := NB50035_50001.out
         have hnc80 := NB50001_50035.out
         have hnb81 := NB50035_50018.out
         have hnc81 := NB50018_50035.out
         have hnb82 := NB50035_50026.out
         have hnc82 := NB50026_50035.out
         have hcz83_0 : w76.cell? ⟨gb50035, 0, none⟩ = some (.int .i64 t50027) := (blk_cell BK50035.out 0).trans rfl
         have hcz83_1 : w76.cell? ⟨gb50035, 1, none⟩ = some (.slice Ao41 t50028.length co41) := (blk_cell BK50035.out 1).trans rfl
         have hcz83_2 : w76.cell? ⟨gb50035, 2, none⟩ = some (.slice Ao42 t50031.length co42) := (blk_cell BK50035.out 2).trans rfl
         have hfz83_0 := blk_frozen BK50035.out 0
         have hfz83_1 := blk_frozen BK50035.out 1
         have hfz83_2 := blk_frozen BK50035.out 2
         have hnb84 := NB50018_50001.out
         have hnc84 := NB50001_50018.out
         have hnb85 := NB50018_50026.out
         have hnc85 := NB50026_50018.out
         have hcz86_0 : w76.cell? ⟨gb50018, 0, none⟩ = some (.int .i64 t50010) := (blk_cell BK50018.out 0).trans rfl
         have hcz86_1 : w76.cell? ⟨gb50018, 1, none⟩ = some (.slice Ao25 t50011.length co25) := (blk_cell BK50018.out 1).trans rfl
         have hcz86_2 : w76.cell? ⟨gb50018, 2, none⟩ = some (.slice Ao26 t50014.length co26) := (blk_cell BK50018.out 2).trans rfl
         have hfz86_0 := blk_frozen BK50018.out 0
         have hfz86_1 := blk_frozen BK50018.out 1
         have hfz86_2 := blk_frozen BK50018.out 2
         go_wp2_with (first | (go_at_call 19; (with_reducible refine (laws_eqLock.calls kj12 t50027 _ _ t50028 _ _ t50031 t50010 _ _ t50011 _ _ t50014 true _ ?side1 ?side2 ?side3 ?side4 ?side5 ?side6 ?side7 ?side8 A78.out).mono ?_); (case side1 => repeat (first | exact (Kd.R_reads' HO_50036001.out).2.2 | (with_reducible refine Kd.C_alloc ?_ _) | (with_reducible refine Kd.C_drewN ?_ _) | (with_reducible refine Kd.C_drew ?_))); (case side2 => exact (Kd.R_reads' HO_50036001.out).2.1); (case side3 => repeat (first | exact (Kd.R_reads' HO_50036002.out).2.2 | (with_reducible refine Kd.C_alloc ?_ _) | (with_reducible refine Kd.C_drewN ?_ _) | (with_reducible refine Kd.C_drew ?_))); (case side4 => exact (Kd.R_reads' HO_50036002.out).2.1); (case side5 => repeat (first | exact (Kd.R_reads' HO_50019001.out).2.2 | (with_reducible refine Kd.C_alloc ?_ _) | (with_reducible refine Kd.C_drewN ?_ _) | (with_reducible refine Kd.C_drew ?_))); (case side6 => exact (Kd.R_reads' HO_50019001.out).2.1); (case side7 => repeat (first | exact (Kd.R_reads' HO_50019002.out).2.2 | (with_reducible refine Kd.C_alloc ?_ _) | (with_reducible refine Kd.C_drewN ?_ _) | (with_reducible refine Kd.C_drew ?_))); (case side8 => exact (Kd.R_reads' HO_50019002.out).2.1); rintro e w87 ⟨rfl, hb⟩; have n0_ := Aside0.mk (Kd.R_below (by (with_reducible repeat (first | apply Kd.R_alloc | apply Kd.R_drewN | apply Kd.R_drew)); exact HO_50019001.out) hb); have n1_ := Aside0.mk (Kd.R_below (by (with_reducible repeat (first | apply Kd.R_alloc | apply Kd.R_drewN | apply Kd.R_drew)); exact HO_50019002.out) hb); have n2_ := Aside0.mk (Kd.R_below (by (with_reducible repeat (first | apply Kd.R_alloc | apply Kd.R_drewN | apply Kd.R_drew)); exact HO_50027001.out) hb); have n3_ := Aside0.mk (Kd.R_below (by (with_reducible repeat (first | apply Kd.R_alloc | apply Kd.R_drewN | apply Kd.R_drew)); exact HO_50027002.out) hb); have n4_ := Aside0.mk (Kd.R_below (by (with_reducible repeat (first | apply Kd.R_alloc | apply Kd.R_drewN | apply Kd.R_drew)); exact HO_50036001.out) hb); have n5_ := Aside0.mk (Kd.R_below (by (with_reducible repeat (first | apply Kd.R_alloc | apply Kd.R_drewN | apply Kd.R_drew)); exact HO_50036002.out) hb); have n6_ := Aside0.mk (Kd.R_below (by (with_reducible repeat (first | apply Kd.R_alloc | apply Kd.R_drewN | apply Kd.R_drew)); exact HO50040.out) hb); have n7_ := Aside0.mk (Kd.R_below (by (with_reducible repeat (first | apply Kd.R_alloc | apply Kd.R_drewN | apply Kd.R_drew)); exact HO50043.out) hb); have n8_ := Aside0.mk (blk_below (g := gb50001) (o := .cells #[.int .i64 a0_0, .slice A0_1 l0_1.length c0_1, .slice A0_2 l0_2.length c0_2] 24 (0, 0)) (by (with_reducible repeat (first | refine blk_drewN ?_ _ | refine blk_drew ?_ | refine blk_alloc ?_ _)); exact BK50001.out) hb); have n9_ := Aside0.mk (blk_below (g := gb50018) (o := .cells #[.int .i64 t50010, .slice Ao25 t50011.length co25, .slice Ao26 t50014.length co26] 29 (0, 0)) (by (with_reducible repeat (first | refine blk_drewN ?_ _ | refine blk_drew ?_ | refine blk_alloc ?_ _)); exact BK50018.out) hb); have n10_ := Aside0.mk (blk_below (g := gb50026) (o := .cells #[.int .i64 t50019, .slice Ao33 t50020.length co33, .slice Ao34 t50023.length co34] 29 (0, 0)) (by (with_reducible repeat (first | refine blk_drewN ?_ _ | refine blk_drew ?_ | refine blk_alloc ?_ _)); exact BK50026.out) hb); have n11_ := Aside0.mk (blk_below (g := gb50035) (o := .cells #[.int .i64 t50027, .slice Ao41 t50028.length co41, .slice Ao42 t50031.length co42] 29 (0, 0)) (by (with_reducible repeat (first | refine blk_drewN ?_ _ | refine blk_drew ?_ | refine blk_alloc ?_ _)); exact BK50035.out) hb); have n12_ := Aside0.mk (below_step (by repeat (first | (with_reducible first | exact HB.out | apply below_alloc | apply pw_below_drewN | apply below_drew1 | refine below_set ?_ GE50001.out | refine below_set ?_ GE50018.out | refine below_set ?_ GE50026.out | refine below_set ?_ GE50035.out) | exact HB.out)) hb); clear HO_50019001; clear HO_50019002; clear HO_50027001; clear HO_50027002; clear HO_50036001; clear HO_50036002; clear HO50040; clear HO50043; clear BK50001; clear BK50018; clear BK50026; clear BK50035; clear HB; have HO_50019001 := n0_; have HO_50019002 := n1_; have HO_50027001 := n2_; have HO_50027002 := n3_; have HO_50036001 := n4_; have HO_50036002 := n5_; have HO50040 := n6_; have HO50043 := n7_; have BK50001 := n8_; have BK50018 := n9_; have BK50026 := n10_; have BK50035 := n11_; have HB := n12_; clear n0_ n1_ n2_ n3_ n4_ n5_ n6_ n7_ n8_ n9_ n10_ n11_ n12_; (try clear hb); (try clear hb2); (try clear hk); (try clear hi)))
         go_meet
         case rel => exact ⟨_, ((t50034 != t50017)), (by first | rfl | (simp; done) | (simp [*]; done)), H', ⟨by have := HJ12.out; first | omega | exact Nat.le_refl _⟩, ⟨by (with_reducible repeat (first | apply Kd.R_alloc | apply Kd.R_drewN | apply Kd.R_drew)); exact Kd.R_mono HO_50019001.out (fun _ hk => ⟨hk.1, ⟨hk.2.1, ⟨hk.2.2.1, ⟨hk.2.2.2.1, hk.2.2.2.2.1⟩⟩⟩⟩)⟩, ⟨by (with_reducible repeat (first | apply Kd.R_alloc | apply Kd.R_drewN | apply Kd.R_drew)); exact Kd.R_mono HO_50019002.out (fun _ hk => ⟨hk.1, ⟨hk.2.1, ⟨hk.2.2.1, ⟨hk.2.2.2.1, hk.2.2.2.2.1⟩⟩⟩⟩)⟩, ⟨by (with_reducible repeat (first | apply Kd.R_alloc | apply Kd.R_drewN | apply Kd.R_drew)); exact Kd.R_mono HO_50027001.out (fun _ hk => ⟨hk.1.1.1, ⟨hk.1.1.2.1, ⟨hk.1.1.2.2.1, ⟨hk.1.1.2.2.2.1, hk.1.1.2.2.2.2⟩⟩⟩⟩)⟩, ⟨by (with_reducible repeat (first | apply Kd.R_alloc | apply Kd.R_drewN | apply Kd.R_drew)); exact Kd.R_mono HO_50027002.out (fun _ hk => ⟨hk.1.1.1, ⟨hk.1.1.2.1, ⟨hk.1.1.2.2.1, ⟨hk.1.1.2.2.2.1, hk.1.1.2.2.2.2⟩⟩⟩⟩)⟩, ⟨by (with_reducible repeat (first | apply Kd.R_alloc | apply Kd.R_drewN | apply Kd.R_drew)); exact Kd.R_mono HO_50036001.out (fun _ hk => ⟨hk.1, ⟨hk.2.1, ⟨hk.2.2.1, ⟨hk.2.2.2.1, hk.2.2.2.2.1⟩⟩⟩⟩)⟩, ⟨by (with_reducible repeat (first | apply Kd.R_alloc | apply Kd.R_drewN | apply Kd.R_drew)); exact Kd.R_mono HO_50036002.out (fun _ hk => ⟨hk.1, ⟨hk.2.1, ⟨hk.2.2.1, ⟨hk.2.2.2.1, hk.2.2.2.2.1⟩⟩⟩⟩)⟩, ⟨by (with_reducible repeat (first | refine blk_drewN ?_ _ | refine blk_drew ?_ | refine blk_alloc ?_ _)); exact BK50001.out⟩, ⟨by (with_reducible repeat (first | refine blk_drewN ?_ _ | refine blk_drew ?_ | refine blk_alloc ?_ _)); exact BK50018.out⟩, ⟨by (with_reducible repeat (first | refine blk_drewN ?_ _ | refine blk_drew ?_ | refine blk_alloc ?_ _)); exact BK50026.out⟩, ⟨by (with_reducible repeat (first | refine blk_drewN ?_ _ | refine blk_drew ?_ | refine blk_alloc ?_ _)); exact BK50035.out⟩, ⟨by repeat (first | (with_reducible first | exact HB.out | apply below_alloc | apply pw_below_drewN | apply below_drew1 | refine below_set ?_ GE50001.out | refine below_set ?_ GE50018.out | refine below_set ?_ GE50026.out | refine below_set ?_ GE50035.out) | exact HB.out)⟩⟩
        ·replace c79 := Bool.eq_false_iff.mpr c79
         subst c79
         have H1 : (laws_FnExactLockFirm.j1 kj12 a1 a2 t50017 true a0_0 l0_1 l0_2 t50010 t50011 t50014 t50027 t50028 t50031) = some true := by rw [if_neg (show ¬ (false = true) by decide)] at H; exact H
         clear H
         have H := H1
         clear H1
         have H' := Aside0.mk H
         clear H
         have hnb88 := NB50035_50001.out
         have hnc88 := NB50001_50035.out
         have hnb89 := NB50035_50018.out
         have hnc89 := NB50018_50035.out
         have hnb90 := NB50035_50026.out
         have hnc90 := NB50026_50035.out
         have hcz91_0 : w76.cell? ⟨gb50035, 0, none⟩ = some (.int .i64 t50027) := (blk_cell BK50035.out 0).trans rfl
         have hcz91_1 : w76.cell? ⟨gb50035, 1, none⟩ = some (.slice Ao41 t50028.length co41) := (blk_cell BK50035.out 1).trans rfl
         have hcz91_2 : w76.cell? ⟨gb50035, 2, none⟩ = some (.slice Ao42 t50031.length co42) := (blk_cell BK50035.out 2).trans rfl
         have hfz91_0 := blk_frozen BK50035.out 0
         have hfz91_1 := blk_frozen BK50035.out 1
         have hfz91_2 := blk_frozen BK50035.out 2
         have hnb92 := NB50018_50001.out
         have hnc92 := NB50001_50018.out
         have hnb93 := NB50018_50026.out
         have hnc93 := NB50026_50018.out
         have hcz94_0 : w76.cell? ⟨gb50018, 0, none⟩ = some (.int .i64 t50010) := (blk_cell BK50018.out 0).trans rfl
         have hcz94_1 : w76.cell? ⟨gb50018, 1, none⟩ = some (.slice Ao25 t50011.length co25) := (blk_cell BK50018.out 1).trans rfl
         have hcz94_2 : w76.cell? ⟨gb50018, 2, none⟩ = some (.slice Ao26 t50014.length co26) := (blk_cell BK50018.out 2).trans rfl
         have hfz94_0 := blk_frozen BK50018.out 0
         have hfz94_1 := blk_frozen BK50018.out 1
         have hfz94_2 := blk_frozen BK50018.out 2
         go_wp2_with (first | (go_at_call 19; (with_reducible refine (laws_eqLock.calls kj12 t50027 _ _ t50028 _ _ t50031 t50010 _ _ t50011 _ _ t50014 false _ ?side1 ?side2 ?side3 ?side4 ?side5 ?side6 ?side7 ?side8 A78.out).mono ?_); (case side1 => repeat (first | exact (Kd.R_reads' HO_50036001.out).2.2 | (with_reducible refine Kd.C_alloc ?_ _) | (with_reducible refine Kd.C_drewN ?_ _) | (with_reducible refine Kd.C_drew ?_))); (case side2 => exact (Kd.R_reads' HO_50036001.out).2.1); (case side3 => repeat (first | exact (Kd.R_reads' HO_50036002.out).2.2 | (with_reducible refine Kd.C_alloc ?_ _) | (with_reducible refine Kd.C_drewN ?_ _) | (with_reducible refine Kd.C_drew ?_))); (case side4 => exact (Kd.R_reads' HO_50036002.out).2.1); (case side5 => repeat (first | exact (Kd.R_reads' HO_50019001.out).2.2 | (with_reducible refine Kd.C_alloc ?_ _) | (with_reducible refine Kd.C_drewN ?_ _) | (with_reducible refine Kd.C_drew ?_))); (case side6 => exact (Kd.R_reads' HO_50019001.out).2.1); (case side7 => repeat (first | exact (Kd.R_reads' HO_50019002.out).2.2 | (with_reducible refine Kd.C_alloc ?_ _) | (with_reducible refine Kd.C_drewN ?_ _) | (with_reducible refine Kd.C_drew ?_))); (case side8 => exact (Kd.R_reads' HO_50019002.out).2.1); rintro e w95 ⟨rfl, hb⟩; have n0_ := Aside0.mk (Kd.R_below (by (with_reducible repeat (first | apply Kd.R_alloc | apply Kd.R_drewN | apply Kd.R_drew)); exact HO_50019001.out) hb); have n1_ := Aside0.mk (Kd.R_below (by (with_reducible repeat (first | apply Kd.R_alloc | apply Kd.R_drewN | apply Kd.R_drew)); exact HO_50019002.out) hb); have n2_ := Aside0.mk (Kd.R_below (by (with_reducible repeat (first | apply Kd.R_alloc | apply Kd.R_drewN | apply Kd.R_drew)); exact HO_50027001.out) hb); have n3_ := Aside0.mk (Kd.R_below (by (with_reducible repeat (first | apply Kd.R_alloc | apply Kd.R_drewN | apply Kd.R_drew)); exact HO_50027002.out) hb); have n4_ := Aside0.mk (Kd.R_below (by (with_reducible repeat (first | apply Kd.R_alloc | apply Kd.R_drewN | apply Kd.R_drew)); exact HO_50036001.out) hb); have n5_ := Aside0.mk (Kd.R_below (by (with_reducible repeat (first | apply Kd.R_alloc | apply Kd.R_drewN | apply Kd.R_drew)); exact HO_50036002.out) hb); have n6_ := Aside0.mk (Kd.R_below (by (with_reducible repeat (first | apply Kd.R_alloc | apply Kd.R_drewN | apply Kd.R_drew)); exact HO50040.out) hb); have n7_ := Aside0.mk (Kd.R_below (by (with_reducible repeat (first | apply Kd.R_alloc | apply Kd.R_drewN | apply Kd.R_drew)); exact HO50043.out) hb); have n8_ := Aside0.mk (blk_below (g := gb50001) (o := .cells #[.int .i64 a0_0, .slice A0_1 l0_1.length c0_1, .slice A0_2 l0_2.length c0_2] 24 (0, 0)) (by (with_reducible repeat (first | refine blk_drewN ?_ _ | refine blk_drew ?_ | refine blk_alloc ?_ _)); exact BK50001.out) hb); have n9_ := Aside0.mk (blk_below (g := gb50018) (o := .cells #[.int .i64 t50010, .slice Ao25 t50011.length co25, .slice Ao26 t50014.length co26] 29 (0, 0)) (by (with_reducible repeat (first | refine blk_drewN ?_ _ | refine blk_drew ?_ | refine blk_alloc ?_ _)); exact BK50018.out) hb); have n10_ := Aside0.mk (blk_below (g := gb50026) (o := .cells #[.int .i64 t50019, .slice Ao33 t50020.length co33, .slice Ao34 t50023.length co34] 29 (0, 0)) (by (with_reducible repeat (first | refine blk_drewN ?_ _ | refine blk_drew ?_ | refine blk_alloc ?_ _)); exact BK50026.out) hb); have n11_ := Aside0.mk (blk_below (g := gb50035) (o := .cells #[.int .i64 t50027, .slice Ao41 t50028.length co41, .slice Ao42 t50031.length co42] 29 (0, 0)) (by (with_reducible repeat (first | refine blk_drewN ?_ _ | refine blk_drew ?_ | refine blk_alloc ?_ _)); exact BK50035.out) hb); have n12_ := Aside0.mk (below_step (by repeat (first | (with_reducible first | exact HB.out | apply below_alloc | apply pw_below_drewN | apply below_drew1 | refine below_set ?_ GE50001.out | refine below_set ?_ GE50018.out | refine below_set ?_ GE50026.out | refine below_set ?_ GE50035.out) | exact HB.out)) hb); clear HO_50019001; clear HO_50019002; clear HO_50027001; clear HO_50027002; clear HO_50036001; clear HO_50036002; clear HO50040; clear HO50043; clear BK50001; clear BK50018; clear BK50026; clear BK50035; clear HB; have HO_50019001 := n0_; have HO_50019002 := n1_; have HO_50027001 := n2_; have HO_50027002 := n3_; have HO_50036001 := n4_; have HO_50036002 := n5_; have HO50040 := n6_; have HO50043 := n7_; have BK50001 := n8_; have BK50018 := n9_; have BK50026 := n10_; have BK50035 := n11_; have HB := n12_; clear n0_ n1_ n2_ n3_ n4_ n5_ n6_ n7_ n8_ n9_ n10_ n11_ n12_; (try clear hb); (try clear hb2); (try clear hk); (try clear hi)))
         go_meet
         case rel => exact ⟨_, (true), (by first | rfl | (simp; done) | (simp [*]; done)), H', ⟨by have := HJ12.out; first | omega | exact Nat.le_refl _⟩, ⟨by (with_reducible repeat (first | apply Kd.R_alloc | apply Kd.R_drewN | apply Kd.R_drew)); exact Kd.R_mono HO_50019001.out (fun _ hk => ⟨hk.1, ⟨hk.2.1, ⟨hk.2.2.1, ⟨hk.2.2.2.1, hk.2.2.2.2.1⟩⟩⟩⟩)⟩, ⟨by (with_reducible repeat (first | apply Kd.R_alloc | apply Kd.R_drewN | apply Kd.R_drew)); exact Kd.R_mono HO_50019002.out (fun _ hk => ⟨hk.1, ⟨hk.2.1, ⟨hk.2.2.1, ⟨hk.2.2.2.1, hk.2.2.2.2.1⟩⟩⟩⟩)⟩, ⟨by (with_reducible repeat (first | apply Kd.R_alloc | apply Kd.R_drewN | apply Kd.R_drew)); exact Kd.R_mono HO_50027001.out (fun _ hk => ⟨hk.1.1.1, ⟨hk.1.1.2.1, ⟨hk.1.1.2.2.1, ⟨hk.1.1.2.2.2.1, hk.1.1.2.2.2.2⟩⟩⟩⟩)⟩, ⟨by (with_reducible repeat (first | apply Kd.R_alloc | apply Kd.R_drewN | apply Kd.R_drew)); exact Kd.R_mono HO_50027002.out (fun _ hk => ⟨hk.1.1.1, ⟨hk.1.1.2.1, ⟨hk.1.1.2.2.1, ⟨hk.1.1.2.2.2.1, hk.1.1.2.2.2.2⟩⟩⟩⟩)⟩, ⟨by (with_reducible repeat (first | apply Kd.R_alloc | apply Kd.R_drewN | apply Kd.R_drew)); exact Kd.R_mono HO_50036001.out (fun _ hk => ⟨hk.1, ⟨hk.2.1, ⟨hk.2.2.1, ⟨hk.2.2.2.1, hk.2.2.2.2.1⟩⟩⟩⟩)⟩, ⟨by (with_reducible repeat (first | apply Kd.R_alloc | apply Kd.R_drewN | apply Kd.R_drew)); exact Kd.R_mono HO_50036002.out (fun _ hk => ⟨hk.1, ⟨hk.2.1, ⟨hk.2.2.1, ⟨hk.2.2.2.1, hk.2.2.2.2.1⟩⟩⟩⟩)⟩, ⟨by (with_reducible repeat (first | refine blk_drewN ?_ _ | refine blk_drew ?_ | refine blk_alloc ?_ _)); exact BK50001.out⟩, ⟨by (with_reducible repeat (first | refine blk_drewN ?_ _ | refine blk_drew ?_ | refine blk_alloc ?_ _)); exact BK50018.out⟩, ⟨by (with_reducible repeat (first | refine blk_drewN ?_ _ | refine blk_drew ?_ | refine blk_alloc ?_ _)); exact BK50026.out⟩, ⟨by (with_reducible repeat (first | refine blk_drewN ?_ _ | refine blk_drew ?_ | refine blk_alloc ?_ _)); exact BK50035.out⟩, ⟨by repeat (first | (with_reducible first | exact HB.out | apply below_alloc | apply pw_below_drewN | apply below_drew1 | refine below_set ?_ GE50001.out | refine below_set ?_ GE50018.out | refine below_set ?_ GE50026.out | refine below_set ?_ GE50035.out) | exact HB.out)⟩⟩
      case rest =>
       clear HC66
       try clear c1
       try clear c2
       try clear p2
       try clear c3
       try clear c4
       try clear c5
       try clear c5b0
       try clear c6
       try clear c7
       try clear c8
       try clear c9
       try clear c15
       try clear c17
       try clear c19
       try clear c20
       try clear c21
       try clear c22
       try clear c23
       try clear c30
       try clear c31
       try clear c37
       try clear c38
       try clear c39
       try clear c44
       try clear c45
       try clear c46
       try clear c47
       try clear c49
       try clear c50
       try clear c53
       try clear c54
       try clear c55
       try clear c57
       try clear c58
       try clear c61
       try clear c64
       try clear c72
       try clear c73
       try clear c74
       try clear c77
       try clear c77b0
       try clear c79
       try clear c80
       try clear c81
       try clear c82
       try clear c84
       try clear c85
       try clear c88
       try clear c89
       try clear c90
       try clear c92
       try clear c93
       try clear hcz15_0
       try clear hcz15_1
       try clear hcz15_2
       try clear hcz17_0
       try clear hcz17_1
       try clear hcz17_2
       try clear hcz24_0
       try clear hcz24_1
       try clear hcz24_2
       try clear hcz27_0
       try clear hcz27_1
       try clear hcz27_2
       try clear hcz32_0
       try clear hcz32_1
       try clear hcz32_2
       try clear hcz40_0
       try clear hcz40_1
       try clear hcz40_2
       try clear hcz48_0
       try clear hcz48_1
       try clear hcz48_2
       try clear hcz51_0
       try clear hcz51_1
       try clear hcz51_2
       try clear hcz56_0
       try clear hcz56_1
       try clear hcz56_2
       try clear hcz59_0
       try clear hcz59_1
       try clear hcz59_2
       try clear hcz75_0
       try clear hcz75_1
       try clear hcz75_2
       try clear hcz7_0
       try clear hcz7_1
       try clear hcz7_2
       try clear hcz83_0
       try clear hcz83_1
       try clear hcz83_2
       try clear hcz86_0
       try clear hcz86_1
       try clear hcz86_2
       try clear hcz91_0
       try clear hcz91_1
       try clear hcz91_2
       try clear hcz94_0
       try clear hcz94_1
       try clear hcz94_2
       try clear hfz15_0
       try clear hfz15_1
       try clear hfz15_2
       try clear hfz17_0
       try clear hfz17_1
       try clear hfz17_2
       try clear hfz24_0
       try clear hfz24_1
       try clear hfz24_2
       try clear hfz27_0
       try clear hfz27_1
       try clear hfz27_2
       try clear hfz32_0
       try clear hfz32_1
       try clear hfz32_2
       try clear hfz40_0
       try clear hfz40_1
       try clear hfz40_2
       try clear hfz48_0
       try clear hfz48_1
       try clear hfz48_2
       try clear hfz51_0
       try clear hfz51_1
       try clear hfz51_2
       try clear hfz56_0
       try clear hfz56_1
       try clear hfz56_2
       try clear hfz59_0
       try clear hfz59_1
       try clear hfz59_2
       try clear hfz75_0
       try clear hfz75_1
       try clear hfz75_2
       try clear hfz7_0
       try clear hfz7_1
       try clear hfz7_2
       try clear hfz83_0
       try clear hfz83_1
       try clear hfz83_2
       try clear hfz86_0
       try clear hfz86_1
       try clear hfz86_2
       try clear hfz91_0
       try clear hfz91_1
       try clear hfz91_2
       try clear hfz94_0
       try clear hfz94_1
       try clear hfz94_2
       try clear p2
       obtain ⟨kq, x69_65, rfl, HA, HJ65, HO_50019001, HO_50019002, HO_50027001, HO_50027002, HO_50036001, HO_50036002, BK50001, BK50018, BK50026, BK50035, HB⟩ := hcut
       have hl50027001_65 := (Kd.R_reads' HO_50027001.out).1
       rw [hl50027001_65] at HO_50027001
       (try simp only [hl50027001_65])
       (try simp only [hl50027001_65] at BK50001)
       (try simp only [hl50027001_65] at BK50018)
       (try simp only [hl50027001_65] at BK50026)
       (try simp only [hl50027001_65] at BK50035)
       (try simp only [hl50027001_65] at HO_50019001)
       (try simp only [hl50027001_65] at HO_50019002)
       (try simp only [hl50027001_65] at HO_50027002)
       (try simp only [hl50027001_65] at HO_50036001)
       (try simp only [hl50027001_65] at HO_50036002)
       have hl50027002_65 := (Kd.R_reads' HO_50027002.out).1
       rw [hl50027002_65] at HO_50027002
       (try simp only [hl50027002_65])
       (try simp only [hl50027002_65] at BK50001)
       (try simp only [hl50027002_65] at BK50018)
       (try simp only [hl50027002_65] at BK50026)
       (try simp only [hl50027002_65] at BK50035)
       (try simp only [hl50027002_65] at HO_50019001)
       (try simp only [hl50027002_65] at HO_50019002)
       (try simp only [hl50027002_65] at HO_50027001)
       (try simp only [hl50027002_65] at HO_50036001)
       (try simp only [hl50027002_65] at HO_50036002)
       cases kq with
       | zero => exact absurd HA.out (by simp [laws_FnExactLockFirm.j1])
       | succ kj65 =>
        have H := HA.out
        clear HA
        simp only [laws_FnExactLockFirm.j1] at H
        by_cases c96 : x69_65 = true
        ·subst c96
         have H1 : (some false) = some true := by rw [if_pos rfl] at H; exact H
         clear H
         have H := H1
         clear H1
         exact absurd H (by decide)
        ·replace c96 := Bool.eq_false_iff.mpr c96
         subst c96
         have H1 : ((laws_markLock.f kj65 t50027 t50028 t50031 1).bind fun bt50049 => ((laws_heldLock.f kj65 t50027 bt50049.2.1 bt50049.2.2 1).bind fun t50052 => (if t50052 < 0 then (some false) else (if t50052 = bt50049.1 then ((laws_toLock.f kj65 a0_0 l0_1 l0_2).bind fun bt50053 => ((impl_LockFirm.f bt50053.1 bt50053.2.1 bt50053.2.2 a1 a2).bind fun bt50060 => ((laws_eqLock.f kj65 bt50060.1 bt50060.2.1 bt50060.2.2.1 t50010 t50011 t50014).bind fun t50069 => (if t50069 = true then (laws_FnExactLockFirm.j2 kj65 bt50049.1 (bt50060.2.2.2 != t50017) t50027 bt50049.2.1 bt50049.2.2) else (laws_FnExactLockFirm.j2 kj65 bt50049.1 true t50027 bt50049.2.1 bt50049.2.2))))) else (some false))))) = some true := by rw [if_neg (show ¬ (false = true) by decide)] at H; exact H
         clear H
         have H := H1
         clear H1
         replace H := Option.bind_eq_some_iff.mp H
         obtain ⟨⟨t50049, t50050, t50051⟩, A970, H⟩ := H
         replace H : ((laws_heldLock.f kj65 t50027 t50050 t50051 1).bind fun t50052 => (if t50052 < 0 then (some false) else (if t50052 = t50049 then ((laws_toLock.f kj65 a0_0 l0_1 l0_2).bind fun bt50053 => ((impl_LockFirm.f bt50053.1 bt50053.2.1 bt50053.2.2 a1 a2).bind fun bt50060 => ((laws_eqLock.f kj65 bt50060.1 bt50060.2.1 bt50060.2.2.1 t50010 t50011 t50014).bind fun t50069 => (if t50069 = true then (laws_FnExactLockFirm.j2 kj65 t50049 (bt50060.2.2.2 != t50017) t50027 t50050 t50051) else (laws_FnExactLockFirm.j2 kj65 t50049 true t50027 t50050 t50051))))) else (some false)))) = some true := H
         have A97 := Aside0.mk A970
         clear A970
         replace H := Option.bind_eq_some_iff.mp H
         obtain ⟨t50052, A980, H⟩ := H
         replace H : (if t50052 < 0 then (some false) else (if t50052 = t50049 then ((laws_toLock.f kj65 a0_0 l0_1 l0_2).bind fun bt50053 => ((impl_LockFirm.f bt50053.1 bt50053.2.1 bt50053.2.2 a1 a2).bind fun bt50060 => ((laws_eqLock.f kj65 bt50060.1 bt50060.2.1 bt50060.2.2.1 t50010 t50011 t50014).bind fun t50069 => (if t50069 = true then (laws_FnExactLockFirm.j2 kj65 t50049 (bt50060.2.2.2 != t50017) t50027 t50050 t50051) else (laws_FnExactLockFirm.j2 kj65 t50049 true t50027 t50050 t50051))))) else (some false))) = some true := H
         have A98 := Aside0.mk A980
         clear A980
         by_cases c99 : t50052 < 0
         ·rw [if_pos c99] at H
          have c99b0 : decide (t50052 < 0) = true := decide_eq_true c99
          clear c99
          exact absurd H (by decide)
         ·rw [if_neg c99] at H
          have c99b0 : decide (t50052 < 0) = false := decide_eq_false c99
          clear c99
          by_cases c107 : t50052 = t50049
          ·rw [if_pos c107] at H
           have c107b0 : (t50052 == t50049) = true := beq_iff_eq.mpr c107
           have c107b1 : (t50052 != t50049) = false := bne_eq_false_iff_eq.mpr c107
           clear c107
           replace H := Option.bind_eq_some_iff.mp H
           obtain ⟨⟨t50053, t50054, t50057⟩, A1080, H⟩ := H
           replace H : ((impl_LockFirm.f t50053 t50054 t50057 a1 a2).bind fun bt50060 => ((laws_eqLock.f kj65 bt50060.1 bt50060.2.1 bt50060.2.2.1 t50010 t50011 t50014).bind fun t50069 => (if t50069 = true then (laws_FnExactLockFirm.j2 kj65 t50049 (bt50060.2.2.2 != t50017) t50027 t50050 t50051) else (laws_FnExactLockFirm.j2 kj65 t50049 true t50027 t50050 t50051)))) = some true := H
           have A108 := Aside0.mk A1080
           clear A1080
           replace H := Option.bind_eq_some_iff.mp H
           obtain ⟨⟨t50060, t50061, t50064, t50067⟩, A1090, H⟩ := H
           replace H : ((laws_eqLock.f kj65 t50060 t50061 t50064 t50010 t50011 t50014).bind fun t50069 => (if t50069 = true then (laws_FnExactLockFirm.j2 kj65 t50049 (t50067 != t50017) t50027 t50050 t50051) else (laws_FnExactLockFirm.j2 kj65 t50049 true t50027 t50050 t50051))) = some true := H
           have A109 := Aside0.mk A1090
           clear A1090
           have HC110 := Aside0.mk H
           clear H
           have hnb111 := NB50035_50001.out
           have hnc111 := NB50001_50035.out
           have hnb112 := NB50035_50018.out
           have hnc112 := NB50018_50035.out
           have hnb113 := NB50035_50026.out
           have hnc113 := NB50026_50035.out
           have hcz114_0 : wc.cell? ⟨gb50035, 0, none⟩ = some (.int .i64 t50027) := (blk_cell BK50035.out 0).trans rfl
           have hcz114_1 : wc.cell? ⟨gb50035, 1, none⟩ = some (.slice Ao41 t50028.length co41) := (blk_cell BK50035.out 1).trans rfl
           have hcz114_2 : wc.cell? ⟨gb50035, 2, none⟩ = some (.slice Ao42 t50031.length co42) := (blk_cell BK50035.out 2).trans rfl
           have hfz114_0 := blk_frozen BK50035.out 0
           have hfz114_1 := blk_frozen BK50035.out 1
           have hfz114_2 := blk_frozen BK50035.out 2
           go_upto_region 25 with (first | ((with_reducible refine gate_callee (f := 22) rfl ?_); refine goesL_ (some 72) rfl rfl Try.func22 (by kernel_rfl) rfl #[.agg #[.int .i64 t50027, .slice Ao41 t50028.length co41, .slice Ao42 t50031.length co42], .int .i64 1] rfl (by (try simp only [List.map_toArray, List.map_cons, List.map_nil]); first | done | rfl | (simp only [List.length_drop, List.length_take]; rfl)) ?_; (with_reducible refine (laws_markLock.calls kj65 t50027 (fun k_ => some k_ = (.slice Ao41 t50028.length co41 : Value).ownBlock) (.slice Ao41 t50028.length co41) t50028 (fun k_ => some k_ = (.slice Ao42 t50031.length co42 : Value).ownBlock) (.slice Ao42 t50031.length co42) t50031 1 t50049 t50050 t50051 w _ ?side1 ?side2 ?side3 ?side4 ?side5 A97.out).mono ?_); (case side1 => repeat (first | (with_reducible first | exact HB.out | apply below_alloc | apply pw_below_drewN | apply below_drew1 | refine below_set ?_ GE50001.out | refine below_set ?_ GE50018.out | refine below_set ?_ GE50026.out | refine below_set ?_ GE50035.out) | exact HB.out)); (case side2 => exact Kd.R_tight rfl HO_50036001.out); (case side3 => exact fun k_ e_ => (HO_50036001.out.1 k_ e_.symm).2.2.2.2); (case side4 => exact Kd.R_tight rfl HO_50036002.out); (case side5 => exact fun k_ e_ => (HO_50036002.out.1 k_ e_.symm).2.2.2.2); rintro e w115 ⟨rfl, hy0, hy1, hb, hkp⟩; refine ⟨_, rfl, ?_⟩; have n0_ := Aside0.mk (Kd.R_mono (ok' := fun k_ => some k_ ≠ (.slice Ao26 t50014.length co26 : Value).ownBlock ∧ some k_ ≠ (.slice Ao33 t50046.length co33 : Value).ownBlock ∧ some k_ ≠ (.slice Ao34 t50047.length co34 : Value).ownBlock ∧ some k_ ≠ (.slice Ao41 t50028.length co41 : Value).ownBlock ∧ some k_ ≠ (.slice Ao42 t50031.length co42 : Value).ownBlock) (Kd.R_keptB (HO_50019001.out) hkp (fun k_ hk_ hs_ => Or.elim hs_ (fun e_ => (hk_.2.2.2.1) e_) (fun e_ => (hk_.2.2.2.2) e_))) (fun k_ hk_ => ⟨hk_.1.1, hk_.1.2.1, hk_.1.2.2.1, hk_.1.2.2.2.1, hk_.1.2.2.2.2⟩)); have n1_ := Aside0.mk (Kd.R_mono (ok' := fun k_ => some k_ ≠ (.slice Ao25 t50011.length co25 : Value).ownBlock ∧ some k_ ≠ (.slice Ao33 t50046.length co33 : Value).ownBlock ∧ some k_ ≠ (.slice Ao34 t50047.length co34 : Value).ownBlock ∧ some k_ ≠ (.slice Ao41 t50028.length co41 : Value).ownBlock ∧ some k_ ≠ (.slice Ao42 t50031.length co42 : Value).ownBlock) (Kd.R_keptB (HO_50019002.out) hkp (fun k_ hk_ hs_ => Or.elim hs_ (fun e_ => (hk_.2.2.2.1) e_) (fun e_ => (hk_.2.2.2.2) e_))) (fun k_ hk_ => ⟨hk_.1.1, hk_.1.2.1, hk_.1.2.2.1, hk_.1.2.2.2.1, hk_.1.2.2.2.2⟩)); have n2_ := Aside0.mk (Kd.R_mono (ok' := fun k_ => some k_ ≠ (.slice Ao25 t50011.length co25 : Value).ownBlock ∧ some k_ ≠ (.slice Ao26 t50014.length co26 : Value).ownBlock ∧ some k_ ≠ (.slice Ao34 t50047.length co34 : Value).ownBlock ∧ some k_ ≠ (.slice Ao41 t50028.length co41 : Value).ownBlock ∧ some k_ ≠ (.slice Ao42 t50031.length co42 : Value).ownBlock) (Kd.R_keptB (HO_50027001.out) hkp (fun k_ hk_ hs_ => Or.elim hs_ (fun e_ => (hk_.2.2.2.1) e_) (fun e_ => (hk_.2.2.2.2) e_))) (fun k_ hk_ => ⟨hk_.1.1, hk_.1.2.1, hk_.1.2.2.1, hk_.1.2.2.2.1, hk_.1.2.2.2.2⟩)); have n3_ := Aside0.mk (Kd.R_mono (ok' := fun k_ => some k_ ≠ (.slice Ao25 t50011.length co25 : Value).ownBlock ∧ some k_ ≠ (.slice Ao26 t50014.length co26 : Value).ownBlock ∧ some k_ ≠ (.slice Ao33 t50046.length co33 : Value).ownBlock ∧ some k_ ≠ (.slice Ao41 t50028.length co41 : Value).ownBlock ∧ some k_ ≠ (.slice Ao42 t50031.length co42 : Value).ownBlock) (Kd.R_keptB (HO_50027002.out) hkp (fun k_ hk_ hs_ => Or.elim hs_ (fun e_ => (hk_.2.2.2.1) e_) (fun e_ => (hk_.2.2.2.2) e_))) (fun k_ hk_ => ⟨hk_.1.1, hk_.1.2.1, hk_.1.2.2.1, hk_.1.2.2.2.1, hk_.1.2.2.2.2⟩)); have n4_ := Aside0.mk (Kd.R_reok rfl hy0 (fun k_ e_ => HO_50036001.out.1 k_ e_)); have n5_ := Aside0.mk (Kd.R_reok rfl hy1 (fun k_ e_ => HO_50036002.out.1 k_ e_)); have n6_ := Aside0.mk (blk_kept (by (with_reducible repeat (first | refine blk_drewN ?_ _ | refine blk_drew ?_ | refine blk_alloc ?_ _)); exact BK50001.out) hkp (fun hs_ => Or.elim hs_ (fun e_ => (fun e_ => (Kd.R_ne HO_50036001.out BK50001.out (by decide)) e_) e_) (fun e_ => (fun e_ => (Kd.R_ne HO_50036002.out BK50001.out (by decide)) e_) e_))); have n7_ := Aside0.mk (blk_kept (by (with_reducible repeat (first | refine blk_drewN ?_ _ | refine blk_drew ?_ | refine blk_alloc ?_ _)); exact BK50018.out) hkp (fun hs_ => Or.elim hs_ (fun e_ => (fun e_ => (Kd.R_ne HO_50036001.out BK50018.out (by decide)) e_) e_) (fun e_ => (fun e_ => (Kd.R_ne HO_50036002.out BK50018.out (by decide)) e_) e_))); have n8_ := Aside0.mk (blk_kept (by (with_reducible repeat (first | refine blk_drewN ?_ _ | refine blk_drew ?_ | refine blk_alloc ?_ _)); exact BK50026.out) hkp (fun hs_ => Or.elim hs_ (fun e_ => (fun e_ => (Kd.R_ne HO_50036001.out BK50026.out (by decide)) e_) e_) (fun e_ => (fun e_ => (Kd.R_ne HO_50036002.out BK50026.out (by decide)) e_) e_))); have n9_ := Aside0.mk (blk_kept (by (with_reducible repeat (first | refine blk_drewN ?_ _ | refine blk_drew ?_ | refine blk_alloc ?_ _)); exact BK50035.out) hkp (fun hs_ => Or.elim hs_ (fun e_ => (fun e_ => (Kd.R_ne HO_50036001.out BK50035.out (by decide)) e_) e_) (fun e_ => (fun e_ => (Kd.R_ne HO_50036002.out BK50035.out (by decide)) e_) e_))); have n10_ := Aside0.mk (hb); clear HO_50019001; clear HO_50019002; clear HO_50027001; clear HO_50027002; clear HO_50036001; clear HO_50036002; clear BK50001; clear BK50018; clear BK50026; clear BK50035; clear HB; have HO_50019001 := n0_; have HO_50019002 := n1_; have HO_50027001 := n2_; have HO_50027002 := n3_; have HO_50036001 := n4_; have HO_50036002 := n5_; have BK50001 := n6_; have BK50018 := n7_; have BK50026 := n8_; have BK50035 := n9_; have HB := n10_; clear n0_ n1_ n2_ n3_ n4_ n5_ n6_ n7_ n8_ n9_ n10_; (try clear hb); (try clear hkp); (try clear hy0); (try clear hy1); have hcz116_0 : w115.cell? ⟨gb50035, 0, none⟩ = some (.int .i64 t50027) := (blk_cell BK50035.out 0).trans rfl; have hcz116_1 : w115.cell? ⟨gb50035, 1, none⟩ = some (.slice Ao41 t50028.length co41) := (blk_cell BK50035.out 1).trans rfl; have hcz116_2 : w115.cell? ⟨gb50035, 2, none⟩ = some (.slice Ao42 t50031.length co42) := (blk_cell BK50035.out 2).trans rfl; have hfz116_0 := blk_frozen BK50035.out 0; have hfz116_1 := blk_frozen BK50035.out 1; have hfz116_2 := blk_frozen BK50035.out 2) | ((with_reducible refine gate_callee (f := 23) rfl ?_); refine goesL_ (some 75) rfl rfl Try.func23 (by kernel_rfl) rfl #[.agg #[.int .i64 t50027, .slice Ao41 t50050.length co41, .slice Ao42 t50051.length co42], .int .i64 1] rfl (by (try simp only [List.map_toArray, List.map_cons, List.map_nil]); first | done | (rw [show t50050.length = t50028.length from (Kd.R_reads' HO_50036001.out).1.symm, show t50051.length = t50031.length from (Kd.R_reads' HO_50036002.out).1.symm] <;> rfl) | rfl | (simp only [List.length_drop, List.length_take]; rfl)) ?_; (with_reducible refine (laws_heldLock.calls kj65 t50027 _ _ t50050 _ _ t50051 1 t50052 _ ?side1 ?side2 ?side3 ?side4 A98.out).mono ?_); (case side1 => repeat (first | exact (Kd.R_reads' HO_50036001.out).2.2 | (with_reducible refine Kd.C_alloc ?_ _) | (with_reducible refine Kd.C_drewN ?_ _) | (with_reducible refine Kd.C_drew ?_))); (case side2 => rw [show t50050.length = t50028.length from (Kd.R_reads' HO_50036001.out).1.symm]; exact (Kd.R_reads' HO_50036001.out).2.1); (case side3 => repeat (first | exact (Kd.R_reads' HO_50036002.out).2.2 | (with_reducible refine Kd.C_alloc ?_ _) | (with_reducible refine Kd.C_drewN ?_ _) | (with_reducible refine Kd.C_drew ?_))); (case side4 => rw [show t50051.length = t50031.length from (Kd.R_reads' HO_50036002.out).1.symm]; exact (Kd.R_reads' HO_50036002.out).2.1); rintro e w117 ⟨rfl, hb⟩; refine ⟨_, rfl, ?_⟩; have n0_ := Aside0.mk (Kd.R_below (by (with_reducible repeat (first | apply Kd.R_alloc | apply Kd.R_drewN | apply Kd.R_drew)); exact HO_50019001.out) hb); have n1_ := Aside0.mk (Kd.R_below (by (with_reducible repeat (first | apply Kd.R_alloc | apply Kd.R_drewN | apply Kd.R_drew)); exact HO_50019002.out) hb); have n2_ := Aside0.mk (Kd.R_below (by (with_reducible repeat (first | apply Kd.R_alloc | apply Kd.R_drewN | apply Kd.R_drew)); exact HO_50027001.out) hb); have n3_ := Aside0.mk (Kd.R_below (by (with_reducible repeat (first | apply Kd.R_alloc | apply Kd.R_drewN | apply Kd.R_drew)); exact HO_50027002.out) hb); have n4_ := Aside0.mk (Kd.R_below (by (with_reducible repeat (first | apply Kd.R_alloc | apply Kd.R_drewN | apply Kd.R_drew)); exact HO_50036001.out) hb); have n5_ := Aside0.mk (Kd.R_below (by (with_reducible repeat (first | apply Kd.R_alloc | apply Kd.R_drewN | apply Kd.R_drew)); exact HO_50036002.out) hb); have n6_ := Aside0.mk (blk_below (g := gb50001) (o := .cells #[.int .i64 a0_0, .slice A0_1 l0_1.length c0_1, .slice A0_2 l0_2.length c0_2] 24 (0, 0)) (by (with_reducible repeat (first | refine blk_drewN ?_ _ | refine blk_drew ?_ | refine blk_alloc ?_ _)); exact BK50001.out) hb); have n7_ := Aside0.mk (blk_below (g := gb50018) (o := .cells #[.int .i64 t50010, .slice Ao25 t50011.length co25, .slice Ao26 t50014.length co26] 29 (0, 0)) (by (with_reducible repeat (first | refine blk_drewN ?_ _ | refine blk_drew ?_ | refine blk_alloc ?_ _)); exact BK50018.out) hb); have n8_ := Aside0.mk (blk_below (g := gb50026) (o := .cells #[.int .i64 t50019, .slice Ao33 t50046.length co33, .slice Ao34 t50047.length co34] 29 (0, 0)) (by (with_reducible repeat (first | refine blk_drewN ?_ _ | refine blk_drew ?_ | refine blk_alloc ?_ _)); exact BK50026.out) hb); have n9_ := Aside0.mk (blk_below (g := gb50035) (o := .cells #[.int .i64 t50027, .slice Ao41 t50028.length co41, .slice Ao42 t50031.length co42] 29 (0, 0)) (by (with_reducible repeat (first | refine blk_drewN ?_ _ | refine blk_drew ?_ | refine blk_alloc ?_ _)); exact BK50035.out) hb); have n10_ := Aside0.mk (below_step (by repeat (first | (with_reducible first | exact HB.out | apply below_alloc | apply pw_below_drewN | apply below_drew1 | refine below_set ?_ GE50001.out | refine below_set ?_ GE50018.out | refine below_set ?_ GE50026.out | refine below_set ?_ GE50035.out) | exact HB.out)) hb); clear HO_50019001; clear HO_50019002; clear HO_50027001; clear HO_50027002; clear HO_50036001; clear HO_50036002; clear BK50001; clear BK50018; clear BK50026; clear BK50035; clear HB; have HO_50019001 := n0_; have HO_50019002 := n1_; have HO_50027001 := n2_; have HO_50027002 := n3_; have HO_50036001 := n4_; have HO_50036002 := n5_; have BK50001 := n6_; have BK50018 := n7_; have BK50026 := n8_; have BK50035 := n9_; have HB := n10_; clear n0_ n1_ n2_ n3_ n4_ n5_ n6_ n7_ n8_ n9_ n10_; (try clear hb); (try clear hb2); (try clear hk); (try clear hi); have hnb118 := NB50001_50018.out; have hnc118 := NB50018_50001.out; have hnb119 := NB50001_50026.out; have hnc119 := NB50026_50001.out; have hcz120_0 : w117.cell? ⟨gb50001, 0, none⟩ = some (.int .i64 a0_0) := (blk_cell BK50001.out 0).trans rfl; have hcz120_1 : w117.cell? ⟨gb50001, 1, none⟩ = some (.slice A0_1 l0_1.length c0_1) := (blk_cell BK50001.out 1).trans rfl; have hcz120_2 : w117.cell? ⟨gb50001, 2, none⟩ = some (.slice A0_2 l0_2.length c0_2) := (blk_cell BK50001.out 2).trans rfl; have hfz120_0 := blk_frozen BK50001.out 0; have hfz120_1 := blk_frozen BK50001.out 1; have hfz120_2 := blk_frozen BK50001.out 2) | ((with_reducible refine gate_callee (f := 17) rfl ?_); refine goesL_ (some 83) rfl rfl Try.func17 (by kernel_rfl) rfl #[.agg #[.int .i64 a0_0, .slice A0_1 l0_1.length c0_1, .slice A0_2 l0_2.length c0_2]] rfl (by (try simp only [List.map_toArray, List.map_cons, List.map_nil]); first | done | rfl | (simp only [List.length_drop, List.length_take]; rfl)) ?_; (with_reducible refine (laws_toLock.calls kj65 a0_0 _ _ l0_1 _ _ l0_2 t50053 t50054 t50057 _ ?side1 ?side2 ?side3 ?side4 A108.out).mono ?_); (case side1 => repeat (first | exact (Kd.C_below HR0_1.out HB.out) | (with_reducible refine Kd.C_alloc ?_ _) | (with_reducible refine Kd.C_drewN ?_ _) | (with_reducible refine Kd.C_drew ?_))); (case side2 => exact HC0_1.out); (case side3 => repeat (first | exact (Kd.C_below HR0_2.out HB.out) | (with_reducible refine Kd.C_alloc ?_ _) | (with_reducible refine Kd.C_drewN ?_ _) | (with_reducible refine Kd.C_drew ?_))); (case side4 => exact HC0_2.out); rintro e w121 ⟨v50055, v50058, rfl, ho0, ho1, hb⟩; refine ⟨_, rfl, ?_⟩; have n0_ := Aside0.mk (Kd.R_mono (Kd.R_told (Kd.R_told (Kd.R_old (by (with_reducible repeat (first | apply Kd.R_alloc | apply Kd.R_drewN | apply Kd.R_drew)); exact HO_50019001.out) hb) (Kd.R_base ho0)) (Kd.R_base ho1)) (fun _ h_ => h_.1)); have n1_ := Aside0.mk (Kd.R_mono (Kd.R_told (Kd.R_told (Kd.R_old (by (with_reducible repeat (first | apply Kd.R_alloc | apply Kd.R_drewN | apply Kd.R_drew)); exact HO_50019002.out) hb) (Kd.R_base ho0)) (Kd.R_base ho1)) (fun _ h_ => h_.1)); have n2_ := Aside0.mk (Kd.R_mono (Kd.R_told (Kd.R_told (Kd.R_old (by (with_reducible repeat (first | apply Kd.R_alloc | apply Kd.R_drewN | apply Kd.R_drew)); exact HO_50027001.out) hb) (Kd.R_base ho0)) (Kd.R_base ho1)) (fun _ h_ => h_.1)); have n3_ := Aside0.mk (Kd.R_mono (Kd.R_told (Kd.R_told (Kd.R_old (by (with_reducible repeat (first | apply Kd.R_alloc | apply Kd.R_drewN | apply Kd.R_drew)); exact HO_50027002.out) hb) (Kd.R_base ho0)) (Kd.R_base ho1)) (fun _ h_ => h_.1)); have n4_ := Aside0.mk (Kd.R_mono (Kd.R_told (Kd.R_told (Kd.R_old (by (with_reducible repeat (first | apply Kd.R_alloc | apply Kd.R_drewN | apply Kd.R_drew)); exact HO_50036001.out) hb) (Kd.R_base ho0)) (Kd.R_base ho1)) (fun _ h_ => h_.1)); have n5_ := Aside0.mk (Kd.R_mono (Kd.R_told (Kd.R_told (Kd.R_old (by (with_reducible repeat (first | apply Kd.R_alloc | apply Kd.R_drewN | apply Kd.R_drew)); exact HO_50036002.out) hb) (Kd.R_base ho0)) (Kd.R_base ho1)) (fun _ h_ => h_.1)); have n6_ := Aside0.mk (Kd.R_lower (Kd.R_new' (Kd.R_new' (Kd.R_new' (Kd.R_new' (Kd.R_new' (Kd.R_new' ho0 (Kd.R_lt (by (with_reducible repeat (first | apply Kd.R_alloc | apply Kd.R_drewN | apply Kd.R_drew)); exact HO_50019001.out))) (Kd.R_lt (by (with_reducible repeat (first | apply Kd.R_alloc | apply Kd.R_drewN | apply Kd.R_drew)); exact HO_50019002.out))) (Kd.R_lt (by (with_reducible repeat (first | apply Kd.R_alloc | apply Kd.R_drewN | apply Kd.R_drew)); exact HO_50027001.out))) (Kd.R_lt (by (with_reducible repeat (first | apply Kd.R_alloc | apply Kd.R_drewN | apply Kd.R_drew)); exact HO_50027002.out))) (Kd.R_lt (by (with_reducible repeat (first | apply Kd.R_alloc | apply Kd.R_drewN | apply Kd.R_drew)); exact HO_50036001.out))) (Kd.R_lt (by (with_reducible repeat (first | apply Kd.R_alloc | apply Kd.R_drewN | apply Kd.R_drew)); exact HO_50036002.out))) (below_size (by repeat (first | (with_reducible first | exact HB.out | apply below_alloc | apply pw_below_drewN | apply below_drew1 | refine below_set ?_ GE50001.out | refine below_set ?_ GE50018.out | refine below_set ?_ GE50026.out | refine below_set ?_ GE50035.out) | exact HB.out)))); have n7_ := Aside0.mk (Kd.R_lower (Kd.R_new' (Kd.R_new' (Kd.R_new' (Kd.R_new' (Kd.R_new' (Kd.R_new' ho1 (Kd.R_lt (by (with_reducible repeat (first | apply Kd.R_alloc | apply Kd.R_drewN | apply Kd.R_drew)); exact HO_50019001.out))) (Kd.R_lt (by (with_reducible repeat (first | apply Kd.R_alloc | apply Kd.R_drewN | apply Kd.R_drew)); exact HO_50019002.out))) (Kd.R_lt (by (with_reducible repeat (first | apply Kd.R_alloc | apply Kd.R_drewN | apply Kd.R_drew)); exact HO_50027001.out))) (Kd.R_lt (by (with_reducible repeat (first | apply Kd.R_alloc | apply Kd.R_drewN | apply Kd.R_drew)); exact HO_50027002.out))) (Kd.R_lt (by (with_reducible repeat (first | apply Kd.R_alloc | apply Kd.R_drewN | apply Kd.R_drew)); exact HO_50036001.out))) (Kd.R_lt (by (with_reducible repeat (first | apply Kd.R_alloc | apply Kd.R_drewN | apply Kd.R_drew)); exact HO_50036002.out))) (below_size (by repeat (first | (with_reducible first | exact HB.out | apply below_alloc | apply pw_below_drewN | apply below_drew1 | refine below_set ?_ GE50001.out | refine below_set ?_ GE50018.out | refine below_set ?_ GE50026.out | refine below_set ?_ GE50035.out) | exact HB.out)))); have n8_ := Aside0.mk (blk_below (g := gb50001) (o := .cells #[.int .i64 a0_0, .slice A0_1 l0_1.length c0_1, .slice A0_2 l0_2.length c0_2] 24 (0, 0)) (by (with_reducible repeat (first | refine blk_drewN ?_ _ | refine blk_drew ?_ | refine blk_alloc ?_ _)); exact BK50001.out) hb); have n9_ := Aside0.mk (blk_below (g := gb50018) (o := .cells #[.int .i64 t50010, .slice Ao25 t50011.length co25, .slice Ao26 t50014.length co26] 29 (0, 0)) (by (with_reducible repeat (first | refine blk_drewN ?_ _ | refine blk_drew ?_ | refine blk_alloc ?_ _)); exact BK50018.out) hb); have n10_ := Aside0.mk (blk_below (g := gb50026) (o := .cells #[.int .i64 t50019, .slice Ao33 t50046.length co33, .slice Ao34 t50047.length co34] 29 (0, 0)) (by (with_reducible repeat (first | refine blk_drewN ?_ _ | refine blk_drew ?_ | refine blk_alloc ?_ _)); exact BK50026.out) hb); have n11_ := Aside0.mk (blk_below (g := gb50035) (o := .cells #[.int .i64 t50027, .slice Ao41 t50028.length co41, .slice Ao42 t50031.length co42] 29 (0, 0)) (by (with_reducible repeat (first | refine blk_drewN ?_ _ | refine blk_drew ?_ | refine blk_alloc ?_ _)); exact BK50035.out) hb); have n12_ := Aside0.mk (below_step (by repeat (first | (with_reducible first | exact HB.out | apply below_alloc | apply pw_below_drewN | apply below_drew1 | refine below_set ?_ GE50001.out | refine below_set ?_ GE50018.out | refine below_set ?_ GE50026.out | refine below_set ?_ GE50035.out) | exact HB.out)) hb); clear HO_50019001; clear HO_50019002; clear HO_50027001; clear HO_50027002; clear HO_50036001; clear HO_50036002; clear BK50001; clear BK50018; clear BK50026; clear BK50035; clear HB; have HO_50019001 := n0_; have HO_50019002 := n1_; have HO_50027001 := n2_; have HO_50027002 := n3_; have HO_50036001 := n4_; have HO_50036002 := n5_; have HO50056 := n6_; have HO50059 := n7_; have BK50001 := n8_; have BK50018 := n9_; have BK50026 := n10_; have BK50035 := n11_; have HB := n12_; clear n0_ n1_ n2_ n3_ n4_ n5_ n6_ n7_ n8_ n9_ n10_ n11_ n12_; (try clear hb); (try clear hb2); (try clear hk); (try clear hi); (try clear ho0); (try clear ho1); obtain ⟨Ao122, co122, eo122⟩ := Kd.R_slice HO50056.out; subst eo122; obtain ⟨Ao123, co123, eo123⟩ := Kd.R_slice HO50059.out; subst eo123) | ((with_reducible refine gate_callee (f := 21) rfl ?_); refine goesL_ (some 86) rfl rfl Try.func21 (by kernel_rfl) rfl #[.agg #[.int .i64 t50053, .slice Ao122 t50054.length co122, .slice Ao123 t50057.length co123], .int .i64 a1, .int .i64 a2] rfl (by (try simp only [List.map_toArray, List.map_cons, List.map_nil]); first | done | rfl | (simp only [List.length_drop, List.length_take]; rfl)) ?_; (with_reducible refine (impl_LockFirm.calls t50053 _ _ t50054 _ _ t50057 a1 a2 t50060 t50061 t50064 t50067 _ ?side1 ?side2 ?side3 ?side4 A109.out).mono ?_); (case side1 => repeat (first | exact (Kd.R_reads' HO50056.out).2.2 | (with_reducible refine Kd.C_alloc ?_ _) | (with_reducible refine Kd.C_drewN ?_ _) | (with_reducible refine Kd.C_drew ?_))); (case side2 => exact (Kd.R_reads' HO50056.out).2.1); (case side3 => repeat (first | exact (Kd.R_reads' HO50059.out).2.2 | (with_reducible refine Kd.C_alloc ?_ _) | (with_reducible refine Kd.C_drewN ?_ _) | (with_reducible refine Kd.C_drew ?_))); (case side4 => exact (Kd.R_reads' HO50059.out).2.1); rintro e w124 ⟨v50062, v50065, rfl, ho0, ho1, hb⟩; refine ⟨_, rfl, ?_⟩; have n0_ := Aside0.mk (Kd.R_mono (Kd.R_told (Kd.R_told (Kd.R_old (by (with_reducible repeat (first | apply Kd.R_alloc | apply Kd.R_drewN | apply Kd.R_drew)); exact HO_50019001.out) hb) (Kd.R_base ho0)) (Kd.R_base ho1)) (fun _ h_ => h_.1)); have n1_ := Aside0.mk (Kd.R_mono (Kd.R_told (Kd.R_told (Kd.R_old (by (with_reducible repeat (first | apply Kd.R_alloc | apply Kd.R_drewN | apply Kd.R_drew)); exact HO_50019002.out) hb) (Kd.R_base ho0)) (Kd.R_base ho1)) (fun _ h_ => h_.1)); have n2_ := Aside0.mk (Kd.R_mono (Kd.R_told (Kd.R_told (Kd.R_old (by (with_reducible repeat (first | apply Kd.R_alloc | apply Kd.R_drewN | apply Kd.R_drew)); exact HO_50027001.out) hb) (Kd.R_base ho0)) (Kd.R_base ho1)) (fun _ h_ => h_.1)); have n3_ := Aside0.mk (Kd.R_mono (Kd.R_told (Kd.R_told (Kd.R_old (by (with_reducible repeat (first | apply Kd.R_alloc | apply Kd.R_drewN | apply Kd.R_drew)); exact HO_50027002.out) hb) (Kd.R_base ho0)) (Kd.R_base ho1)) (fun _ h_ => h_.1)); have n4_ := Aside0.mk (Kd.R_mono (Kd.R_told (Kd.R_told (Kd.R_old (by (with_reducible repeat (first | apply Kd.R_alloc | apply Kd.R_drewN | apply Kd.R_drew)); exact HO_50036001.out) hb) (Kd.R_base ho0)) (Kd.R_base ho1)) (fun _ h_ => h_.1)); have n5_ := Aside0.mk (Kd.R_mono (Kd.R_told (Kd.R_told (Kd.R_old (by (with_reducible repeat (first | apply Kd.R_alloc | apply Kd.R_drewN | apply Kd.R_drew)); exact HO_50036002.out) hb) (Kd.R_base ho0)) (Kd.R_base ho1)) (fun _ h_ => h_.1)); have n6_ := Aside0.mk (Kd.R_mono (Kd.R_told (Kd.R_told (Kd.R_old (by (with_reducible repeat (first | apply Kd.R_alloc | apply Kd.R_drewN | apply Kd.R_drew)); exact HO50056.out) hb) (Kd.R_base ho0)) (Kd.R_base ho1)) (fun _ h_ => h_.1)); have n7_ := Aside0.mk (Kd.R_mono (Kd.R_told (Kd.R_told (Kd.R_old (by (with_reducible repeat (first | apply Kd.R_alloc | apply Kd.R_drewN | apply Kd.R_drew)); exact HO50059.out) hb) (Kd.R_base ho0)) (Kd.R_base ho1)) (fun _ h_ => h_.1)); have n8_ := Aside0.mk (Kd.R_lower (Kd.R_new' (Kd.R_new' (Kd.R_new' (Kd.R_new' (Kd.R_new' (Kd.R_new' (Kd.R_new' (Kd.R_new' ho0 (Kd.R_lt (by (with_reducible repeat (first | apply Kd.R_alloc | apply Kd.R_drewN | apply Kd.R_drew)); exact HO_50019001.out))) (Kd.R_lt (by (with_reducible repeat (first | apply Kd.R_alloc | apply Kd.R_drewN | apply Kd.R_drew)); exact HO_50019002.out))) (Kd.R_lt (by (with_reducible repeat (first | apply Kd.R_alloc | apply Kd.R_drewN | apply Kd.R_drew)); exact HO_50027001.out))) (Kd.R_lt (by (with_reducible repeat (first | apply Kd.R_alloc | apply Kd.R_drewN | apply Kd.R_drew)); exact HO_50027002.out))) (Kd.R_lt (by (with_reducible repeat (first | apply Kd.R_alloc | apply Kd.R_drewN | apply Kd.R_drew)); exact HO_50036001.out))) (Kd.R_lt (by (with_reducible repeat (first | apply Kd.R_alloc | apply Kd.R_drewN | apply Kd.R_drew)); exact HO_50036002.out))) (Kd.R_lt (by (with_reducible repeat (first | apply Kd.R_alloc | apply Kd.R_drewN | apply Kd.R_drew)); exact HO50056.out))) (Kd.R_lt (by (with_reducible repeat (first | apply Kd.R_alloc | apply Kd.R_drewN | apply Kd.R_drew)); exact HO50059.out))) (below_size (by repeat (first | (with_reducible first | exact HB.out | apply below_alloc | apply pw_below_drewN | apply below_drew1 | refine below_set ?_ GE50001.out | refine below_set ?_ GE50018.out | refine below_set ?_ GE50026.out | refine below_set ?_ GE50035.out) | exact HB.out)))); have n9_ := Aside0.mk (Kd.R_lower (Kd.R_new' (Kd.R_new' (Kd.R_new' (Kd.R_new' (Kd.R_new' (Kd.R_new' (Kd.R_new' (Kd.R_new' ho1 (Kd.R_lt (by (with_reducible repeat (first | apply Kd.R_alloc | apply Kd.R_drewN | apply Kd.R_drew)); exact HO_50019001.out))) (Kd.R_lt (by (with_reducible repeat (first | apply Kd.R_alloc | apply Kd.R_drewN | apply Kd.R_drew)); exact HO_50019002.out))) (Kd.R_lt (by (with_reducible repeat (first | apply Kd.R_alloc | apply Kd.R_drewN | apply Kd.R_drew)); exact HO_50027001.out))) (Kd.R_lt (by (with_reducible repeat (first | apply Kd.R_alloc | apply Kd.R_drewN | apply Kd.R_drew)); exact HO_50027002.out))) (Kd.R_lt (by (with_reducible repeat (first | apply Kd.R_alloc | apply Kd.R_drewN | apply Kd.R_drew)); exact HO_50036001.out))) (Kd.R_lt (by (with_reducible repeat (first | apply Kd.R_alloc | apply Kd.R_drewN | apply Kd.R_drew)); exact HO_50036002.out))) (Kd.R_lt (by (with_reducible repeat (first | apply Kd.R_alloc | apply Kd.R_drewN | apply Kd.R_drew)); exact HO50056.out))) (Kd.R_lt (by (with_reducible repeat (first | apply Kd.R_alloc | apply Kd.R_drewN | apply Kd.R_drew)); exact HO50059.out))) (below_size (by repeat (first | (with_reducible first | exact HB.out | apply below_alloc | apply pw_below_drewN | apply below_drew1 | refine below_set ?_ GE50001.out | refine below_set ?_ GE50018.out | refine below_set ?_ GE50026.out | refine below_set ?_ GE50035.out) | exact HB.out)))); have n10_ := Aside0.mk (blk_below (g := gb50001) (o := .cells #[.int .i64 a0_0, .slice A0_1 l0_1.length c0_1, .slice A0_2 l0_2.length c0_2] 24 (0, 0)) (by (with_reducible repeat (first | refine blk_drewN ?_ _ | refine blk_drew ?_ | refine blk_alloc ?_ _)); exact BK50001.out) hb); have n11_ := Aside0.mk (blk_below (g := gb50018) (o := .cells #[.int .i64 t50010, .slice Ao25 t50011.length co25, .slice Ao26 t50014.length co26] 29 (0, 0)) (by (with_reducible repeat (first | refine blk_drewN ?_ _ | refine blk_drew ?_ | refine blk_alloc ?_ _)); exact BK50018.out) hb); have n12_ := Aside0.mk (blk_below (g := gb50026) (o := .cells #[.int .i64 t50019, .slice Ao33 t50046.length co33, .slice Ao34 t50047.length co34] 29 (0, 0)) (by (with_reducible repeat (first | refine blk_drewN ?_ _ | refine blk_drew ?_ | refine blk_alloc ?_ _)); exact BK50026.out) hb); have n13_ := Aside0.mk (blk_below (g := gb50035) (o := .cells #[.int .i64 t50027, .slice Ao41 t50028.length co41, .slice Ao42 t50031.length co42] 29 (0, 0)) (by (with_reducible repeat (first | refine blk_drewN ?_ _ | refine blk_drew ?_ | refine blk_alloc ?_ _)); exact BK50035.out) hb); have n14_ := Aside0.mk (below_step (by repeat (first | (with_reducible first | exact HB.out | apply below_alloc | apply pw_below_drewN | apply below_drew1 | refine below_set ?_ GE50001.out | refine below_set ?_ GE50018.out | refine below_set ?_ GE50026.out | refine below_set ?_ GE50035.out) | exact HB.out)) hb); clear HO_50019001; clear HO_50019002; clear HO_50027001; clear HO_50027002; clear HO_50036001; clear HO_50036002; clear HO50056; clear HO50059; clear BK50001; clear BK50018; clear BK50026; clear BK50035; clear HB; have HO_50019001 := n0_; have HO_50019002 := n1_; have HO_50027001 := n2_; have HO_50027002 := n3_; have HO_50036001 := n4_; have HO_50036002 := n5_; have HO50056 := n6_; have HO50059 := n7_; have HO50063 := n8_; have HO50066 := n9_; have BK50001 := n10_; have BK50018 := n11_; have BK50026 := n12_; have BK50035 := n13_; have HB := n14_; clear n0_ n1_ n2_ n3_ n4_ n5_ n6_ n7_ n8_ n9_ n10_ n11_ n12_ n13_ n14_; (try clear hb); (try clear hb2); (try clear hk); (try clear hi); (try clear ho0); (try clear ho1)) | ((with_reducible refine gate_dst (N := 16) rfl ?_); refine box_event ?hg (N := 16) ?hd (cs := #[.int .i64 0, .slice none 0 0, .slice none 0 0]) (t := 29) ?hr ?_; (case hd => rfl); (case hg => rfl); (case hr => first | (go_simp; done) | (go_simp; rfl)); intro gb50068 hg w125 hbox hb; have n0_ := Aside0.mk (Kd.R_below (by (with_reducible repeat (first | apply Kd.R_alloc | apply Kd.R_drewN | apply Kd.R_drew)); exact HO_50019001.out) hb); have n1_ := Aside0.mk (Kd.R_below (by (with_reducible repeat (first | apply Kd.R_alloc | apply Kd.R_drewN | apply Kd.R_drew)); exact HO_50019002.out) hb); have n2_ := Aside0.mk (Kd.R_below (by (with_reducible repeat (first | apply Kd.R_alloc | apply Kd.R_drewN | apply Kd.R_drew)); exact HO_50027001.out) hb); have n3_ := Aside0.mk (Kd.R_below (by (with_reducible repeat (first | apply Kd.R_alloc | apply Kd.R_drewN | apply Kd.R_drew)); exact HO_50027002.out) hb); have n4_ := Aside0.mk (Kd.R_below (by (with_reducible repeat (first | apply Kd.R_alloc | apply Kd.R_drewN | apply Kd.R_drew)); exact HO_50036001.out) hb); have n5_ := Aside0.mk (Kd.R_below (by (with_reducible repeat (first | apply Kd.R_alloc | apply Kd.R_drewN | apply Kd.R_drew)); exact HO_50036002.out) hb); have n6_ := Aside0.mk (Kd.R_below (by (with_reducible repeat (first | apply Kd.R_alloc | apply Kd.R_drewN | apply Kd.R_drew)); exact HO50056.out) hb); have n7_ := Aside0.mk (Kd.R_below (by (with_reducible repeat (first | apply Kd.R_alloc | apply Kd.R_drewN | apply Kd.R_drew)); exact HO50059.out) hb); have n8_ := Aside0.mk (Kd.R_below (by (with_reducible repeat (first | apply Kd.R_alloc | apply Kd.R_drewN | apply Kd.R_drew)); exact HO50063.out) hb); have n9_ := Aside0.mk (Kd.R_below (by (with_reducible repeat (first | apply Kd.R_alloc | apply Kd.R_drewN | apply Kd.R_drew)); exact HO50066.out) hb); have n10_ := Aside0.mk (blk_below (g := gb50001) (o := .cells #[.int .i64 a0_0, .slice A0_1 l0_1.length c0_1, .slice A0_2 l0_2.length c0_2] 24 (0, 0)) (by (with_reducible repeat (first | refine blk_drewN ?_ _ | refine blk_drew ?_ | refine blk_alloc ?_ _)); exact BK50001.out) hb); have n11_ := Aside0.mk (blk_below (g := gb50018) (o := .cells #[.int .i64 t50010, .slice Ao25 t50011.length co25, .slice Ao26 t50014.length co26] 29 (0, 0)) (by (with_reducible repeat (first | refine blk_drewN ?_ _ | refine blk_drew ?_ | refine blk_alloc ?_ _)); exact BK50018.out) hb); have n12_ := Aside0.mk (blk_below (g := gb50026) (o := .cells #[.int .i64 t50019, .slice Ao33 t50046.length co33, .slice Ao34 t50047.length co34] 29 (0, 0)) (by (with_reducible repeat (first | refine blk_drewN ?_ _ | refine blk_drew ?_ | refine blk_alloc ?_ _)); exact BK50026.out) hb); have n13_ := Aside0.mk (blk_below (g := gb50035) (o := .cells #[.int .i64 t50027, .slice Ao41 t50028.length co41, .slice Ao42 t50031.length co42] 29 (0, 0)) (by (with_reducible repeat (first | refine blk_drewN ?_ _ | refine blk_drew ?_ | refine blk_alloc ?_ _)); exact BK50035.out) hb); have n14_ := Aside0.mk (below_step (by repeat (first | (with_reducible first | exact HB.out | apply below_alloc | apply pw_below_drewN | apply below_drew1 | refine below_set ?_ GE50001.out | refine below_set ?_ GE50018.out | refine below_set ?_ GE50026.out | refine below_set ?_ GE50035.out) | exact HB.out)) hb); have n15_ := Aside0.mk (hbox); have n16_ := Aside0.mk ((by rw [hg]; exact (below_size (by repeat (first | (with_reducible first | exact HB.out | apply below_alloc | apply pw_below_drewN | apply below_drew1 | refine below_set ?_ GE50001.out | refine below_set ?_ GE50018.out | refine below_set ?_ GE50026.out | refine below_set ?_ GE50035.out) | exact HB.out))) : w.heap.size ≤ gb50068)); have n17_ := Aside0.mk ((by rw [hg]; exact (below_size (by repeat (first | (with_reducible first | exact HB.out | apply below_alloc | apply pw_below_drewN | apply below_drew1 | refine below_set ?_ GE50001.out | refine below_set ?_ GE50018.out | refine below_set ?_ GE50026.out | refine below_set ?_ GE50035.out) | exact HB.out))) : w.heap.size ≤ gb50068)); have n18_ := Aside0.mk ((by rw [hg]; exact Nat.ne_of_lt (blk_lt (g := gb50001) (o := .cells #[.int .i64 a0_0, .slice A0_1 l0_1.length c0_1, .slice A0_2 l0_2.length c0_2] 24 (0, 0)) (by (with_reducible repeat (first | refine blk_drewN ?_ _ | refine blk_drew ?_ | refine blk_alloc ?_ _)); exact BK50001.out)) : gb50001 ≠ gb50068)); have n19_ := Aside0.mk ((by rw [hg]; exact Nat.ne_of_gt (blk_lt (g := gb50001) (o := .cells #[.int .i64 a0_0, .slice A0_1 l0_1.length c0_1, .slice A0_2 l0_2.length c0_2] 24 (0, 0)) (by (with_reducible repeat (first | refine blk_drewN ?_ _ | refine blk_drew ?_ | refine blk_alloc ?_ _)); exact BK50001.out)) : gb50068 ≠ gb50001)); have n20_ := Aside0.mk ((by rw [hg]; exact Nat.ne_of_lt (blk_lt (g := gb50018) (o := .cells #[.int .i64 t50010, .slice Ao25 t50011.length co25, .slice Ao26 t50014.length co26] 29 (0, 0)) (by (with_reducible repeat (first | refine blk_drewN ?_ _ | refine blk_drew ?_ | refine blk_alloc ?_ _)); exact BK50018.out)) : gb50018 ≠ gb50068)); have n21_ := Aside0.mk ((by rw [hg]; exact Nat.ne_of_gt (blk_lt (g := gb50018) (o := .cells #[.int .i64 t50010, .slice Ao25 t50011.length co25, .slice Ao26 t50014.length co26] 29 (0, 0)) (by (with_reducible repeat (first | refine blk_drewN ?_ _ | refine blk_drew ?_ | refine blk_alloc ?_ _)); exact BK50018.out)) : gb50068 ≠ gb50018)); have n22_ := Aside0.mk ((by rw [hg]; exact Nat.ne_of_lt (blk_lt (g := gb50026) (o := .cells #[.int .i64 t50019, .slice Ao33 t50046.length co33, .slice Ao34 t50047.length co34] 29 (0, 0)) (by (with_reducible repeat (first | refine blk_drewN ?_ _ | refine blk_drew ?_ | refine blk_alloc ?_ _)); exact BK50026.out)) : gb50026 ≠ gb50068)); have n23_ := Aside0.mk ((by rw [hg]; exact Nat.ne_of_gt (blk_lt (g := gb50026) (o := .cells #[.int .i64 t50019, .slice Ao33 t50046.length co33, .slice Ao34 t50047.length co34] 29 (0, 0)) (by (with_reducible repeat (first | refine blk_drewN ?_ _ | refine blk_drew ?_ | refine blk_alloc ?_ _)); exact BK50026.out)) : gb50068 ≠ gb50026)); have n24_ := Aside0.mk ((by rw [hg]; exact Nat.ne_of_lt (blk_lt (g := gb50035) (o := .cells #[.int .i64 t50027, .slice Ao41 t50028.length co41, .slice Ao42 t50031.length co42] 29 (0, 0)) (by (with_reducible repeat (first | refine blk_drewN ?_ _ | refine blk_drew ?_ | refine blk_alloc ?_ _)); exact BK50035.out)) : gb50035 ≠ gb50068)); have n25_ := Aside0.mk ((by rw [hg]; exact Nat.ne_of_gt (blk_lt (g := gb50035) (o := .cells #[.int .i64 t50027, .slice Ao41 t50028.length co41, .slice Ao42 t50031.length co42] 29 (0, 0)) (by (with_reducible repeat (first | refine blk_drewN ?_ _ | refine blk_drew ?_ | refine blk_alloc ?_ _)); exact BK50035.out)) : gb50068 ≠ gb50035)); clear HO_50019001; clear HO_50019002; clear HO_50027001; clear HO_50027002; clear HO_50036001; clear HO_50036002; clear HO50056; clear HO50059; clear HO50063; clear HO50066; clear BK50001; clear BK50018; clear BK50026; clear BK50035; clear HB; have HO_50019001 := n0_; have HO_50019002 := n1_; have HO_50027001 := n2_; have HO_50027002 := n3_; have HO_50036001 := n4_; have HO_50036002 := n5_; have HO50056 := n6_; have HO50059 := n7_; have HO50063 := n8_; have HO50066 := n9_; have BK50001 := n10_; have BK50018 := n11_; have BK50026 := n12_; have BK50035 := n13_; have HB := n14_; have BK50068 := n15_; have GW50068 := n16_; have GE50068 := n17_; have NB50001_50068 := n18_; have NB50068_50001 := n19_; have NB50018_50068 := n20_; have NB50068_50018 := n21_; have NB50026_50068 := n22_; have NB50068_50026 := n23_; have NB50035_50068 := n24_; have NB50068_50035 := n25_; clear n0_ n1_ n2_ n3_ n4_ n5_ n6_ n7_ n8_ n9_ n10_ n11_ n12_ n13_ n14_ n15_ n16_ n17_ n18_ n19_ n20_ n21_ n22_ n23_ n24_ n25_; clear hb hbox hg; have hnb126 := NB50068_50001.out; have hnc126 := NB50001_50068.out; have hnb127 := NB50068_50018.out; have hnc127 := NB50018_50068.out; have hnb128 := NB50068_50026.out; have hnc128 := NB50026_50068.out; have hnb129 := NB50068_50035.out; have hnc129 := NB50035_50068.out; have hcz130_0 : w125.cell? ⟨gb50068, 0, none⟩ = some (.int .i64 0) := (blk_cell BK50068.out 0).trans rfl; have hcz130_1 : w125.cell? ⟨gb50068, 1, none⟩ = some (.slice none 0 0) := (blk_cell BK50068.out 1).trans rfl; have hcz130_2 : w125.cell? ⟨gb50068, 2, none⟩ = some (.slice none 0 0) := (blk_cell BK50068.out 2).trans rfl; have hfz130_0 := blk_frozen BK50068.out 0; have hfz130_1 := blk_frozen BK50068.out 1; have hfz130_2 := blk_frozen BK50068.out 2; obtain ⟨Ao131, co131, eo131⟩ := Kd.R_slice HO50063.out; subst eo131; obtain ⟨Ao132, co132, eo132⟩ := Kd.R_slice HO50066.out; subst eo132))
           (try simp only [Act.put, List.setIfInBounds_toArray, List.set_cons_zero, List.set_cons_succ])
           go_cut [97] (fun v97 wc => ∃ (kq : Nat) (x97_109 : Bool), v97 = .bool x97_109 ∧ Aside0 (laws_FnExactLockFirm.j2 kq t50049 x97_109 t50027 t50050 t50051 = some true) ∧ Aside0 (kq ≤ kj65) ∧ Aside0 (Kd.R k45 45 wc w.heap.size (fun k_ => some k_ ≠ ((.slice Ao26 t50014.length co26) : Value).ownBlock ∧ some k_ ≠ ((.slice Ao33 t50046.length co33) : Value).ownBlock ∧ some k_ ≠ ((.slice Ao34 t50047.length co34) : Value).ownBlock ∧ some k_ ≠ ((.slice Ao41 t50028.length co41) : Value).ownBlock ∧ some k_ ≠ ((.slice Ao42 t50031.length co42) : Value).ownBlock ∧ some k_ ≠ ((.slice Ao131 t50061.length co131) : Value).ownBlock ∧ some k_ ≠ ((.slice Ao132 t50064.length co132) : Value).ownBlock) (.slice Ao25 t50011.length co25) t50011) ∧ Aside0 (Kd.R k45 45 wc w.heap.size (fun k_ => some k_ ≠ ((.slice Ao25 t50011.length co25) : Value).ownBlock ∧ some k_ ≠ ((.slice Ao33 t50046.length co33) : Value).ownBlock ∧ some k_ ≠ ((.slice Ao34 t50047.length co34) : Value).ownBlock ∧ some k_ ≠ ((.slice Ao41 t50028.length co41) : Value).ownBlock ∧ some k_ ≠ ((.slice Ao42 t50031.length co42) : Value).ownBlock ∧ some k_ ≠ ((.slice Ao131 t50061.length co131) : Value).ownBlock ∧ some k_ ≠ ((.slice Ao132 t50064.length co132) : Value).ownBlock) (.slice Ao26 t50014.length co26) t50014) ∧ Aside0 (Kd.R k45 45 wc w.heap.size (fun k_ => some k_ ≠ ((.slice Ao25 t50011.length co25) : Value).ownBlock ∧ some k_ ≠ ((.slice Ao26 t50014.length co26) : Value).ownBlock ∧ some k_ ≠ ((.slice Ao34 t50047.length co34) : Value).ownBlock ∧ some k_ ≠ ((.slice Ao41 t50028.length co41) : Value).ownBlock ∧ some k_ ≠ ((.slice Ao42 t50031.length co42) : Value).ownBlock ∧ some k_ ≠ ((.slice Ao131 t50061.length co131) : Value).ownBlock ∧ some k_ ≠ ((.slice Ao132 t50064.length co132) : Value).ownBlock) (.slice Ao33 t50046.length co33) t50046) ∧ Aside0 (Kd.R k45 45 wc w.heap.size (fun k_ => some k_ ≠ ((.slice Ao25 t50011.length co25) : Value).ownBlock ∧ some k_ ≠ ((.slice Ao26 t50014.length co26) : Value).ownBlock ∧ some k_ ≠ ((.slice Ao33 t50046.length co33) : Value).ownBlock ∧ some k_ ≠ ((.slice Ao41 t50028.length co41) : Value).ownBlock ∧ some k_ ≠ ((.slice Ao42 t50031.length co42) : Value).ownBlock ∧ some k_ ≠ ((.slice Ao131 t50061.length co131) : Value).ownBlock ∧ some k_ ≠ ((.slice Ao132 t50064.length co132) : Value).ownBlock) (.slice Ao34 t50047.length co34) t50047) ∧ Aside0 (Kd.R k45 45 wc w.heap.size (fun k_ => some k_ ≠ ((.slice Ao25 t50011.length co25) : Value).ownBlock ∧ some k_ ≠ ((.slice Ao26 t50014.length co26) : Value).ownBlock ∧ some k_ ≠ ((.slice Ao33 t50046.length co33) : Value).ownBlock ∧ some k_ ≠ ((.slice Ao34 t50047.length co34) : Value).ownBlock ∧ some k_ ≠ ((.slice Ao42 t50031.length co42) : Value).ownBlock ∧ some k_ ≠ ((.slice Ao131 t50061.length co131) : Value).ownBlock ∧ some k_ ≠ ((.slice Ao132 t50064.length co132) : Value).ownBlock) (.slice Ao41 t50028.length co41) t50050) ∧ Aside0 (Kd.R k45 45 wc w.heap.size (fun k_ => some k_ ≠ ((.slice Ao25 t50011.length co25) : Value).ownBlock ∧ some k_ ≠ ((.slice Ao26 t50014.length co26) : Value).ownBlock ∧ some k_ ≠ ((.slice Ao33 t50046.length co33) : Value).ownBlock ∧ some k_ ≠ ((.slice Ao34 t50047.length co34) : Value).ownBlock ∧ some k_ ≠ ((.slice Ao41 t50028.length co41) : Value).ownBlock ∧ some k_ ≠ ((.slice Ao131 t50061.length co131) : Value).ownBlock ∧ some k_ ≠ ((.slice Ao132 t50064.length co132) : Value).ownBlock) (.slice Ao42 t50031.length co42) t50051) ∧ Aside0 (Kd.R k45 45 wc w.heap.size (fun k_ => some k_ ≠ ((.slice Ao25 t50011.length co25) : Value).ownBlock ∧ some k_ ≠ ((.slice Ao26 t50014.length co26) : Value).ownBlock ∧ some k_ ≠ ((.slice Ao33 t50046.length co33) : Value).ownBlock ∧ some k_ ≠ ((.slice Ao34 t50047.length co34) : Value).ownBlock ∧ some k_ ≠ ((.slice Ao41 t50028.length co41) : Value).ownBlock ∧ some k_ ≠ ((.slice Ao42 t50031.length co42) : Value).ownBlock ∧ some k_ ≠ ((.slice Ao132 t50064.length co132) : Value).ownBlock) (.slice Ao131 t50061.length co131) t50061) ∧ Aside0 (Kd.R k45 45 wc w.heap.size (fun k_ => some k_ ≠ ((.slice Ao25 t50011.length co25) : Value).ownBlock ∧ some k_ ≠ ((.slice Ao26 t50014.length co26) : Value).ownBlock ∧ some k_ ≠ ((.slice Ao33 t50046.length co33) : Value).ownBlock ∧ some k_ ≠ ((.slice Ao34 t50047.length co34) : Value).ownBlock ∧ some k_ ≠ ((.slice Ao41 t50028.length co41) : Value).ownBlock ∧ some k_ ≠ ((.slice Ao42 t50031.length co42) : Value).ownBlock ∧ some k_ ≠ ((.slice Ao131 t50061.length co131) : Value).ownBlock) (.slice Ao132 t50064.length co132) t50064) ∧ Aside0 (wc.heap[gb50001]? = some (.cells #[.int .i64 a0_0, (.slice A0_1 l0_1.length c0_1), (.slice A0_2 l0_2.length c0_2)] 24 (0, 0))) ∧ Aside0 (wc.heap[gb50018]? = some (.cells #[.int .i64 t50010, (.slice Ao25 t50011.length co25), (.slice Ao26 t50014.length co26)] 29 (0, 0))) ∧ Aside0 (wc.heap[gb50026]? = some (.cells #[.int .i64 t50019, (.slice Ao33 t50046.length co33), (.slice Ao34 t50047.length co34)] 29 (0, 0))) ∧ Aside0 (wc.heap[gb50035]? = some (.cells #[.int .i64 t50027, (.slice Ao41 t50028.length co41), (.slice Ao42 t50031.length co42)] 29 (0, 0))) ∧ Aside0 (wc.heap[gb50068]? = some (.cells #[.int .i64 t50060, (.slice Ao131 t50061.length co131), (.slice Ao132 t50064.length co132)] 29 (0, 0))) ∧ Aside0 (Below w.heap.size w wc))
           case first =>
            have H := HC110.out
            clear HC110
            replace H := Option.bind_eq_some_iff.mp H
            obtain ⟨t50069, A1330, H⟩ := H
            replace H : (if t50069 = true then (laws_FnExactLockFirm.j2 kj65 t50049 (t50067 != t50017) t50027 t50050 t50051) else (laws_FnExactLockFirm.j2 kj65 t50049 true t50027 t50050 t50051)) = some true := H
            have A133 := Aside0.mk A1330
            clear A1330
            by_cases c134 : t50069 = true
            ·subst c134
             have H1 : (laws_FnExactLockFirm.j2 kj65 t50049 (t50067 != t50017) t50027 t50050 t50051) = some true := by rw [if_pos rfl] at H; exact H
             clear H
             have H := H1
             clear H1
             have H' := Aside0.mk H
             clear H
             have hnb135 := NB50068_50001.out
             have hnc135 := NB50001_50068.out
             have hnb136 := NB50068_50018.out
             have hnc136 := NB50018_50068.out
             have hnb137 := NB50068_50026.out
             have hnc137 := NB50026_50068.out
             have hnb138 := NB50068_50035.out
             have hnc138 := NB50035_50068.out
             have hcz139_0 : w125.cell? ⟨gb50068, 0, none⟩ = some (.int .i64 0) := (blk_cell BK50068.out 0).trans rfl
             have hcz139_1 : w125.cell? ⟨gb50068, 1, none⟩ = some (.slice none 0 0) := (blk_cell BK50068.out 1).trans rfl
             have hcz139_2 : w125.cell? ⟨gb50068, 2, none⟩ = some (.slice none 0 0) := (blk_cell BK50068.out 2).trans rfl
             have hfz139_0 := blk_frozen BK50068.out 0
             have hfz139_1 := blk_frozen BK50068.out 1
             have hfz139_2 := blk_frozen BK50068.out 2
             have hnb140 := NB50018_50001.out
             have hnc140 := NB50001_50018.out
             have hnb141 := NB50018_50026.out
             have hnc141 := NB50026_50018.out
             have hnb142 := NB50018_50035.out
             have hnc142 := NB50035_50018.out
             have hcz143_0 : w125.cell? ⟨gb50018, 0, none⟩ = some (.int .i64 t50010) := (blk_cell BK50018.out 0).trans rfl
             have hcz143_1 : w125.cell? ⟨gb50018, 1, none⟩ = some (.slice Ao25 t50011.length co25) := (blk_cell BK50018.out 1).trans rfl
             have hcz143_2 : w125.cell? ⟨gb50018, 2, none⟩ = some (.slice Ao26 t50014.length co26) := (blk_cell BK50018.out 2).trans rfl
             have hfz143_0 := blk_frozen BK50018.out 0
             have hfz143_1 := blk_frozen BK50018.out 1
             have hfz143_2 := blk_frozen BK50018.out 2
             go_wp2_with (first | ((with_reducible refine gate_callee (f := 19) rfl ?_); refine goesL_ (some 91) rfl rfl Try.func19 (by kernel_rfl) rfl #[.agg #[.int .i64 t50060, .slice Ao131 t50061.length co131, .slice Ao132 t50064.length co132], .agg #[.int .i64 t50010, .slice Ao25 t50011.length co25, .slice Ao26 t50014.length co26]] rfl (by (try simp only [List.map_toArray, List.map_cons, List.map_nil]); first | done | rfl | (simp only [List.length_drop, List.length_take]; rfl)) ?_; (with_reducible refine (laws_eqLock.calls kj65 t50060 _ _ t50061 _ _ t50064 t50010 _ _ t50011 _ _ t50014 true _ ?side1 ?side2 ?side3 ?side4 ?side5 ?side6 ?side7 ?side8 A133.out).mono ?_); (case side1 => refine (Kd.R_reads' (e := 45) (base := w.heap.size) (ok := fun k_ => ((((((((some k_ ≠ (.slice Ao132 t50064.length co132 : Value).ownBlock ∧ some k_ ≠ (.slice Ao25 t50011.length co25 : Value).ownBlock) ∧ some k_ ≠ (.slice Ao26 t50014.length co26 : Value).ownBlock) ∧ some k_ ≠ (.slice Ao33 t50046.length co33 : Value).ownBlock) ∧ some k_ ≠ (.slice Ao34 t50047.length co34 : Value).ownBlock) ∧ some k_ ≠ (.slice Ao41 t50028.length co41 : Value).ownBlock) ∧ some k_ ≠ (.slice Ao42 t50031.length co42 : Value).ownBlock) ∧ some k_ ≠ (.slice Ao122 t50054.length co122 : Value).ownBlock) ∧ some k_ ≠ (.slice Ao123 t50057.length co123 : Value).ownBlock)) (n := t50061.length) (c := co131) ?_).2.2; exact (by (with_reducible repeat (first | apply Kd.R_alloc | apply Kd.R_drewN | apply Kd.R_drew)); exact (Kd.R_mono (Kd.R_far (p := ⟨gb50068, 2, none⟩) (Kd.R_far (p := ⟨gb50068, 1, none⟩) (Kd.R_far (p := ⟨gb50068, 0, none⟩) (Kd.R_types HO50063.out BK50068.out (by decide)) (fun _ hk => hk.2) (.int .i64 t50060)) (fun _ hk => hk.2) (.slice Ao131 t50061.length co131)) (fun _ hk => hk.2) (.slice Ao132 t50064.length co132)) (fun _ h_ => h_.1)))); (case side2 => exact (Kd.R_reads' HO50063.out).2.1); (case side3 => refine (Kd.R_reads' (e := 45) (base := w.heap.size) (ok := fun k_ => ((((((((some k_ ≠ (.slice Ao131 t50061.length co131 : Value).ownBlock ∧ some k_ ≠ (.slice Ao25 t50011.length co25 : Value).ownBlock) ∧ some k_ ≠ (.slice Ao26 t50014.length co26 : Value).ownBlock) ∧ some k_ ≠ (.slice Ao33 t50046.length co33 : Value).ownBlock) ∧ some k_ ≠ (.slice Ao34 t50047.length co34 : Value).ownBlock) ∧ some k_ ≠ (.slice Ao41 t50028.length co41 : Value).ownBlock) ∧ some k_ ≠ (.slice Ao42 t50031.length co42 : Value).ownBlock) ∧ some k_ ≠ (.slice Ao122 t50054.length co122 : Value).ownBlock) ∧ some k_ ≠ (.slice Ao123 t50057.length co123 : Value).ownBlock)) (n := t50064.length) (c := co132) ?_).2.2; exact (by (with_reducible repeat (first | apply Kd.R_alloc | apply Kd.R_drewN | apply Kd.R_drew)); exact (Kd.R_mono (Kd.R_far (p := ⟨gb50068, 2, none⟩) (Kd.R_far (p := ⟨gb50068, 1, none⟩) (Kd.R_far (p := ⟨gb50068, 0, none⟩) (Kd.R_types HO50066.out BK50068.out (by decide)) (fun _ hk => hk.2) (.int .i64 t50060)) (fun _ hk => hk.2) (.slice Ao131 t50061.length co131)) (fun _ hk => hk.2) (.slice Ao132 t50064.length co132)) (fun _ h_ => h_.1)))); (case side4 => exact (Kd.R_reads' HO50066.out).2.1); (case side5 => refine (Kd.R_reads' (e := 45) (base := w.heap.size) (ok := fun k_ => (((((some k_ ≠ (.slice Ao26 t50014.length co26 : Value).ownBlock ∧ (some k_ ≠ (.slice Ao33 t50046.length co33 : Value).ownBlock ∧ (some k_ ≠ (.slice Ao34 t50047.length co34 : Value).ownBlock ∧ (some k_ ≠ (.slice Ao41 t50028.length co41 : Value).ownBlock ∧ some k_ ≠ (.slice Ao42 t50031.length co42 : Value).ownBlock)))) ∧ some k_ ≠ (.slice Ao122 t50054.length co122 : Value).ownBlock) ∧ some k_ ≠ (.slice Ao123 t50057.length co123 : Value).ownBlock) ∧ some k_ ≠ (.slice Ao131 t50061.length co131 : Value).ownBlock) ∧ some k_ ≠ (.slice Ao132 t50064.length co132 : Value).ownBlock)) (n := t50011.length) (c := co25) ?_).2.2; exact (by (with_reducible repeat (first | apply Kd.R_alloc | apply Kd.R_drewN | apply Kd.R_drew)); exact (Kd.R_mono (Kd.R_far (p := ⟨gb50068, 2, none⟩) (Kd.R_far (p := ⟨gb50068, 1, none⟩) (Kd.R_far (p := ⟨gb50068, 0, none⟩) (Kd.R_types HO_50019001.out BK50068.out (by decide)) (fun _ hk => hk.2) (.int .i64 t50060)) (fun _ hk => hk.2) (.slice Ao131 t50061.length co131)) (fun _ hk => hk.2) (.slice Ao132 t50064.length co132)) (fun _ h_ => h_.1)))); (case side6 => exact (Kd.R_reads' HO_50019001.out).2.1); (case side7 => refine (Kd.R_reads' (e := 45) (base := w.heap.size) (ok := fun k_ => (((((some k_ ≠ (.slice Ao25 t50011.length co25 : Value).ownBlock ∧ (some k_ ≠ (.slice Ao33 t50046.length co33 : Value).ownBlock ∧ (some k_ ≠ (.slice Ao34 t50047.length co34 : Value).ownBlock ∧ (some k_ ≠ (.slice Ao41 t50028.length co41 : Value).ownBlock ∧ some k_ ≠ (.slice Ao42 t50031.length co42 : Value).ownBlock)))) ∧ some k_ ≠ (.slice Ao122 t50054.length co122 : Value).ownBlock) ∧ some k_ ≠ (.slice Ao123 t50057.length co123 : Value).ownBlock) ∧ some k_ ≠ (.slice Ao131 t50061.length co131 : Value).ownBlock) ∧ some k_ ≠ (.slice Ao132 t50064.length co132 : Value).ownBlock)) (n := t50014.length) (c := co26) ?_).2.2; exact (by (with_reducible repeat (first | apply Kd.R_alloc | apply Kd.R_drewN | apply Kd.R_drew)); exact (Kd.R_mono (Kd.R_far (p := ⟨gb50068, 2, none⟩) (Kd.R_far (p := ⟨gb50068, 1, none⟩) (Kd.R_far (p := ⟨gb50068, 0, none⟩) (Kd.R_types HO_50019002.out BK50068.out (by decide)) (fun _ hk => hk.2) (.int .i64 t50060)) (fun _ hk => hk.2) (.slice Ao131 t50061.length co131)) (fun _ hk => hk.2) (.slice Ao132 t50064.length co132)) (fun _ h_ => h_.1)))); (case side8 => exact (Kd.R_reads' HO_50019002.out).2.1); rintro e w144 ⟨rfl, hb⟩; refine ⟨_, rfl, ?_⟩; have n0_ := Aside0.mk (Kd.R_below (by (with_reducible repeat (first | apply Kd.R_alloc | apply Kd.R_drewN | apply Kd.R_drew)); exact (Kd.R_mono (Kd.R_far (p := ⟨gb50068, 2, none⟩) (Kd.R_far (p := ⟨gb50068, 1, none⟩) (Kd.R_far (p := ⟨gb50068, 0, none⟩) (Kd.R_types HO_50019001.out BK50068.out (by decide)) (fun _ hk => hk.2) (.int .i64 t50060)) (fun _ hk => hk.2) (.slice Ao131 t50061.length co131)) (fun _ hk => hk.2) (.slice Ao132 t50064.length co132)) (fun _ h_ => h_.1))) hb); have n1_ := Aside0.mk (Kd.R_below (by (with_reducible repeat (first | apply Kd.R_alloc | apply Kd.R_drewN | apply Kd.R_drew)); exact (Kd.R_mono (Kd.R_far (p := ⟨gb50068, 2, none⟩) (Kd.R_far (p := ⟨gb50068, 1, none⟩) (Kd.R_far (p := ⟨gb50068, 0, none⟩) (Kd.R_types HO_50019002.out BK50068.out (by decide)) (fun _ hk => hk.2) (.int .i64 t50060)) (fun _ hk => hk.2) (.slice Ao131 t50061.length co131)) (fun _ hk => hk.2) (.slice Ao132 t50064.length co132)) (fun _ h_ => h_.1))) hb); have n2_ := Aside0.mk (Kd.R_below (by (with_reducible repeat (first | apply Kd.R_alloc | apply Kd.R_drewN | apply Kd.R_drew)); exact (Kd.R_mono (Kd.R_far (p := ⟨gb50068, 2, none⟩) (Kd.R_far (p := ⟨gb50068, 1, none⟩) (Kd.R_far (p := ⟨gb50068, 0, none⟩) (Kd.R_types HO_50027001.out BK50068.out (by decide)) (fun _ hk => hk.2) (.int .i64 t50060)) (fun _ hk => hk.2) (.slice Ao131 t50061.length co131)) (fun _ hk => hk.2) (.slice Ao132 t50064.length co132)) (fun _ h_ => h_.1))) hb); have n3_ := Aside0.mk (Kd.R_below (by (with_reducible repeat (first | apply Kd.R_alloc | apply Kd.R_drewN | apply Kd.R_drew)); exact (Kd.R_mono (Kd.R_far (p := ⟨gb50068, 2, none⟩) (Kd.R_far (p := ⟨gb50068, 1, none⟩) (Kd.R_far (p := ⟨gb50068, 0, none⟩) (Kd.R_types HO_50027002.out BK50068.out (by decide)) (fun _ hk => hk.2) (.int .i64 t50060)) (fun _ hk => hk.2) (.slice Ao131 t50061.length co131)) (fun _ hk => hk.2) (.slice Ao132 t50064.length co132)) (fun _ h_ => h_.1))) hb); have n4_ := Aside0.mk (Kd.R_below (by (with_reducible repeat (first | apply Kd.R_alloc | apply Kd.R_drewN | apply Kd.R_drew)); exact (Kd.R_mono (Kd.R_far (p := ⟨gb50068, 2, none⟩) (Kd.R_far (p := ⟨gb50068, 1, none⟩) (Kd.R_far (p := ⟨gb50068, 0, none⟩) (Kd.R_types HO_50036001.out BK50068.out (by decide)) (fun _ hk => hk.2) (.int .i64 t50060)) (fun _ hk => hk.2) (.slice Ao131 t50061.length co131)) (fun _ hk => hk.2) (.slice Ao132 t50064.length co132)) (fun _ h_ => h_.1))) hb); have n5_ := Aside0.mk (Kd.R_below (by (with_reducible repeat (first | apply Kd.R_alloc | apply Kd.R_drewN | apply Kd.R_drew)); exact (Kd.R_mono (Kd.R_far (p := ⟨gb50068, 2, none⟩) (Kd.R_far (p := ⟨gb50068, 1, none⟩) (Kd.R_far (p := ⟨gb50068, 0, none⟩) (Kd.R_types HO_50036002.out BK50068.out (by decide)) (fun _ hk => hk.2) (.int .i64 t50060)) (fun _ hk => hk.2) (.slice Ao131 t50061.length co131)) (fun _ hk => hk.2) (.slice Ao132 t50064.length co132)) (fun _ h_ => h_.1))) hb); have n6_ := Aside0.mk (Kd.R_below (by (with_reducible repeat (first | apply Kd.R_alloc | apply Kd.R_drewN | apply Kd.R_drew)); exact (Kd.R_mono (Kd.R_far (p := ⟨gb50068, 2, none⟩) (Kd.R_far (p := ⟨gb50068, 1, none⟩) (Kd.R_far (p := ⟨gb50068, 0, none⟩) (Kd.R_types HO50056.out BK50068.out (by decide)) (fun _ hk => hk.2) (.int .i64 t50060)) (fun _ hk => hk.2) (.slice Ao131 t50061.length co131)) (fun _ hk => hk.2) (.slice Ao132 t50064.length co132)) (fun _ h_ => h_.1))) hb); have n7_ := Aside0.mk (Kd.R_below (by (with_reducible repeat (first | apply Kd.R_alloc | apply Kd.R_drewN | apply Kd.R_drew)); exact (Kd.R_mono (Kd.R_far (p := ⟨gb50068, 2, none⟩) (Kd.R_far (p := ⟨gb50068, 1, none⟩) (Kd.R_far (p := ⟨gb50068, 0, none⟩) (Kd.R_types HO50059.out BK50068.out (by decide)) (fun _ hk => hk.2) (.int .i64 t50060)) (fun _ hk => hk.2) (.slice Ao131 t50061.length co131)) (fun _ hk => hk.2) (.slice Ao132 t50064.length co132)) (fun _ h_ => h_.1))) hb); have n8_ := Aside0.mk (Kd.R_below (by (with_reducible repeat (first | apply Kd.R_alloc | apply Kd.R_drewN | apply Kd.R_drew)); exact (Kd.R_mono (Kd.R_far (p := ⟨gb50068, 2, none⟩) (Kd.R_far (p := ⟨gb50068, 1, none⟩) (Kd.R_far (p := ⟨gb50068, 0, none⟩) (Kd.R_types HO50063.out BK50068.out (by decide)) (fun _ hk => hk.2) (.int .i64 t50060)) (fun _ hk => hk.2) (.slice Ao131 t50061.length co131)) (fun _ hk => hk.2) (.slice Ao132 t50064.length co132)) (fun _ h_ => h_.1))) hb); have n9_ := Aside0.mk (Kd.R_below (by (with_reducible repeat (first | apply Kd.R_alloc | apply Kd.R_drewN | apply Kd.R_drew)); exact (Kd.R_mono (Kd.R_far (p := ⟨gb50068, 2, none⟩) (Kd.R_far (p := ⟨gb50068, 1, none⟩) (Kd.R_far (p := ⟨gb50068, 0, none⟩) (Kd.R_types HO50066.out BK50068.out (by decide)) (fun _ hk => hk.2) (.int .i64 t50060)) (fun _ hk => hk.2) (.slice Ao131 t50061.length co131)) (fun _ hk => hk.2) (.slice Ao132 t50064.length co132)) (fun _ h_ => h_.1))) hb); have n10_ := Aside0.mk (blk_below (g := gb50001) (o := .cells #[.int .i64 a0_0, .slice A0_1 l0_1.length c0_1, .slice A0_2 l0_2.length c0_2] 24 (0, 0)) (by (with_reducible repeat (first | refine blk_drewN ?_ _ | refine blk_drew ?_ | refine blk_alloc ?_ _)); refine blk_far ?_ NB50001_50068.out _; (with_reducible repeat (first | refine blk_drewN ?_ _ | refine blk_drew ?_ | refine blk_alloc ?_ _)); refine blk_far ?_ NB50001_50068.out _; (with_reducible repeat (first | refine blk_drewN ?_ _ | refine blk_drew ?_ | refine blk_alloc ?_ _)); refine blk_far ?_ NB50001_50068.out _; (with_reducible repeat (first | refine blk_drewN ?_ _ | refine blk_drew ?_ | refine blk_alloc ?_ _)); exact BK50001.out) hb); have n11_ := Aside0.mk (blk_below (g := gb50018) (o := .cells #[.int .i64 t50010, .slice Ao25 t50011.length co25, .slice Ao26 t50014.length co26] 29 (0, 0)) (by (with_reducible repeat (first | refine blk_drewN ?_ _ | refine blk_drew ?_ | refine blk_alloc ?_ _)); refine blk_far ?_ NB50018_50068.out _; (with_reducible repeat (first | refine blk_drewN ?_ _ | refine blk_drew ?_ | refine blk_alloc ?_ _)); refine blk_far ?_ NB50018_50068.out _; (with_reducible repeat (first | refine blk_drewN ?_ _ | refine blk_drew ?_ | refine blk_alloc ?_ _)); refine blk_far ?_ NB50018_50068.out _; (with_reducible repeat (first | refine blk_drewN ?_ _ | refine blk_drew ?_ | refine blk_alloc ?_ _)); exact BK50018.out) hb); have n12_ := Aside0.mk (blk_below (g := gb50026) (o := .cells #[.int .i64 t50019, .slice Ao33 t50046.length co33, .slice Ao34 t50047.length co34] 29 (0, 0)) (by (with_reducible repeat (first | refine blk_drewN ?_ _ | refine blk_drew ?_ | refine blk_alloc ?_ _)); refine blk_far ?_ NB50026_50068.out _; (with_reducible repeat (first | refine blk_drewN ?_ _ | refine blk_drew ?_ | refine blk_alloc ?_ _)); refine blk_far ?_ NB50026_50068.out _; (with_reducible repeat (first | refine blk_drewN ?_ _ | refine blk_drew ?_ | refine blk_alloc ?_ _)); refine blk_far ?_ NB50026_50068.out _; (with_reducible repeat (first | refine blk_drewN ?_ _ | refine blk_drew ?_ | refine blk_alloc ?_ _)); exact BK50026.out) hb); have n13_ := Aside0.mk (blk_below (g := gb50035) (o := .cells #[.int .i64 t50027, .slice Ao41 t50028.length co41, .slice Ao42 t50031.length co42] 29 (0, 0)) (by (with_reducible repeat (first | refine blk_drewN ?_ _ | refine blk_drew ?_ | refine blk_alloc ?_ _)); refine blk_far ?_ NB50035_50068.out _; (with_reducible repeat (first | refine blk_drewN ?_ _ | refine blk_drew ?_ | refine blk_alloc ?_ _)); refine blk_far ?_ NB50035_50068.out _; (with_reducible repeat (first | refine blk_drewN ?_ _ | refine blk_drew ?_ | refine blk_alloc ?_ _)); refine blk_far ?_ NB50035_50068.out _; (with_reducible repeat (first | refine blk_drewN ?_ _ | refine blk_drew ?_ | refine blk_alloc ?_ _)); exact BK50035.out) hb); have n14_ := Aside0.mk (blk_below (g := gb50068) (o := .cells #[.int .i64 t50060, .slice Ao131 t50061.length co131, .slice Ao132 t50064.length co132] 29 (0, 0)) (by (with_reducible repeat (first | refine blk_drewN ?_ _ | refine blk_drew ?_ | refine blk_alloc ?_ _)); refine blk_put (cs := #[.int .i64 t50060, .slice Ao131 t50061.length co131, .slice none 0 0]) ?_ 2 _ rfl; (with_reducible repeat (first | refine blk_drewN ?_ _ | refine blk_drew ?_ | refine blk_alloc ?_ _)); refine blk_put (cs := #[.int .i64 t50060, .slice none 0 0, .slice none 0 0]) ?_ 1 _ rfl; (with_reducible repeat (first | refine blk_drewN ?_ _ | refine blk_drew ?_ | refine blk_alloc ?_ _)); refine blk_put (cs := #[.int .i64 0, .slice none 0 0, .slice none 0 0]) ?_ 0 _ rfl; (with_reducible repeat (first | refine blk_drewN ?_ _ | refine blk_drew ?_ | refine blk_alloc ?_ _)); exact BK50068.out) hb); have n15_ := Aside0.mk (below_step (by repeat (first | (with_reducible first | exact HB.out | apply below_alloc | apply pw_below_drewN | apply below_drew1 | refine below_set ?_ GE50001.out | refine below_set ?_ GE50018.out | refine below_set ?_ GE50026.out | refine below_set ?_ GE50035.out | refine below_set ?_ GE50068.out) | exact HB.out)) hb); clear HO_50019001; clear HO_50019002; clear HO_50027001; clear HO_50027002; clear HO_50036001; clear HO_50036002; clear HO50056; clear HO50059; clear HO50063; clear HO50066; clear BK50001; clear BK50018; clear BK50026; clear BK50035; clear BK50068; clear HB; have HO_50019001 := n0_; have HO_50019002 := n1_; have HO_50027001 := n2_; have HO_50027002 := n3_; have HO_50036001 := n4_; have HO_50036002 := n5_; have HO50056 := n6_; have HO50059 := n7_; have HO50063 := n8_; have HO50066 := n9_; have BK50001 := n10_; have BK50018 := n11_; have BK50026 := n12_; have BK50035 := n13_; have BK50068 := n14_; have HB := n15_; clear n0_ n1_ n2_ n3_ n4_ n5_ n6_ n7_ n8_ n9_ n10_ n11_ n12_ n13_ n14_ n15_; (try clear hb); (try clear hb2); (try clear hk); (try clear hi)))
             go_meet
             case rel => exact ⟨_, ((t50067 != t50017)), (by first | rfl | (simp; done) | (simp [*]; done)), H', ⟨by have := HJ12.out; have := HJ65.out; first | omega | exact Nat.le_refl _⟩, ⟨by (try simp only [hl50027001_65]); (try simp only [hl50027002_65]); (with_reducible repeat (first | apply Kd.R_alloc | apply Kd.R_drewN | apply Kd.R_drew)); exact Kd.R_mono HO_50019001.out (fun _ hk => ⟨hk.1.1.1.1.1, ⟨hk.1.1.1.1.2.1, ⟨hk.1.1.1.1.2.2.1, ⟨hk.1.1.1.1.2.2.2.1, ⟨hk.1.1.1.1.2.2.2.2, ⟨hk.1.2, hk.2⟩⟩⟩⟩⟩⟩)⟩, ⟨by (try simp only [hl50027001_65]); (try simp only [hl50027002_65]); (with_reducible repeat (first | apply Kd.R_alloc | apply Kd.R_drewN | apply Kd.R_drew)); exact Kd.R_mono HO_50019002.out (fun _ hk => ⟨hk.1.1.1.1.1, ⟨hk.1.1.1.1.2.1, ⟨hk.1.1.1.1.2.2.1, ⟨hk.1.1.1.1.2.2.2.1, ⟨hk.1.1.1.1.2.2.2.2, ⟨hk.1.2, hk.2⟩⟩⟩⟩⟩⟩)⟩, ⟨by (try simp only [hl50027001_65]); (try simp only [hl50027002_65]); (with_reducible repeat (first | apply Kd.R_alloc | apply Kd.R_drewN | apply Kd.R_drew)); exact Kd.R_mono HO_50027001.out (fun _ hk => ⟨hk.1.1.1.1.1, ⟨hk.1.1.1.1.2.1, ⟨hk.1.1.1.1.2.2.1, ⟨hk.1.1.1.1.2.2.2.1, ⟨hk.1.1.1.1.2.2.2.2, ⟨hk.1.2, hk.2⟩⟩⟩⟩⟩⟩)⟩, ⟨by (try simp only [hl50027001_65]); (try simp only [hl50027002_65]); (with_reducible repeat (first | apply Kd.R_alloc | apply Kd.R_drewN | apply Kd.R_drew)); exact Kd.R_mono HO_50027002.out (fun _ hk => ⟨hk.1.1.1.1.1, ⟨hk.1.1.1.1.2.1, ⟨hk.1.1.1.1.2.2.1, ⟨hk.1.1.1.1.2.2.2.1, ⟨hk.1.1.1.1.2.2.2.2, ⟨hk.1.2, hk.2⟩⟩⟩⟩⟩⟩)⟩, ⟨by (try simp only [hl50027001_65]); (try simp only [hl50027002_65]); (with_reducible repeat (first | apply Kd.R_alloc | apply Kd.R_drewN | apply Kd.R_drew)); exact Kd.R_mono HO_50036001.out (fun _ hk => ⟨hk.1.1.1.1.1, ⟨hk.1.1.1.1.2.1, ⟨hk.1.1.1.1.2.2.1, ⟨hk.1.1.1.1.2.2.2.1, ⟨hk.1.1.1.1.2.2.2.2, ⟨hk.1.2, hk.2⟩⟩⟩⟩⟩⟩)⟩, ⟨by (try simp only [hl50027001_65]); (try simp only [hl50027002_65]); (with_reducible repeat (first | apply Kd.R_alloc | apply Kd.R_drewN | apply Kd.R_drew)); exact Kd.R_mono HO_50036002.out (fun _ hk => ⟨hk.1.1.1.1.1, ⟨hk.1.1.1.1.2.1, ⟨hk.1.1.1.1.2.2.1, ⟨hk.1.1.1.1.2.2.2.1, ⟨hk.1.1.1.1.2.2.2.2, ⟨hk.1.2, hk.2⟩⟩⟩⟩⟩⟩)⟩, ⟨by (try simp only [hl50027001_65]); (try simp only [hl50027002_65]); (with_reducible repeat (first | apply Kd.R_alloc | apply Kd.R_drewN | apply Kd.R_drew)); exact Kd.R_mono HO50063.out (fun _ hk => ⟨hk.1.1.1.1.1.1.1.2, ⟨hk.1.1.1.1.1.1.2, ⟨hk.1.1.1.1.1.2, ⟨hk.1.1.1.1.2, ⟨hk.1.1.1.2, ⟨hk.1.1.2, hk.1.1.1.1.1.1.1.1⟩⟩⟩⟩⟩⟩)⟩, ⟨by (try simp only [hl50027001_65]); (try simp only [hl50027002_65]); (with_reducible repeat (first | apply Kd.R_alloc | apply Kd.R_drewN | apply Kd.R_drew)); exact Kd.R_mono HO50066.out (fun _ hk => ⟨hk.1.1.1.1.1.1.1.2, ⟨hk.1.1.1.1.1.1.2, ⟨hk.1.1.1.1.1.2, ⟨hk.1.1.1.1.2, ⟨hk.1.1.1.2, ⟨hk.1.1.2, hk.1.1.1.1.1.1.1.1⟩⟩⟩⟩⟩⟩)⟩, ⟨by (try simp only [hl50027001_65]); (try simp only [hl50027002_65]); (with_reducible repeat (first | refine blk_drewN ?_ _ | refine blk_drew ?_ | refine blk_alloc ?_ _)); exact BK50001.out⟩, ⟨by (try simp only [hl50027001_65]); (try simp only [hl50027002_65]); (with_reducible repeat (first | refine blk_drewN ?_ _ | refine blk_drew ?_ | refine blk_alloc ?_ _)); exact BK50018.out⟩, ⟨by (try simp only [hl50027001_65]); (try simp only [hl50027002_65]); (with_reducible repeat (first | refine blk_drewN ?_ _ | refine blk_drew ?_ | refine blk_alloc ?_ _)); exact BK50026.out⟩, ⟨by (try simp only [hl50027001_65]); (try simp only [hl50027002_65]); (with_reducible repeat (first | refine blk_drewN ?_ _ | refine blk_drew ?_ | refine blk_alloc ?_ _)); exact BK50035.out⟩, ⟨by (try simp only [hl50027001_65]); (try simp only [hl50027002_65]); (with_reducible repeat (first | refine blk_drewN ?_ _ | refine blk_drew ?_ | refine blk_alloc ?_ _)); exact BK50068.out⟩, ⟨by repeat (first | (with_reducible first | exact HB.out | apply below_alloc | apply pw_below_drewN | apply below_drew1 | refine below_set ?_ GE50001.out | refine below_set ?_ GE50018.out | refine below_set ?_ GE50026.out | refine below_set ?_ GE50035.out | refine below_set ?_ GE50068.out) | exact HB.out)⟩⟩
            ·replace c134 := Bool.eq_false_iff.mpr c134
             subst c134
             have H1 : (laws_FnExactLockFirm.j2 kj65 t50049 true t50027 t50050 t50051) = some true := by rw [if_neg (show ¬ (false = true) by decide)] at H; exact H
             clear H
             have H := H1
             clear H1
             have H' := Aside0.mk H
             clear H
             have hnb145 := NB50068_50001.out
             have hnc145 := NB50001_50068.out
             have hnb146 := NB50068_50018.out
             have hnc146 := NB50018_50068.out
             have hnb147 := NB50068_50026.out
             have hnc147 := NB50026_50068.out
             have hnb148 := NB50068_50035.out
             have hnc148 := NB50035_50068.out
             have hcz149_0 : w125.cell? ⟨gb50068, 0, none⟩ = some (.int .i64 0) := (blk_cell BK50068.out 0).trans rfl
             have hcz149_1 : w125.cell? ⟨gb50068, 1, none⟩ = some (.slice none 0 0) := (blk_cell BK50068.out 1).trans rfl
             have hcz149_2 : w125.cell? ⟨gb50068, 2, none⟩ = some (.slice none 0 0) := (blk_cell BK50068.out 2).trans rfl
             have hfz149_0 := blk_frozen BK50068.out 0
             have hfz149_1 := blk_frozen BK50068.out 1
             have hfz149_2 := blk_frozen BK50068.out 2
             have hnb150 := NB50018_50001.out
             have hnc150 := NB50001_50018.out
             have hnb151 := NB50018_50026.out
             have hnc151 := NB50026_50018.out
             have hnb152 := NB50018_50035.out
             have hnc152 := NB50035_50018.out
             have hcz153_0 : w125.cell? ⟨gb50018, 0, none⟩ = some (.int .i64 t50010) := (blk_cell BK50018.out 0).trans rfl
             have hcz153_1 : w125.cell? ⟨gb50018, 1, none⟩ = some (.slice Ao25 t50011.length co25) := (blk_cell BK50018.out 1).trans rfl
             have hcz153_2 : w125.cell? ⟨gb50018, 2, none⟩ = some (.slice Ao26 t50014.length co26) := (blk_cell BK50018.out 2).trans rfl
             have hfz153_0 := blk_frozen BK50018.out 0
             have hfz153_1 := blk_frozen BK50018.out 1
             have hfz153_2 := blk_frozen BK50018.out 2
             go_wp2_with (first | ((with_reducible refine gate_callee (f := 19) rfl ?_); refine goesL_ (some 91) rfl rfl Try.func19 (by kernel_rfl) rfl #[.agg #[.int .i64 t50060, .slice Ao131 t50061.length co131, .slice Ao132 t50064.length co132], .agg #[.int .i64 t50010, .slice Ao25 t50011.length co25, .slice Ao26 t50014.length co26]] rfl (by (try simp only [List.map_toArray, List.map_cons, List.map_nil]); first | done | rfl | (simp only [List.length_drop, List.length_take]; rfl)) ?_; (with_reducible refine (laws_eqLock.calls kj65 t50060 _ _ t50061 _ _ t50064 t50010 _ _ t50011 _ _ t50014 false _ ?side1 ?side2 ?side3 ?side4 ?side5 ?side6 ?side7 ?side8 A133.out).mono ?_); (case side1 => refine (Kd.R_reads' (e := 45) (base := w.heap.size) (ok := fun k_ => ((((((((some k_ ≠ (.slice Ao132 t50064.length co132 : Value).ownBlock ∧ some k_ ≠ (.slice Ao25 t50011.length co25 : Value).ownBlock) ∧ some k_ ≠ (.slice Ao26 t50014.length co26 : Value).ownBlock) ∧ some k_ ≠ (.slice Ao33 t50046.length co33 : Value).ownBlock) ∧ some k_ ≠ (.slice Ao34 t50047.length co34 : Value).ownBlock) ∧ some k_ ≠ (.slice Ao41 t50028.length co41 : Value).ownBlock) ∧ some k_ ≠ (.slice Ao42 t50031.length co42 : Value).ownBlock) ∧ some k_ ≠ (.slice Ao122 t50054.length co122 : Value).ownBlock) ∧ some k_ ≠ (.slice Ao123 t50057.length co123 : Value).ownBlock)) (n := t50061.length) (c := co131) ?_).2.2; exact (by (with_reducible repeat (first | apply Kd.R_alloc | apply Kd.R_drewN | apply Kd.R_drew)); exact (Kd.R_mono (Kd.R_far (p := ⟨gb50068, 2, none⟩) (Kd.R_far (p := ⟨gb50068, 1, none⟩) (Kd.R_far (p := ⟨gb50068, 0, none⟩) (Kd.R_types HO50063.out BK50068.out (by decide)) (fun _ hk => hk.2) (.int .i64 t50060)) (fun _ hk => hk.2) (.slice Ao131 t50061.length co131)) (fun _ hk => hk.2) (.slice Ao132 t50064.length co132)) (fun _ h_ => h_.1)))); (case side2 => exact (Kd.R_reads' HO50063.out).2.1); (case side3 => refine (Kd.R_reads' (e := 45) (base := w.heap.size) (ok := fun k_ => ((((((((some k_ ≠ (.slice Ao131 t50061.length co131 : Value).ownBlock ∧ some k_ ≠ (.slice Ao25 t50011.length co25 : Value).ownBlock) ∧ some k_ ≠ (.slice Ao26 t50014.length co26 : Value).ownBlock) ∧ some k_ ≠ (.slice Ao33 t50046.length co33 : Value).ownBlock) ∧ some k_ ≠ (.slice Ao34 t50047.length co34 : Value).ownBlock) ∧ some k_ ≠ (.slice Ao41 t50028.length co41 : Value).ownBlock) ∧ some k_ ≠ (.slice Ao42 t50031.length co42 : Value).ownBlock) ∧ some k_ ≠ (.slice Ao122 t50054.length co122 : Value).ownBlock) ∧ some k_ ≠ (.slice Ao123 t50057.length co123 : Value).ownBlock)) (n := t50064.length) (c := co132) ?_).2.2; exact (by (with_reducible repeat (first | apply Kd.R_alloc | apply Kd.R_drewN | apply Kd.R_drew)); exact (Kd.R_mono (Kd.R_far (p := ⟨gb50068, 2, none⟩) (Kd.R_far (p := ⟨gb50068, 1, none⟩) (Kd.R_far (p := ⟨gb50068, 0, none⟩) (Kd.R_types HO50066.out BK50068.out (by decide)) (fun _ hk => hk.2) (.int .i64 t50060)) (fun _ hk => hk.2) (.slice Ao131 t50061.length co131)) (fun _ hk => hk.2) (.slice Ao132 t50064.length co132)) (fun _ h_ => h_.1)))); (case side4 => exact (Kd.R_reads' HO50066.out).2.1); (case side5 => refine (Kd.R_reads' (e := 45) (base := w.heap.size) (ok := fun k_ => (((((some k_ ≠ (.slice Ao26 t50014.length co26 : Value).ownBlock ∧ (some k_ ≠ (.slice Ao33 t50046.length co33 : Value).ownBlock ∧ (some k_ ≠ (.slice Ao34 t50047.length co34 : Value).ownBlock ∧ (some k_ ≠ (.slice Ao41 t50028.length co41 : Value).ownBlock ∧ some k_ ≠ (.slice Ao42 t50031.length co42 : Value).ownBlock)))) ∧ some k_ ≠ (.slice Ao122 t50054.length co122 : Value).ownBlock) ∧ some k_ ≠ (.slice Ao123 t50057.length co123 : Value).ownBlock) ∧ some k_ ≠ (.slice Ao131 t50061.length co131 : Value).ownBlock) ∧ some k_ ≠ (.slice Ao132 t50064.length co132 : Value).ownBlock)) (n := t50011.length) (c := co25) ?_).2.2; exact (by (with_reducible repeat (first | apply Kd.R_alloc | apply Kd.R_drewN | apply Kd.R_drew)); exact (Kd.R_mono (Kd.R_far (p := ⟨gb50068, 2, none⟩) (Kd.R_far (p := ⟨gb50068, 1, none⟩) (Kd.R_far (p := ⟨gb50068, 0, none⟩) (Kd.R_types HO_50019001.out BK50068.out (by decide)) (fun _ hk => hk.2) (.int .i64 t50060)) (fun _ hk => hk.2) (.slice Ao131 t50061.length co131)) (fun _ hk => hk.2) (.slice Ao132 t50064.length co132)) (fun _ h_ => h_.1)))); (case side6 => exact (Kd.R_reads' HO_50019001.out).2.1); (case side7 => refine (Kd.R_reads' (e := 45) (base := w.heap.size) (ok := fun k_ => (((((some k_ ≠ (.slice Ao25 t50011.length co25 : Value).ownBlock ∧ (some k_ ≠ (.slice Ao33 t50046.length co33 : Value).ownBlock ∧ (some k_ ≠ (.slice Ao34 t50047.length co34 : Value).ownBlock ∧ (some k_ ≠ (.slice Ao41 t50028.length co41 : Value).ownBlock ∧ some k_ ≠ (.slice Ao42 t50031.length co42 : Value).ownBlock)))) ∧ some k_ ≠ (.slice Ao122 t50054.length co122 : Value).ownBlock) ∧ some k_ ≠ (.slice Ao123 t50057.length co123 : Value).ownBlock) ∧ some k_ ≠ (.slice Ao131 t50061.length co131 : Value).ownBlock) ∧ some k_ ≠ (.slice Ao132 t50064.length co132 : Value).ownBlock)) (n := t50014.length) (c := co26) ?_).2.2; exact (by (with_reducible repeat (first | apply Kd.R_alloc | apply Kd.R_drewN | apply Kd.R_drew)); exact (Kd.R_mono (Kd.R_far (p := ⟨gb50068, 2, none⟩) (Kd.R_far (p := ⟨gb50068, 1, none⟩) (Kd.R_far (p := ⟨gb50068, 0, none⟩) (Kd.R_types HO_50019002.out BK50068.out (by decide)) (fun _ hk => hk.2) (.int .i64 t50060)) (fun _ hk => hk.2) (.slice Ao131 t50061.length co131)) (fun _ hk => hk.2) (.slice Ao132 t50064.length co132)) (fun _ h_ => h_.1)))); (case side8 => exact (Kd.R_reads' HO_50019002.out).2.1); rintro e w154 ⟨rfl, hb⟩; refine ⟨_, rfl, ?_⟩; have n0_ := Aside0.mk (Kd.R_below (by (with_reducible repeat (first | apply Kd.R_alloc | apply Kd.R_drewN | apply Kd.R_drew)); exact (Kd.R_mono (Kd.R_far (p := ⟨gb50068, 2, none⟩) (Kd.R_far (p := ⟨gb50068, 1, none⟩) (Kd.R_far (p := ⟨gb50068, 0, none⟩) (Kd.R_types HO_50019001.out BK50068.out (by decide)) (fun _ hk => hk.2) (.int .i64 t50060)) (fun _ hk => hk.2) (.slice Ao131 t50061.length co131)) (fun _ hk => hk.2) (.slice Ao132 t50064.length co132)) (fun _ h_ => h_.1))) hb); have n1_ := Aside0.mk (Kd.R_below (by (with_reducible repeat (first | apply Kd.R_alloc | apply Kd.R_drewN | apply Kd.R_drew)); exact (Kd.R_mono (Kd.R_far (p := ⟨gb50068, 2, none⟩) (Kd.R_far (p := ⟨gb50068, 1, none⟩) (Kd.R_far (p := ⟨gb50068, 0, none⟩) (Kd.R_types HO_50019002.out BK50068.out (by decide)) (fun _ hk => hk.2) (.int .i64 t50060)) (fun _ hk => hk.2) (.slice Ao131 t50061.length co131)) (fun _ hk => hk.2) (.slice Ao132 t50064.length co132)) (fun _ h_ => h_.1))) hb); have n2_ := Aside0.mk (Kd.R_below (by (with_reducible repeat (first | apply Kd.R_alloc | apply Kd.R_drewN | apply Kd.R_drew)); exact (Kd.R_mono (Kd.R_far (p := ⟨gb50068, 2, none⟩) (Kd.R_far (p := ⟨gb50068, 1, none⟩) (Kd.R_far (p := ⟨gb50068, 0, none⟩) (Kd.R_types HO_50027001.out BK50068.out (by decide)) (fun _ hk => hk.2) (.int .i64 t50060)) (fun _ hk => hk.2) (.slice Ao131 t50061.length co131)) (fun _ hk => hk.2) (.slice Ao132 t50064.length co132)) (fun _ h_ => h_.1))) hb); have n3_ := Aside0.mk (Kd.R_below (by (with_reducible repeat (first | apply Kd.R_alloc | apply Kd.R_drewN | apply Kd.R_drew)); exact (Kd.R_mono (Kd.R_far (p := ⟨gb50068, 2, none⟩) (Kd.R_far (p := ⟨gb50068, 1, none⟩) (Kd.R_far (p := ⟨gb50068, 0, none⟩) (Kd.R_types HO_50027002.out BK50068.out (by decide)) (fun _ hk => hk.2) (.int .i64 t50060)) (fun _ hk => hk.2) (.slice Ao131 t50061.length co131)) (fun _ hk => hk.2) (.slice Ao132 t50064.length co132)) (fun _ h_ => h_.1))) hb); have n4_ := Aside0.mk (Kd.R_below (by (with_reducible repeat (first | apply Kd.R_alloc | apply Kd.R_drewN | apply Kd.R_drew)); exact (Kd.R_mono (Kd.R_far (p := ⟨gb50068, 2, none⟩) (Kd.R_far (p := ⟨gb50068, 1, none⟩) (Kd.R_far (p := ⟨gb50068, 0, none⟩) (Kd.R_types HO_50036001.out BK50068.out (by decide)) (fun _ hk => hk.2) (.int .i64 t50060)) (fun _ hk => hk.2) (.slice Ao131 t50061.length co131)) (fun _ hk => hk.2) (.slice Ao132 t50064.length co132)) (fun _ h_ => h_.1))) hb); have n5_ := Aside0.mk (Kd.R_below (by (with_reducible repeat (first | apply Kd.R_alloc | apply Kd.R_drewN | apply Kd.R_drew)); exact (Kd.R_mono (Kd.R_far (p := ⟨gb50068, 2, none⟩) (Kd.R_far (p := ⟨gb50068, 1, none⟩) (Kd.R_far (p := ⟨gb50068, 0, none⟩) (Kd.R_types HO_50036002.out BK50068.out (by decide)) (fun _ hk => hk.2) (.int .i64 t50060)) (fun _ hk => hk.2) (.slice Ao131 t50061.length co131)) (fun _ hk => hk.2) (.slice Ao132 t50064.length co132)) (fun _ h_ => h_.1))) hb); have n6_ := Aside0.mk (Kd.R_below (by (with_reducible repeat (first | apply Kd.R_alloc | apply Kd.R_drewN | apply Kd.R_drew)); exact (Kd.R_mono (Kd.R_far (p := ⟨gb50068, 2, none⟩) (Kd.R_far (p := ⟨gb50068, 1, none⟩) (Kd.R_far (p := ⟨gb50068, 0, none⟩) (Kd.R_types HO50056.out BK50068.out (by decide)) (fun _ hk => hk.2) (.int .i64 t50060)) (fun _ hk => hk.2) (.slice Ao131 t50061.length co131)) (fun _ hk => hk.2) (.slice Ao132 t50064.length co132)) (fun _ h_ => h_.1))) hb); have n7_ := Aside0.mk (Kd.R_below (by (with_reducible repeat (first | apply Kd.R_alloc | apply Kd.R_drewN | apply Kd.R_drew)); exact (Kd.R_mono (Kd.R_far (p := ⟨gb50068, 2, none⟩) (Kd.R_far (p := ⟨gb50068, 1, none⟩) (Kd.R_far (p := ⟨gb50068, 0, none⟩) (Kd.R_types HO50059.out BK50068.out (by decide)) (fun _ hk => hk.2) (.int .i64 t50060)) (fun _ hk => hk.2) (.slice Ao131 t50061.length co131)) (fun _ hk => hk.2) (.slice Ao132 t50064.length co132)) (fun _ h_ => h_.1))) hb); have n8_ := Aside0.mk (Kd.R_below (by (with_reducible repeat (first | apply Kd.R_alloc | apply Kd.R_drewN | apply Kd.R_drew)); exact (Kd.R_mono (Kd.R_far (p := ⟨gb50068, 2, none⟩) (Kd.R_far (p := ⟨gb50068, 1, none⟩) (Kd.R_far (p := ⟨gb50068, 0, none⟩) (Kd.R_types HO50063.out BK50068.out (by decide)) (fun _ hk => hk.2) (.int .i64 t50060)) (fun _ hk => hk.2) (.slice Ao131 t50061.length co131)) (fun _ hk => hk.2) (.slice Ao132 t50064.length co132)) (fun _ h_ => h_.1))) hb); have n9_ := Aside0.mk (Kd.R_below (by (with_reducible repeat (first | apply Kd.R_alloc | apply Kd.R_drewN | apply Kd.R_drew)); exact (Kd.R_mono (Kd.R_far (p := ⟨gb50068, 2, none⟩) (Kd.R_far (p := ⟨gb50068, 1, none⟩) (Kd.R_far (p := ⟨gb50068, 0, none⟩) (Kd.R_types HO50066.out BK50068.out (by decide)) (fun _ hk => hk.2) (.int .i64 t50060)) (fun _ hk => hk.2) (.slice Ao131 t50061.length co131)) (fun _ hk => hk.2) (.slice Ao132 t50064.length co132)) (fun _ h_ => h_.1))) hb); have n10_ := Aside0.mk (blk_below (g := gb50001) (o := .cells #[.int .i64 a0_0, .slice A0_1 l0_1.length c0_1, .slice A0_2 l0_2.length c0_2] 24 (0, 0)) (by (with_reducible repeat (first | refine blk_drewN ?_ _ | refine blk_drew ?_ | refine blk_alloc ?_ _)); refine blk_far ?_ NB50001_50068.out _; (with_reducible repeat (first | refine blk_drewN ?_ _ | refine blk_drew ?_ | refine blk_alloc ?_ _)); refine blk_far ?_ NB50001_50068.out _; (with_reducible repeat (first | refine blk_drewN ?_ _ | refine blk_drew ?_ | refine blk_alloc ?_ _)); refine blk_far ?_ NB50001_50068.out _; (with_reducible repeat (first | refine blk_drewN ?_ _ | refine blk_drew ?_ | refine blk_alloc ?_ _)); exact BK50001.out) hb); have n11_ := Aside0.mk (blk_below (g := gb50018) (o := .cells #[.int .i64 t50010, .slice Ao25 t50011.length co25, .slice Ao26 t50014.length co26] 29 (0, 0)) (by (with_reducible repeat (first | refine blk_drewN ?_ _ | refine blk_drew ?_ | refine blk_alloc ?_ _)); refine blk_far ?_ NB50018_50068.out _; (with_reducible repeat (first | refine blk_drewN ?_ _ | refine blk_drew ?_ | refine blk_alloc ?_ _)); refine blk_far ?_ NB50018_50068.out _; (with_reducible repeat (first | refine blk_drewN ?_ _ | refine blk_drew ?_ | refine blk_alloc ?_ _)); refine blk_far ?_ NB50018_50068.out _; (with_reducible repeat (first | refine blk_drewN ?_ _ | refine blk_drew ?_ | refine blk_alloc ?_ _)); exact BK50018.out) hb); have n12_ := Aside0.mk (blk_below (g := gb50026) (o := .cells #[.int .i64 t50019, .slice Ao33 t50046.length co33, .slice Ao34 t50047.length co34] 29 (0, 0)) (by (with_reducible repeat (first | refine blk_drewN ?_ _ | refine blk_drew ?_ | refine blk_alloc ?_ _)); refine blk_far ?_ NB50026_50068.out _; (with_reducible repeat (first | refine blk_drewN ?_ _ | refine blk_drew ?_ | refine blk_alloc ?_ _)); refine blk_far ?_ NB50026_50068.out _; (with_reducible repeat (first | refine blk_drewN ?_ _ | refine blk_drew ?_ | refine blk_alloc ?_ _)); refine blk_far ?_ NB50026_50068.out _; (with_reducible repeat (first | refine blk_drewN ?_ _ | refine blk_drew ?_ | refine blk_alloc ?_ _)); exact BK50026.out) hb); have n13_ := Aside0.mk (blk_below (g := gb50035) (o := .cells #[.int .i64 t50027, .slice Ao41 t50028.length co41, .slice Ao42 t50031.length co42] 29 (0, 0)) (by (with_reducible repeat (first | refine blk_drewN ?_ _ | refine blk_drew ?_ | refine blk_alloc ?_ _)); refine blk_far ?_ NB50035_50068.out _; (with_reducible repeat (first | refine blk_drewN ?_ _ | refine blk_drew ?_ | refine blk_alloc ?_ _)); refine blk_far ?_ NB50035_50068.out _; (with_reducible repeat (first | refine blk_drewN ?_ _ | refine blk_drew ?_ | refine blk_alloc ?_ _)); refine blk_far ?_ NB50035_50068.out _; (with_reducible repeat (first | refine blk_drewN ?_ _ | refine blk_drew ?_ | refine blk_alloc ?_ _)); exact BK50035.out) hb); have n14_ := Aside0.mk (blk_below (g := gb50068) (o := .cells #[.int .i64 t50060, .slice Ao131 t50061.length co131, .slice Ao132 t50064.length co132] 29 (0, 0)) (by (with_reducible repeat (first | refine blk_drewN ?_ _ | refine blk_drew ?_ | refine blk_alloc ?_ _)); refine blk_put (cs := #[.int .i64 t50060, .slice Ao131 t50061.length co131, .slice none 0 0]) ?_ 2 _ rfl; (with_reducible repeat (first | refine blk_drewN ?_ _ | refine blk_drew ?_ | refine blk_alloc ?_ _)); refine blk_put (cs := #[.int .i64 t50060, .slice none 0 0, .slice none 0 0]) ?_ 1 _ rfl; (with_reducible repeat (first | refine blk_drewN ?_ _ | refine blk_drew ?_ | refine blk_alloc ?_ _)); refine blk_put (cs := #[.int .i64 0, .slice none 0 0, .slice none 0 0]) ?_ 0 _ rfl; (with_reducible repeat (first | refine blk_drewN ?_ _ | refine blk_drew ?_ | refine blk_alloc ?_ _)); exact BK50068.out) hb); have n15_ := Aside0.mk (below_step (by repeat (first | (with_reducible first | exact HB.out | apply below_alloc | apply pw_below_drewN | apply below_drew1 | refine below_set ?_ GE50001.out | refine below_set ?_ GE50018.out | refine below_set ?_ GE50026.out | refine below_set ?_ GE50035.out | refine below_set ?_ GE50068.out) | exact HB.out)) hb); clear HO_50019001; clear HO_50019002; clear HO_50027001; clear HO_50027002; clear HO_50036001; clear HO_50036002; clear HO50056; clear HO50059; clear HO50063; clear HO50066; clear BK50001; clear BK50018; clear BK50026; clear BK50035; clear BK50068; clear HB; have HO_50019001 := n0_; have HO_50019002 := n1_; have HO_50027001 := n2_; have HO_50027002 := n3_; have HO_50036001 := n4_; have HO_50036002 := n5_; have HO50056 := n6_; have HO50059 := n7_; have HO50063 := n8_; have HO50066 := n9_; have BK50001 := n10_; have BK50018 := n11_; have BK50026 := n12_; have BK50035 := n13_; have BK50068 := n14_; have HB := n15_; clear n0_ n1_ n2_ n3_ n4_ n5_ n6_ n7_ n8_ n9_ n10_ n11_ n12_ n13_ n14_ n15_; (try clear hb); (try clear hb2); (try clear hk); (try clear hi)))
             go_meet
             case rel => exact ⟨_, (true), (by first | rfl | (simp; done) | (simp [*]; done)), H', ⟨by have := HJ12.out; have := HJ65.out; first | omega | exact Nat.le_refl _⟩, ⟨by (try simp only [hl50027001_65]); (try simp only [hl50027002_65]); (with_reducible repeat (first | apply Kd.R_alloc | apply Kd.R_drewN | apply Kd.R_drew)); exact Kd.R_mono HO_50019001.out (fun _ hk => ⟨hk.1.1.1.1.1, ⟨hk.1.1.1.1.2.1, ⟨hk.1.1.1.1.2.2.1, ⟨hk.1.1.1.1.2.2.2.1, ⟨hk.1.1.1.1.2.2.2.2, ⟨hk.1.2, hk.2⟩⟩⟩⟩⟩⟩)⟩, ⟨by (try simp only [hl50027001_65]); (try simp only [hl50027002_65]); (with_reducible repeat (first | apply Kd.R_alloc | apply Kd.R_drewN | apply Kd.R_drew)); exact Kd.R_mono HO_50019002.out (fun _ hk => ⟨hk.1.1.1.1.1, ⟨hk.1.1.1.1.2.1, ⟨hk.1.1.1.1.2.2.1, ⟨hk.1.1.1.1.2.2.2.1, ⟨hk.1.1.1.1.2.2.2.2, ⟨hk.1.2, hk.2⟩⟩⟩⟩⟩⟩)⟩, ⟨by (try simp only [hl50027001_65]); (try simp only [hl50027002_65]); (with_reducible repeat (first | apply Kd.R_alloc | apply Kd.R_drewN | apply Kd.R_drew)); exact Kd.R_mono HO_50027001.out (fun _ hk => ⟨hk.1.1.1.1.1, ⟨hk.1.1.1.1.2.1, ⟨hk.1.1.1.1.2.2.1, ⟨hk.1.1.1.1.2.2.2.1, ⟨hk.1.1.1.1.2.2.2.2, ⟨hk.1.2, hk.2⟩⟩⟩⟩⟩⟩)⟩, ⟨by (try simp only [hl50027001_65]); (try simp only [hl50027002_65]); (with_reducible repeat (first | apply Kd.R_alloc | apply Kd.R_drewN | apply Kd.R_drew)); exact Kd.R_mono HO_50027002.out (fun _ hk => ⟨hk.1.1.1.1.1, ⟨hk.1.1.1.1.2.1, ⟨hk.1.1.1.1.2.2.1, ⟨hk.1.1.1.1.2.2.2.1, ⟨hk.1.1.1.1.2.2.2.2, ⟨hk.1.2, hk.2⟩⟩⟩⟩⟩⟩)⟩, ⟨by (try simp only [hl50027001_65]); (try simp only [hl50027002_65]); (with_reducible repeat (first | apply Kd.R_alloc | apply Kd.R_drewN | apply Kd.R_drew)); exact Kd.R_mono HO_50036001.out (fun _ hk => ⟨hk.1.1.1.1.1, ⟨hk.1.1.1.1.2.1, ⟨hk.1.1.1.1.2.2.1, ⟨hk.1.1.1.1.2.2.2.1, ⟨hk.1.1.1.1.2.2.2.2, ⟨hk.1.2, hk.2⟩⟩⟩⟩⟩⟩)⟩, ⟨by (try simp only [hl50027001_65]); (try simp only [hl50027002_65]); (with_reducible repeat (first | apply Kd.R_alloc | apply Kd.R_drewN | apply Kd.R_drew)); exact Kd.R_mono HO_50036002.out (fun _ hk => ⟨hk.1.1.1.1.1, ⟨hk.1.1.1.1.2.1, ⟨hk.1.1.1.1.2.2.1, ⟨hk.1.1.1.1.2.2.2.1, ⟨hk.1.1.1.1.2.2.2.2, ⟨hk.1.2, hk.2⟩⟩⟩⟩⟩⟩)⟩, ⟨by (try simp only [hl50027001_65]); (try simp only [hl50027002_65]); (with_reducible repeat (first | apply Kd.R_alloc | apply Kd.R_drewN | apply Kd.R_drew)); exact Kd.R_mono HO50063.out (fun _ hk => ⟨hk.1.1.1.1.1.1.1.2, ⟨hk.1.1.1.1.1.1.2, ⟨hk.1.1.1.1.1.2, ⟨hk.1.1.1.1.2, ⟨hk.1.1.1.2, ⟨hk.1.1.2, hk.1.1.1.1.1.1.1.1⟩⟩⟩⟩⟩⟩)⟩, ⟨by (try simp only [hl50027001_65]); (try simp only [hl50027002_65]); (with_reducible repeat (first | apply Kd.R_alloc | apply Kd.R_drewN | apply Kd.R_drew)); exact Kd.R_mono HO50066.out (fun _ hk => ⟨hk.1.1.1.1.1.1.1.2, ⟨hk.1.1.1.1.1.1.2, ⟨hk.1.1.1.1.1.2, ⟨hk.1.1.1.1.2, ⟨hk.1.1.1.2, ⟨hk.1.1.2, hk.1.1.1.1.1.1.1.1⟩⟩⟩⟩⟩⟩)⟩, ⟨by (try simp only [hl50027001_65]); (try simp only [hl50027002_65]); (with_reducible repeat (first | refine blk_drewN ?_ _ | refine blk_drew ?_ | refine blk_alloc ?_ _)); exact BK50001.out⟩, ⟨by (try simp only [hl50027001_65]); (try simp only [hl50027002_65]); (with_reducible repeat (first | refine blk_drewN ?_ _ | refine blk_drew ?_ | refine blk_alloc ?_ _)); exact BK50018.out⟩, ⟨by (try simp only [hl50027001_65]); (try simp only [hl50027002_65]); (with_reducible repeat (first | refine blk_drewN ?_ _ | refine blk_drew ?_ | refine blk_alloc ?_ _)); exact BK50026.out⟩, ⟨by (try simp only [hl50027001_65]); (try simp only [hl50027002_65]); (with_reducible repeat (first | refine blk_drewN ?_ _ | refine blk_drew ?_ | refine blk_alloc ?_ _)); exact BK50035.out⟩, ⟨by (try simp only [hl50027001_65]); (try simp only [hl50027002_65]); (with_reducible repeat (first | refine blk_drewN ?_ _ | refine blk_drew ?_ | refine blk_alloc ?_ _)); exact BK50068.out⟩, ⟨by repeat (first | (with_reducible first | exact HB.out | apply below_alloc | apply pw_below_drewN | apply below_drew1 | refine below_set ?_ GE50001.out | refine below_set ?_ GE50018.out | refine below_set ?_ GE50026.out | refine below_set ?_ GE50035.out | refine below_set ?_ GE50068.out) | exact HB.out)⟩⟩
           case rest =>
            clear HC110
            try clear c1
            try clear c2
            try clear p2
            try clear c3
            try clear c4
            try clear c5
            try clear c5b0
            try clear c6
            try clear c7
            try clear c8
            try clear c9
            try clear c10
            try clear c11
            try clear c12
            try clear c13
            try clear c14
            try clear c15
            try clear c17
            try clear c19
            try clear c20
            try clear c21
            try clear c22
            try clear c23
            try clear c30
            try clear c31
            try clear c37
            try clear c38
            try clear c39
            try clear c44
            try clear c45
            try clear c46
            try clear c47
            try clear c49
            try clear c50
            try clear c53
            try clear c54
            try clear c55
            try clear c57
            try clear c58
            try clear c61
            try clear c64
            try clear c72
            try clear c73
            try clear c74
            try clear c77
            try clear c77b0
            try clear c79
            try clear c80
            try clear c81
            try clear c82
            try clear c84
            try clear c85
            try clear c88
            try clear c89
            try clear c90
            try clear c92
            try clear c93
            try clear c96
            try clear c99
            try clear c99b0
            try clear c100
            try clear c101
            try clear c102
            try clear c107
            try clear c107b0
            try clear c107b1
            try clear c111
            try clear c112
            try clear c113
            try clear c118
            try clear c119
            try clear c126
            try clear c127
            try clear c128
            try clear c129
            try clear c134
            try clear c135
            try clear c136
            try clear c137
            try clear c138
            try clear c140
            try clear c141
            try clear c142
            try clear c145
            try clear c146
            try clear c147
            try clear c148
            try clear c150
            try clear c151
            try clear c152
            try clear hcz103_0
            try clear hcz103_1
            try clear hcz103_2
            try clear hcz105_0
            try clear hcz105_1
            try clear hcz105_2
            try clear hcz114_0
            try clear hcz114_1
            try clear hcz114_2
            try clear hcz116_0
            try clear hcz116_1
            try clear hcz116_2
            try clear hcz120_0
            try clear hcz120_1
            try clear hcz120_2
            try clear hcz130_0
            try clear hcz130_1
            try clear hcz130_2
            try clear hcz139_0
            try clear hcz139_1
            try clear hcz139_2
            try clear hcz143_0
            try clear hcz143_1
            try clear hcz143_2
            try clear hcz149_0
            try clear hcz149_1
            try clear hcz149_2
            try clear hcz153_0
            try clear hcz153_1
            try clear hcz153_2
            try clear hcz15_0
            try clear hcz15_1
            try clear hcz15_2
            try clear hcz17_0
            try clear hcz17_1
            try clear hcz17_2
            try clear hcz24_0
            try clear hcz24_1
            try clear hcz24_2
            try clear hcz27_0
            try clear hcz27_1
            try clear hcz27_2
            try clear hcz32_0
            try clear hcz32_1
            try clear hcz32_2
            try clear hcz40_0
            try clear hcz40_1
            try clear hcz40_2
            try clear hcz48_0
            try clear hcz48_1
            try clear hcz48_2
            try clear hcz51_0
            try clear hcz51_1
            try clear hcz51_2
            try clear hcz56_0
            try clear hcz56_1
            try clear hcz56_2
            try clear hcz59_0
            try clear hcz59_1
            try clear hcz59_2
            try clear hcz75_0
            try clear hcz75_1
            try clear hcz75_2
            try clear hcz7_0
            try clear hcz7_1
            try clear hcz7_2
            try clear hcz83_0
            try clear hcz83_1
            try clear hcz83_2
            try clear hcz86_0
            try clear hcz86_1
            try clear hcz86_2
            try clear hcz91_0
            try clear hcz91_1
            try clear hcz91_2
            try clear hcz94_0
            try clear hcz94_1
            try clear hcz94_2
            try clear hfz103_0
            try clear hfz103_1
            try clear hfz103_2
            try clear hfz105_0
            try clear hfz105_1
            try clear hfz105_2
            try clear hfz114_0
            try clear hfz114_1
            try clear hfz114_2
            try clear hfz116_0
            try clear hfz116_1
            try clear hfz116_2
            try clear hfz120_0
            try clear hfz120_1
            try clear hfz120_2
            try clear hfz130_0
            try clear hfz130_1
            try clear hfz130_2
            try clear hfz139_0
            try clear hfz139_1
            try clear hfz139_2
            try clear hfz143_0
            try clear hfz143_1
            try clear hfz143_2
            try clear hfz149_0
            try clear hfz149_1
            try clear hfz149_2
            try clear hfz153_0
            try clear hfz153_1
            try clear hfz153_2
            try clear hfz15_0
            try clear hfz15_1
            try clear hfz15_2
            try clear hfz17_0
            try clear hfz17_1
            try clear hfz17_2
            try clear hfz24_0
            try clear hfz24_1
            try clear hfz24_2
            try clear hfz27_0
            try clear hfz27_1
            try clear hfz27_2
            try clear hfz32_0
            try clear hfz32_1
            try clear hfz32_2
            try clear hfz40_0
            try clear hfz40_1
            try clear hfz40_2
            try clear hfz48_0
            try clear hfz48_1
            try clear hfz48_2
            try clear hfz51_0
            try clear hfz51_1
            try clear hfz51_2
            try clear hfz56_0
            try clear hfz56_1
            try clear hfz56_2
            try clear hfz59_0
            try clear hfz59_1
            try clear hfz59_2
            try clear hfz75_0
            try clear hfz75_1
            try clear hfz75_2
            try clear hfz7_0
            try clear hfz7_1
            try clear hfz7_2
            try clear hfz83_0
            try clear hfz83_1
            try clear hfz83_2
            try clear hfz86_0
            try clear hfz86_1
            try clear hfz86_2
            try clear hfz91_0
            try clear hfz91_1
            try clear hfz91_2
            try clear hfz94_0
            try clear hfz94_1
            try clear hfz94_2
            try clear p2
            obtain ⟨kq, x97_109, rfl, HA, HJ109, HO_50019001, HO_50019002, HO_50027001, HO_50027002, HO_50036001, HO_50036002, HO_50069001, HO_50069002, BK50001, BK50018, BK50026, BK50035, BK50068, HB⟩ := hcut
            have hl50036001_109 := (Kd.R_reads' HO_50036001.out).1
            rw [hl50036001_109] at HO_50036001
            (try simp only [hl50036001_109])
            (try simp only [hl50036001_109] at BK50001)
            (try simp only [hl50036001_109] at BK50018)
            (try simp only [hl50036001_109] at BK50026)
            (try simp only [hl50036001_109] at BK50035)
            (try simp only [hl50036001_109] at BK50068)
            (try simp only [hl50036001_109] at HO_50019001)
            (try simp only [hl50036001_109] at HO_50019002)
            (try simp only [hl50036001_109] at HO_50027001)
            (try simp only [hl50036001_109] at HO_50027002)
            (try simp only [hl50036001_109] at HO_50036002)
            (try simp only [hl50036001_109] at HO_50069001)
            (try simp only [hl50036001_109] at HO_50069002)
            have hl50036002_109 := (Kd.R_reads' HO_50036002.out).1
            rw [hl50036002_109] at HO_50036002
            (try simp only [hl50036002_109])
            (try simp only [hl50036002_109] at BK50001)
            (try simp only [hl50036002_109] at BK50018)
            (try simp only [hl50036002_109] at BK50026)
            (try simp only [hl50036002_109] at BK50035)
            (try simp only [hl50036002_109] at BK50068)
            (try simp only [hl50036002_109] at HO_50019001)
            (try simp only [hl50036002_109] at HO_50019002)
            (try simp only [hl50036002_109] at HO_50027001)
            (try simp only [hl50036002_109] at HO_50027002)
            (try simp only [hl50036002_109] at HO_50036001)
            (try simp only [hl50036002_109] at HO_50069001)
            (try simp only [hl50036002_109] at HO_50069002)
            cases kq with
            | zero => exact absurd HA.out (by simp [laws_FnExactLockFirm.j2])
            | succ kj109 =>
             have H := HA.out
             clear HA
             simp only [laws_FnExactLockFirm.j2] at H
             by_cases c155 : x97_109 = true
             ·subst c155
              have H1 : (some false) = some true := by rw [if_pos rfl] at H; exact H
              clear H
              have H := H1
              clear H1
              exact absurd H (by decide)
             ·replace c155 := Bool.eq_false_iff.mpr c155
              subst c155
              have H1 : ((laws_heldLock.f kj109 t50027 t50050 t50051 1).bind fun t50070 => (if t50070 < 0 then (some false) else (if t50070 = t50049 then (some true) else (some false)))) = some true := by rw [if_neg (show ¬ (false = true) by decide)] at H; exact H
              clear H
              have H := H1
              clear H1
              replace H := Option.bind_eq_some_iff.mp H
              obtain ⟨t50070, A1560, H⟩ := H
              replace H : (if t50070 < 0 then (some false) else (if t50070 = t50049 then (some true) else (some false))) = some true := H
              have A156 := Aside0.mk A1560
              clear A1560
              by_cases c157 : t50070 < 0
              ·rw [if_pos c157] at H
               have c157b0 : decide (t50070 < 0) = true := decide_eq_true c157
               clear c157
               exact absurd H (by decide)
              ·rw [if_neg c157] at H
               have c157b0 : decide (t50070 < 0) = false := decide_eq_false c157
               clear c157
               by_cases c164 : t50070 = t50049
               ·rw [if_pos c164] at H
                have c164b0 : (t50070 == t50049) = true := beq_iff_eq.mpr c164
                have c164b1 : (t50070 != t50049) = false := bne_eq_false_iff_eq.mpr c164
                clear c164
                clear H
                have hnb165 := NB50035_50001.out
                have hnc165 := NB50001_50035.out
                have hnb166 := NB50035_50018.out
                have hnc166 := NB50018_50035.out
                have hnb167 := NB50035_50026.out
                have hnc167 := NB50026_50035.out
                have hnb168 := NB50035_50068.out
                have hnc168 := NB50068_50035.out
                have hcz169_0 : wc.cell? ⟨gb50035, 0, none⟩ = some (.int .i64 t50027) := (blk_cell BK50035.out 0).trans rfl
                have hcz169_1 : wc.cell? ⟨gb50035, 1, none⟩ = some (.slice Ao41 t50050.length co41) := (blk_cell BK50035.out 1).trans rfl
                have hcz169_2 : wc.cell? ⟨gb50035, 2, none⟩ = some (.slice Ao42 t50051.length co42) := (blk_cell BK50035.out 2).trans rfl
                have hfz169_0 := blk_frozen BK50035.out 0
                have hfz169_1 := blk_frozen BK50035.out 1
                have hfz169_2 := blk_frozen BK50035.out 2
                go_wp2_with (first | ((with_reducible refine gate_callee (f := 23) rfl ?_); refine goesL_ (some 100) rfl rfl Try.func23 (by kernel_rfl) rfl #[.agg #[.int .i64 t50027, .slice Ao41 t50050.length co41, .slice Ao42 t50051.length co42], .int .i64 1] rfl (by (try simp only [List.map_toArray, List.map_cons, List.map_nil]); first | done | rfl | (simp only [List.length_drop, List.length_take]; rfl)) ?_; (with_reducible refine (laws_heldLock.calls kj109 t50027 _ _ t50050 _ _ t50051 1 t50070 _ ?side1 ?side2 ?side3 ?side4 A156.out).mono ?_); (case side1 => repeat (first | exact (Kd.R_reads' HO_50036001.out).2.2 | (with_reducible refine Kd.C_alloc ?_ _) | (with_reducible refine Kd.C_drewN ?_ _) | (with_reducible refine Kd.C_drew ?_))); (case side2 => exact (Kd.R_reads' HO_50036001.out).2.1); (case side3 => repeat (first | exact (Kd.R_reads' HO_50036002.out).2.2 | (with_reducible refine Kd.C_alloc ?_ _) | (with_reducible refine Kd.C_drewN ?_ _) | (with_reducible refine Kd.C_drew ?_))); (case side4 => exact (Kd.R_reads' HO_50036002.out).2.1); rintro e w170 ⟨rfl, hb⟩; refine ⟨_, rfl, ?_⟩; have n0_ := Aside0.mk (Kd.R_below (by (with_reducible repeat (first | apply Kd.R_alloc | apply Kd.R_drewN | apply Kd.R_drew)); exact HO_50019001.out) hb); have n1_ := Aside0.mk (Kd.R_below (by (with_reducible repeat (first | apply Kd.R_alloc | apply Kd.R_drewN | apply Kd.R_drew)); exact HO_50019002.out) hb); have n2_ := Aside0.mk (Kd.R_below (by (with_reducible repeat (first | apply Kd.R_alloc | apply Kd.R_drewN | apply Kd.R_drew)); exact HO_50027001.out) hb); have n3_ := Aside0.mk (Kd.R_below (by (with_reducible repeat (first | apply Kd.R_alloc | apply Kd.R_drewN | apply Kd.R_drew)); exact HO_50027002.out) hb); have n4_ := Aside0.mk (Kd.R_below (by (with_reducible repeat (first | apply Kd.R_alloc | apply Kd.R_drewN | apply Kd.R_drew)); exact HO_50036001.out) hb); have n5_ := Aside0.mk (Kd.R_below (by (with_reducible repeat (first | apply Kd.R_alloc | apply Kd.R_drewN | apply Kd.R_drew)); exact HO_50036002.out) hb); have n6_ := Aside0.mk (Kd.R_below (by (with_reducible repeat (first | apply Kd.R_alloc | apply Kd.R_drewN | apply Kd.R_drew)); exact HO_50069001.out) hb); have n7_ := Aside0.mk (Kd.R_below (by (with_reducible repeat (first | apply Kd.R_alloc | apply Kd.R_drewN | apply Kd.R_drew)); exact HO_50069002.out) hb); have n8_ := Aside0.mk (blk_below (g := gb50001) (o := .cells #[.int .i64 a0_0, .slice A0_1 l0_1.length c0_1, .slice A0_2 l0_2.length c0_2] 24 (0, 0)) (by (with_reducible repeat (first | refine blk_drewN ?_ _ | refine blk_drew ?_ | refine blk_alloc ?_ _)); exact BK50001.out) hb); have n9_ := Aside0.mk (blk_below (g := gb50018) (o := .cells #[.int .i64 t50010, .slice Ao25 t50011.length co25, .slice Ao26 t50014.length co26] 29 (0, 0)) (by (with_reducible repeat (first | refine blk_drewN ?_ _ | refine blk_drew ?_ | refine blk_alloc ?_ _)); exact BK50018.out) hb); have n10_ := Aside0.mk (blk_below (g := gb50026) (o := .cells #[.int .i64 t50019, .slice Ao33 t50046.length co33, .slice Ao34 t50047.length co34] 29 (0, 0)) (by (with_reducible repeat (first | refine blk_drewN ?_ _ | refine blk_drew ?_ | refine blk_alloc ?_ _)); exact BK50026.out) hb); have n11_ := Aside0.mk (blk_below (g := gb50035) (o := .cells #[.int .i64 t50027, .slice Ao41 t50050.length co41, .slice Ao42 t50051.length co42] 29 (0, 0)) (by (with_reducible repeat (first | refine blk_drewN ?_ _ | refine blk_drew ?_ | refine blk_alloc ?_ _)); exact BK50035.out) hb); have n12_ := Aside0.mk (blk_below (g := gb50068) (o := .cells #[.int .i64 t50060, .slice Ao131 t50061.length co131, .slice Ao132 t50064.length co132] 29 (0, 0)) (by (with_reducible repeat (first | refine blk_drewN ?_ _ | refine blk_drew ?_ | refine blk_alloc ?_ _)); exact BK50068.out) hb); have n13_ := Aside0.mk (below_step (by repeat (first | (with_reducible first | exact HB.out | apply below_alloc | apply pw_below_drewN | apply below_drew1 | refine below_set ?_ GE50001.out | refine below_set ?_ GE50018.out | refine below_set ?_ GE50026.out | refine below_set ?_ GE50035.out | refine below_set ?_ GE50068.out) | exact HB.out)) hb); clear HO_50019001; clear HO_50019002; clear HO_50027001; clear HO_50027002; clear HO_50036001; clear HO_50036002; clear HO_50069001; clear HO_50069002; clear BK50001; clear BK50018; clear BK50026; clear BK50035; clear BK50068; clear HB; have HO_50019001 := n0_; have HO_50019002 := n1_; have HO_50027001 := n2_; have HO_50027002 := n3_; have HO_50036001 := n4_; have HO_50036002 := n5_; have HO_50069001 := n6_; have HO_50069002 := n7_; have BK50001 := n8_; have BK50018 := n9_; have BK50026 := n10_; have BK50035 := n11_; have BK50068 := n12_; have HB := n13_; clear n0_ n1_ n2_ n3_ n4_ n5_ n6_ n7_ n8_ n9_ n10_ n11_ n12_ n13_; (try clear hb); (try clear hb2); (try clear hk); (try clear hi)))
                go_ret
                exact ⟨by first | rfl | (simp [errW_none, errW_some] <;> rfl) | (simp [*, errW_none, errW_some] <;> rfl), by repeat (first | (with_reducible first | exact HB.out | apply below_alloc | apply pw_below_drewN | apply below_drew1 | refine below_set ?_ GE50001.out | refine below_set ?_ GE50018.out | refine below_set ?_ GE50026.out | refine below_set ?_ GE50035.out | refine below_set ?_ GE50068.out) | exact HB.out)⟩
               ·rw [if_neg c164] at H
                have c164b0 : (t50070 == t50049) = false := beq_eq_false_iff_ne.mpr c164
                have c164b1 : (t50070 != t50049) = true := bne_iff_ne.mpr c164
                exact absurd H (by decide)
          ·rw [if_neg c107] at H
           have c107b0 : (t50052 == t50049) = false := beq_eq_false_iff_ne.mpr c107
           have c107b1 : (t50052 != t50049) = true := bne_iff_ne.mpr c107
           exact absurd H (by decide)
     ·replace c64 := Bool.eq_false_iff.mpr c64
      subst c64
      have H1 : (some false) = some true := by rw [if_neg (show ¬ (false = true) by decide)] at H; exact H
      clear H
      have H := H1
      clear H1
      exact absurd H (by decide)

def B42 (x : S42) : Prop := ((Lit.int .i64 x.f0).wf = true) ∧ ((Lit.int .i64 x.f1).wf = true) ∧ (True) ∧ (True)
theorem rd42_ (W : World) : RdOf Try.prog W k42 42 B42 := by
 intro H enc fuel cs y h
 obtain ⟨xs, n, _, _, hlen, hxl, hg⟩ := DataW.trod_struct Try.underlying42 h
 have hlen : cs.length = 4 := hlen.trans (by kernel_rfl)
 have hxl : xs.length = 4 := hxl
 obtain ⟨y0, e0⟩ := nth_some (j := 0) hxl (by omega)
 have g0 : DataW.trod enc Try.prog W 0 (fun _ => true) true n 3 ((cs.drop 0).take (Try.prog.cellsOf 3)) = xs[0]? := hg 0 _ rfl
 have z0 : Try.prog.cellsOf 3 = 1 := by kernel_rfl
 rw [z0, e0] at g0
 obtain ⟨x0, k0_, b0_⟩ := (RdOf.int Try.underlying3) enc n _ _ g0
 obtain ⟨y1, e1⟩ := nth_some (j := 1) hxl (by omega)
 have g1 : DataW.trod enc Try.prog W 0 (fun _ => true) true n 3 ((cs.drop 1).take (Try.prog.cellsOf 3)) = xs[1]? := hg 1 _ rfl
 have z1 : Try.prog.cellsOf 3 = 1 := by kernel_rfl
 rw [z1, e1] at g1
 obtain ⟨x1, k1_, b1_⟩ := (RdOf.int Try.underlying3) enc n _ _ g1
 obtain ⟨y2, e2⟩ := nth_some (j := 2) hxl (by omega)
 have g2 : DataW.trod enc Try.prog W 0 (fun _ => true) true n 4 ((cs.drop 2).take (Try.prog.cellsOf 4)) = xs[2]? := hg 2 _ rfl
 have z2 : Try.prog.cellsOf 4 = 1 := by kernel_rfl
 rw [z2, e2] at g2
 obtain ⟨x2, k2_, b2_⟩ := (RdOf.bool Try.underlying4) enc n _ _ g2
 obtain ⟨y3, e3⟩ := nth_some (j := 3) hxl (by omega)
 have g3 : DataW.trod enc Try.prog W 0 (fun _ => true) true n 4 ((cs.drop 3).take (Try.prog.cellsOf 4)) = xs[3]? := hg 3 _ rfl
 have z3 : Try.prog.cellsOf 4 = 1 := by kernel_rfl
 rw [z3, e3] at g3
 obtain ⟨x3, k3_, b3_⟩ := (RdOf.bool Try.underlying4) enc n _ _ g3
 have hk := (seg_pair 0 1 3 k0_ (seg_pair 1 1 2 k1_ (seg_pair 2 1 1 k2_ k3_)))
 rw [seg_all hlen] at hk
 exact ⟨⟨x0, x1, x2, x3⟩, hk, b0_, b1_, b2_, b3_⟩
def B24 (x : S24) : Prop := ((Lit.int .i64 x.f0).wf = true) ∧ ((x.f1.length ≤ maxLen ∧ ∀ y_ ∈ x.f1, B42 y_)) ∧ ((x.f2.length ≤ maxLen ∧ ∀ y_ ∈ x.f2, B42 y_))
theorem rd24_ (W : World) : RdOf Try.prog W k24 24 B24 := by
 intro H enc fuel cs y h
 obtain ⟨xs, n, _, _, hlen, hxl, hg⟩ := DataW.trod_struct Try.underlying24 h
 have hlen : cs.length = 3 := hlen.trans (by kernel_rfl)
 have hxl : xs.length = 3 := hxl
 obtain ⟨y0, e0⟩ := nth_some (j := 0) hxl (by omega)
 have g0 : DataW.trod enc Try.prog W 0 (fun _ => true) true n 3 ((cs.drop 0).take (Try.prog.cellsOf 3)) = xs[0]? := hg 0 _ rfl
 have z0 : Try.prog.cellsOf 3 = 1 := by kernel_rfl
 rw [z0, e0] at g0
 obtain ⟨x0, k0_, b0_⟩ := (RdOf.int Try.underlying3) enc n _ _ g0
 obtain ⟨y1, e1⟩ := nth_some (j := 1) hxl (by omega)
 have g1 : DataW.trod enc Try.prog W 0 (fun _ => true) true n 22 ((cs.drop 1).take (Try.prog.cellsOf 22)) = xs[1]? := hg 1 _ rfl
 have z1 : Try.prog.cellsOf 22 = 1 := by kernel_rfl
 rw [z1, e1] at g1
 obtain ⟨x1, k1_, b1_⟩ := (RdOf.slice Try.underlying22 (by kernel_rfl) (rd42_ W)) enc n _ _ g1
 obtain ⟨y2, e2⟩ := nth_some (j := 2) hxl (by omega)
 have g2 : DataW.trod enc Try.prog W 0 (fun _ => true) true n 22 ((cs.drop 2).take (Try.prog.cellsOf 22)) = xs[2]? := hg 2 _ rfl
 have z2 : Try.prog.cellsOf 22 = 1 := by kernel_rfl
 rw [z2, e2] at g2
 obtain ⟨x2, k2_, b2_⟩ := (RdOf.slice Try.underlying22 (by kernel_rfl) (rd42_ W)) enc n _ _ g2
 have hk := (seg_pair 0 1 2 k0_ (seg_pair 1 1 1 k1_ k2_))
 rw [seg_all hlen] at hk
 exact ⟨⟨x0, x1, x2⟩, hk, b0_, b1_, b2_⟩

/-- THE ONE PURE STATEMENT of laws_FnExactLockFirm: yours. -/
def laws_FnExactLockFirm.Pure : Prop := ∀ (a0_0 : Int) (l0_1 : List (S42)) (l0_2 : List (S42)) (a1 : Int) (a2 : Int), (B24 (⟨a0_0, l0_1, l0_2⟩ : S24)) → ((Lit.int .i64 a1).wf = true) → ((Lit.int .i64 a2).wf = true) → ∃ k, laws_FnExactLockFirm.f k a0_0 l0_1 l0_2 a1 a2 = some true
theorem laws_FnExactLockFirm.walk (P : laws_FnExactLockFirm.Pure) (a0_0 : Int) (A0_1 : Option Addr) (c0_1 : Nat) (l0_1 : List (S42)) (A0_2 : Option Addr) (c0_2 : Nat) (l0_2 : List (S42)) (a1 : Int) (a2 : Int) (w : World) (hr0_1 : Kd.C k42 w A0_1 l0_1.length l0_1) (hc0_1 : l0_1.length ≤ c0_1) (hr0_2 : Kd.C k42 w A0_2 l0_2.length l0_2) (hc0_2 : l0_2.length ≤ c0_2) (w0 : B24 (⟨a0_0, l0_1, l0_2⟩ : S24)) (w1 : (Lit.int .i64 a1).wf = true) (w2 : (Lit.int .i64 a2).wf = true) :
 Calls Try.prog 4 #[.agg #[.int .i64 a0_0, .slice A0_1 l0_1.length c0_1, .slice A0_2 l0_2.length c0_2], .int .i64 a1, .int .i64 a2] w fun e w' => e = .returned (.bool true) ∧ Below w.heap.size w w' := by
 obtain ⟨k, h⟩ := P a0_0 l0_1 l0_2 a1 a2 w0 w1 w2
 refine (laws_FnExactLockFirm.calls k a0_0 A0_1 c0_1 l0_1 A0_2 c0_2 l0_2 a1 a2 true w hr0_1 hc0_1 hr0_2 hc0_2 rfl h).mono ?_
 rintro e w' ⟨rfl, hd⟩
 exact ⟨rfl, hd⟩

end Go.Proofs.Ytjldpnhlegbjkaa.PZ
