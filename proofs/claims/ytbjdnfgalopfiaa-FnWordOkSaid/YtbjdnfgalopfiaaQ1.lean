/- A deal is drawn (l71Sim's deal), a world to draw in is made (l72Sim). -/
import Derived.Test.YtbjdnfgalopfiaaPDx0
import Derived.Test.YtbjdnfgalopfiaaPDx20
import Derived.Test.YtbjdnfgalopfiaaPDx28
import Derived.Test.YtbjdnfgalopfiaaPDx4
import Derived.Deep.Cut
namespace Go.Proofs.Ytbjdnfgalopfiaa.PD
open Go.RowKit Go.Proofs.YtbjdnfgalopfiaaW.PrintWords Go.Proofs.YtbjdnfgalopfiaaW.PrintLast Go.Proofs.YtbjdnfgalopfiaaW.PrintMore
attribute [local go_sem] max2_int min2_int max_two min_two max_three min_three max_four min_four
set_option linter.unusedVariables false
set_option linter.unusedSimpArgs false
theorem info119 : (Try.prog.info? 119).map (fun i => (i.zero, i.size, i.bytes)) = some (some (.agg #[(.int .i64 0), (.int .i64 0), (.int .i64 0)]), 3, 24) := by kernel_rfl
theorem simKeepRow {w0 W W' : World} {g : Nat} {b : List Int} {p : Int} {B : Nat} {v : Value} {z : List S119} {ok : Nat → Prop} (hi : IsS83 w0 W g b p) (h : Kd.R k119 119 W B ok v z) (hk : KeepBut W W' g none) : Kd.R k119 119 W' B ok v z :=
 Kd.R_mono (Kd.R_keep (IsS83.apart hi h (by decide)) hk (fun _ h => h.2)) (fun _ h => h.1)
def dealNum (k : Nat) (b : List Int) (p d : Int) : Option (Int × Int) := if d = 2 then spec_l6Rd_pick.f k b p 40 else if d = 3 then (spec_l6Rd_pick.f k b p 60).bind fun t => some (wrap64 (t.1 - 10), t.2) else if d = 4 then (spec_l6Rd_pick.f k b p 30).bind fun t => some (wrap64 (t.1 - 20), t.2) else some (0, p)
def dealDraw.l0 : Nat → List S119 → Int → List Int → Int → Option (List S119 × Int)
 | 0, _, _, _, _ => none
 | k + 1, z, n, b, p => if n > 0 then (spec_l6Rd_pick.f k b p 4).bind fun t1 => (spec_l6Rd_pick.f k b t1.2 32).bind fun t2 => (spec_l6Rd_pick.f k b t2.2 7).bind fun t3 => (if 0 ≤ t3.1 then (if t3.1 < 7 then (dealNum k b t3.2 (wrap64 (1 + t1.1))).bind fun t4 => (if z.length < 1000000 then dealDraw.l0 k (z ++ [⟨wrap64 (1 + t1.1), rd [0, 1, 4, 5, 8, 9, t2.1] t3.1, t4.1⟩]) (wrap64 (n - 1)) b t4.2 else none) else none) else none) else some (z, p)
def dealDraw.f (k : Nat) (b : List Int) (p : Int) : Option (List S119 × Int) := (spec_l6Rd_pick.f k b p 4).bind fun t => dealDraw.l0 k [] (wrap64 (1 + t.1)) b t.2
theorem dealNum_mono (k : Nat) (b : List Int) (p d : Int) : LeO (dealNum k b p d) (dealNum (k + 1) b p d) := by
 unfold dealNum
 exact LeO.ite (spec_l6Rd_pick.mono _ _ _ k) (LeO.ite (LeO.bind (spec_l6Rd_pick.mono _ _ _ k) (fun _ => LeO.refl _)) (LeO.ite (LeO.bind (spec_l6Rd_pick.mono _ _ _ k) (fun _ => LeO.refl _)) (LeO.refl _)))
theorem dealDraw.mono_l : ∀ k z n b p, LeO (dealDraw.l0 k z n b p) (dealDraw.l0 (k + 1) z n b p)
 | 0, z, n, b, p => LeO.none _
 | k + 1, z, n, b, p => by
  conv => lhs; unfold dealDraw.l0
  conv => rhs; unfold dealDraw.l0
  exact LeO.ite (LeO.bind (spec_l6Rd_pick.mono _ _ _ k) (fun t1 => LeO.bind (spec_l6Rd_pick.mono _ _ _ k) (fun t2 => LeO.bind (spec_l6Rd_pick.mono _ _ _ k) (fun t3 => LeO.ite (LeO.ite (LeO.bind (dealNum_mono k _ _ _) (fun t4 => LeO.ite (dealDraw.mono_l k _ _ _ _) (LeO.refl _))) (LeO.refl _)) (LeO.refl _))))) (LeO.refl _)
theorem dealDraw.mono (b : List Int) (p : Int) (k : Nat) : LeO (dealDraw.f k b p) (dealDraw.f (k + 1) b p) := LeO.bind (spec_l6Rd_pick.mono _ _ _ k) (fun _ => dealDraw.mono_l k _ _ _ _)
def dealDraw.T5 : Bool × List (List Nat × List Nat) := (true, [([], []), ([0], [0]), ([1], [1]), ([2], [2]), ([3], [3]), ([4], [4]), ([], []), ([6], [6]), ([7], [7]), ([8], [8]), ([9, 4], [9]), ([10], [10]), ([], []), ([12], [12]), ([13], [13]), ([14], [14]), ([15, 10], [15]), ([11, 16], [11, 16]), ([17], [17]), ([5, 18], [5, 18]), ([], []), ([20, 19, 16, 0, 1, 2, 3, 4, 5, 6, 7, 8, 9, 10, 11, 12, 13, 14, 15, 16, 17, 18, 19, 20], [19, 20])])
def dealDraw.B5 : List Nat := [0, 1, 3, 7, 15, 31, 0, 64, 192, 448, 991, 2015, 0, 4096, 12288, 28672, 63455, 131039, 262111, 524287, 0, 2097151]
theorem dealDraw.tab5 : rtab .any (opsOf Try.f69 5) = dealDraw.T5 := by kernel_rfl
theorem dealDraw.bits5 : waitsOk dealDraw.T5.2 dealDraw.B5 = true := by kernel_rfl

set_option maxHeartbeats 8000000 in
set_option maxRecDepth 100000 in
theorem dealDraw_calls (k g gs : Nat) (bs : List Int) (p : Int) (r1 : List S119) (r2 : Int) (w0 w : World) (hI : IsS83 w0 w g bs p) (hB : Below w0.heap.size w0 w) (hs : w.cell? ⟨gs, 0, none⟩ = some (.pointer (some ⟨g, 0, none⟩))) (hn : gs ≠ g) (h : dealDraw.f k bs p = some (r1, r2)) :
 Calls Try.prog 69 #[.pointer (some ⟨gs, 0, none⟩)] w fun e w' => ∃ v : Value, e = .returned v ∧ Kd.R k119 119 w' w.heap.size (fun _ => True) v r1 ∧ IsS83 w0 w' g bs r2 ∧ Below w0.heap.size w0 w' ∧ KeepBut w w' g none := by
 have hu1 := Try.underlying119
 have hu2 := Try.underlying106
 have hsim := Aside0.mk hs
 have hne := Aside0.mk hn
 have I0 := Aside0.mk hI
 have KB := Aside0.mk (show KeepBut w w g none ∧ Below w0.heap.size w0 w from ⟨KeepBut.refl w g none, hB⟩)
 have hle := Aside0.mk hB.size
 unfold dealDraw.f at h
 obtain ⟨⟨t, p1⟩, A1, H⟩ := Option.bind_eq_some_iff.mp h
 have A1 := Aside0.mk A1
 replace H := Aside0.mk H
 clear hs hn hI hB h
 go_enter Try.func69, Try.ntmps69
 go_wp2_with ((with_reducible refine gate_dst (N := 6) rfl ?_); refine Kd.R_lit k119 w.heap.size 119 ?hg (N := 6) ?hd (xs := ([] : List S119)) (inner := []) (ok := fun _ => True) (okp := fun _ => True) ?hr ?hp (fun _ hk => hk) trivial (Below.refl _ _) (Nat.le_refl _) (by simp) ?_; (case hd => rfl); (case hg => rfl); (case hr => first | (go_simp; done) | (go_simp; rfl)); (case hp => exact (Reps.none _ _)); intro v6 w3 ho hb hg_ hnew_; have RZ := Aside0.mk ho; have n0_ := Aside0.mk (IsS83.below I0.out hb); have n1_ := Aside0.mk (show KeepBut w w3 g none ∧ Below w0.heap.size w0 w3 from ⟨KeepBut.of_below hb g none, below_step KB.out.2 hb⟩); clear I0 KB; have I0 := n0_; have KB := n1_; clear n0_ n1_ hg_ hnew_ ho hb; have hsw : w3.cell? ⟨gs, 0, none⟩ = some (.pointer (some ⟨g, 0, none⟩)) := keep_cell KB.out.1 hsim.out hne.out)
 refine (spec_l6Rd_pick.calls k g bs p 4 t p1 w0 _ I0.out KB.out.2 A1.out).mono ?_
 rintro e w4 ⟨rfl, hi, hb, hk⟩
 have n0_ := Aside0.mk (simKeepRow I0.out RZ.out hk)
 have n1_ := Aside0.mk (show KeepBut w w4 g none ∧ Below w0.heap.size w0 w4 from ⟨KB.out.1.trans hk (.inl rfl), hb⟩)
 have n2_ := Aside0.mk hi
 clear RZ KB I0 hsw
 have RZ := n0_
 have KB := n1_
 have I0 := n2_
 clear n0_ n1_ n2_ hi hb hk
 go_wp2_with (fail)
 go_loopg [3, 4] k (fun kq v3 v4 w' => ∃ (z : List S119) (n p0 : Int), v4 = .int .i64 n ∧ Aside0 (dealDraw.l0 kq z n bs p0 = some (r1, r2)) ∧ Aside0 (kq ≤ k) ∧ Aside0 (KeepBut w w' g none ∧ Below w0.heap.size w0 w') ∧ Aside0 (IsS83 w0 w' g bs p0) ∧ Aside0 (Kd.R k119 119 w' w.heap.size (fun _ => True) v3 z))
 case atStart => exact ⟨[], _, _, (by first | rfl | (simp; done) | (simp [*]; done)), H, ⟨Nat.le_refl _⟩, KB, I0, RZ⟩
 case round =>
  clear H KB I0 RZ
  obtain ⟨z, n, p0, rfl, HA, HK2, KB, I0, RZ⟩ := hrel
  cases gk with
  | zero => exact absurd HA.out (by simp [dealDraw.l0])
  | succ k2 =>
   have H := HA.out
   clear HA
   unfold dealDraw.l0 at H
   by_cases hn : n > 0
   ·rw [if_pos hn] at H
    obtain ⟨⟨t1, p1⟩, A1, H⟩ := Option.bind_eq_some_iff.mp H
    obtain ⟨⟨t2, p2⟩, A2, H⟩ := Option.bind_eq_some_iff.mp H
    obtain ⟨⟨t3, p3⟩, A3, H⟩ := Option.bind_eq_some_iff.mp H
    simp only at A2 A3 H
    by_cases h3 : 0 ≤ t3
    ·rw [if_pos h3] at H
     by_cases h7 : t3 < 7
     ·rw [if_pos h7] at H
      obtain ⟨⟨t4, p4⟩, A4, H⟩ := Option.bind_eq_some_iff.mp H
      simp only at H
      by_cases hz : z.length < 1000000
      ·rw [if_pos hz] at H
       replace A1 := Aside0.mk A1
       replace A2 := Aside0.mk A2
       replace A3 := Aside0.mk A3
       replace A4 := Aside0.mk A4
       have HN := Aside0.mk H
       clear H
       have LZ := Aside0.mk hz
       have pt3 := Aside0.mk (eq_true h3)
       have qt3 := Aside0.mk (eq_true h7)
       have hy := Aside0.mk (show #[Value.int .i64 0, .int .i64 1, .int .i64 4, .int .i64 5, .int .i64 8, .int .i64 9, .int .i64 t2][t3.toNat]? = some (.int .i64 (rd [0, 1, 4, 5, 8, 9, t2] t3)) from by
        have h8 : t3.toNat < 7 := by omega
        have key : ∀ j : Nat, j < 7 → #[Value.int .i64 0, .int .i64 1, .int .i64 4, .int .i64 5, .int .i64 8, .int .i64 9, .int .i64 t2][j]? = some (.int .i64 ([0, 1, 4, 5, 8, 9, t2].getD j 0)) := by
         intro j hj
         match j, hj with
         | 0, _ => rfl
         | 1, _ => rfl
         | 2, _ => rfl
         | 3, _ => rfl
         | 4, _ => rfl
         | 5, _ => rfl
         | 6, _ => rfl
        exact key t3.toNat h8)
       generalize rd [0, 1, 4, 5, 8, 9, t2] t3 = y at hy HN
       have hdn : decide (n > 0) = true := decide_eq_true hn
       have hdn2 : decide (0 < n) = true := decide_eq_true hn
       clear hn h3 h7 hz
       go_wp2_with (fail)
       replace KB := Aside0.mk (show KeepBut w wr.drew g none ∧ Below w0.heap.size w0 wr.drew from ⟨keep_drew KB.out.1, below_drew KB.out.2⟩)
       replace I0 := Aside0.mk (show IsS83 w0 wr.drew g bs p0 from I0.out.drew)
       replace RZ := Aside0.mk (Kd.R_drew RZ.out)
       refine start_ (n := 22) (S := fun w' => True) (ds := []) #[false, false, false, false, false, false, false, false, false, false, false, false, false, false, false, false, false, false, false, false, false, false] (by kernel_rfl) rfl rfl trivial (fun hHeld => ?_); refine with_tabW dealDraw.tab5 dealDraw.bits5 (fun HT_ HW_ => ?_)
       generalize hwd : wr.drew = wd at KB I0 RZ ⊢
       refine pure_ (i := 0) (N := some 17) (v := ?_) (a' := ?_) #[true, false, false, false, false, false, false, false, false, false, false, false, false, false, false, false, false, false, false, false, false, false] rfl rfl (any_of HT_.out (by kernel_rfl)) (fun _ _ _ h => h) (Or.inl ⟨by rfl, ?_⟩) ?_ ?_
       rotate_left
       ·intro w'
        go_simp
        with_reducible rfl
       rotate_left
       ·simp only [Act.put, List.setIfInBounds_toArray, List.set_cons_zero, List.set_cons_succ, i64_w, i32_w]
        rfl
       refine pure_ (i := 1) (N := some 18) (v := ?_) (a' := ?_) #[true, true, false, false, false, false, false, false, false, false, false, false, false, false, false, false, false, false, false, false, false, false] rfl rfl (any_of HT_.out (by kernel_rfl)) (fun _ _ _ h => h) (Or.inl ⟨by rfl, ?_⟩) ?_ ?_
       rotate_left
       ·intro w'
        go_simp
        with_reducible rfl
       rotate_left
       ·simp only [Act.put, List.setIfInBounds_toArray, List.set_cons_zero, List.set_cons_succ, i64_w, i32_w]
        rfl
       refine pure_ (i := 2) (N := some 19) (v := ?_) (a' := ?_) #[true, true, true, false, false, false, false, false, false, false, false, false, false, false, false, false, false, false, false, false, false, false] rfl rfl (any_of HT_.out (by kernel_rfl)) (fun _ _ _ h => h) (Or.inl ⟨by rfl, ?_⟩) ?_ ?_
       rotate_left
       ·intro w'
        go_simp
        with_reducible rfl
       rotate_left
       ·simp only [Act.put, List.setIfInBounds_toArray, List.set_cons_zero, List.set_cons_succ, i64_w, i32_w]
        rfl
       refine pure_ (i := 6) (N := some 23) (v := ?_) (a' := ?_) #[true, true, true, false, false, false, true, false, false, false, false, false, false, false, false, false, false, false, false, false, false, false] rfl rfl (any_of HT_.out (by kernel_rfl)) (fun _ _ _ h => h) (Or.inl ⟨by rfl, ?_⟩) ?_ ?_
       rotate_left
       ·intro w'
        go_simp
        with_reducible rfl
       rotate_left
       ·simp only [Act.put, List.setIfInBounds_toArray, List.set_cons_zero, List.set_cons_succ, i64_w, i32_w]
        rfl
       refine pure_ (i := 7) (N := some 24) (v := ?_) (a' := ?_) #[true, true, true, false, false, false, true, true, false, false, false, false, false, false, false, false, false, false, false, false, false, false] rfl rfl (any_of HT_.out (by kernel_rfl)) (fun _ _ _ h => h) (Or.inl ⟨by rfl, ?_⟩) ?_ ?_
       rotate_left
       ·intro w'
        go_simp
        with_reducible rfl
       rotate_left
       ·simp only [Act.put, List.setIfInBounds_toArray, List.set_cons_zero, List.set_cons_succ, i64_w, i32_w]
        rfl
       refine pure_ (i := 8) (N := some 25) (v := ?_) (a' := ?_) #[true, true, true, false, false, false, true, true, true, false, false, false, false, false, false, false, false, false, false, false, false, false] rfl rfl (any_of HT_.out (by kernel_rfl)) (fun _ _ _ h => h) (Or.inl ⟨by rfl, ?_⟩) ?_ ?_
       rotate_left
       ·intro w'
        go_simp
        with_reducible rfl
       rotate_left
       ·simp only [Act.put, List.setIfInBounds_toArray, List.set_cons_zero, List.set_cons_succ, i64_w, i32_w]
        rfl
       refine pure_ (i := 12) (N := some 29) (v := ?_) (a' := ?_) #[true, true, true, false, false, false, true, true, true, false, false, false, true, false, false, false, false, false, false, false, false, false] rfl rfl (any_of HT_.out (by kernel_rfl)) (fun _ _ _ h => h) (Or.inl ⟨by rfl, ?_⟩) ?_ ?_
       rotate_left
       ·intro w'
        go_simp
        with_reducible rfl
       rotate_left
       ·simp only [Act.put, List.setIfInBounds_toArray, List.set_cons_zero, List.set_cons_succ, i64_w, i32_w]
        rfl
       refine pure_ (i := 13) (N := some 30) (v := ?_) (a' := ?_) #[true, true, true, false, false, false, true, true, true, false, false, false, true, true, false, false, false, false, false, false, false, false] rfl rfl (any_of HT_.out (by kernel_rfl)) (fun _ _ _ h => h) (Or.inl ⟨by rfl, ?_⟩) ?_ ?_
       rotate_left
       ·intro w'
        go_simp
        with_reducible rfl
       rotate_left
       ·simp only [Act.put, List.setIfInBounds_toArray, List.set_cons_zero, List.set_cons_succ, i64_w, i32_w]
        rfl
       refine pure_ (i := 14) (N := some 31) (v := ?_) (a' := ?_) #[true, true, true, false, false, false, true, true, true, false, false, false, true, true, true, false, false, false, false, false, false, false] rfl rfl (any_of HT_.out (by kernel_rfl)) (fun _ _ _ h => h) (Or.inl ⟨by rfl, ?_⟩) ?_ ?_
       rotate_left
       ·intro w'
        go_simp
        with_reducible rfl
       rotate_left
       ·simp only [Act.put, List.setIfInBounds_toArray, List.set_cons_zero, List.set_cons_succ, i64_w, i32_w]
        rfl
       refine inv_at [3, 4, 5, 9, 10, 11, 15, 16, 17, 18, 19, 20, 21] (fun a0_ b a w' => ∃ (gx : Nat) (gl : Nat) (m11_ : Value) (m17_ : Value) (m20_ : Value), a = putSel a0_ b [(3, 20, .pointer (some ⟨g, 0, none⟩)), (4, 21, .int .i64 t1), (5, 22, .int .i64 (wrap64 (1 + t1))), (9, 26, .pointer (some ⟨g, 0, none⟩)), (10, 27, .int .i64 t2), (11, 28, m11_), (15, 32, .pointer (some ⟨g, 0, none⟩)), (16, 33, .int .i64 t3), (17, 34, m17_), (18, 35, .int .i64 y), (19, 36, .agg #[.int .i64 (wrap64 (1 + t1)), .int .i64 y, .int .i64 0]), (20, 5, m20_)] ∧ (KeepBut w w' g none ∧ Below w0.heap.size w0 w') ∧ (b 4 = false → IsS83 w0 w' g bs p0) ∧ (b 4 = true → b 10 = false → IsS83 w0 w' g bs p1) ∧ (b 10 = true → b 16 = false → IsS83 w0 w' g bs p2) ∧ (b 16 = true → IsS83 w0 w' g bs p3) ∧ (b 20 = false → Kd.R k119 119 w' w.heap.size (fun _ => True) u3 z) ∧ (b 20 = true → Kd.R k119 119 w' w.heap.size (fun k_ => True ∧ k_ ≠ gx) u3 z) ∧ (b 20 = true → b 21 = false → w'.heap[gx]? = some (.cells #[.int .i64 0, .int .i64 0, .int .i64 0] 119 (0, 0))) ∧ (b 20 = true → w.heap.size ≤ gx) ∧ (b 21 = true → w'.heap[gx]? = some (.cells #[.int .i64 (wrap64 (1 + t1)), .int .i64 y, .int .i64 0] 119 (0, 0))) ∧ (b 11 = true → w'.heap[gl]? = some (.cells #[.int .i64 0, .int .i64 1, .int .i64 4, .int .i64 5, .int .i64 8, .int .i64 9, .int .i64 t2] 3 (0, 0))) ∧ (b 11 = true → (m11_ : Value) = .slice (some ⟨gl, 0, none⟩) 7 7) ∧ (b 17 = true → (m17_ : Value) = .pointer (some ⟨gl, t3.toNat, none⟩)) ∧ (b 20 = true → (m20_ : Value) = .pointer (some ⟨gx, 0, none⟩))) HT_.out HW_.out (by kernel_rfl) (by kernel_rfl) ?_ ?_ ?_
       ·exact ⟨0, 0, .bool false, .bool false, .bool false, by simp only [putSel, Bool.false_eq_true, if_false], KB.out, fun _ => I0.out, fun h_ => absurd h_ (by decide), fun h_ => absurd h_ (by decide), fun h_ => absurd h_ (by decide), fun _ => RZ.out, fun h_ => absurd h_ (by decide), fun h_ => absurd h_ (by decide), fun h_ => absurd h_ (by decide), fun h_ => absurd h_ (by decide), fun h_ => absurd h_ (by decide), fun h_ => absurd h_ (by decide), fun h_ => absurd h_ (by decide), fun h_ => absurd h_ (by decide)⟩
       ·skip
        clear I0 KB RZ
        refine steps_cons ?_ ?_
        ·rintro b a w' ⟨gx, gl, m11_, m17_, m20_, ha, Q_KB, Q_I0, Q_I1, Q_I2, Q_I3, Q_RZ, Q_RX, Q_BX, Q_GX, Q_BY, Q_BL, Q_X11_, Q_X17_, Q_X20_⟩ hb_ hon hoff
         refine ⟨_, rfl, fun K hK => ?_⟩
         have e19 : a.tmps[19]? = some (.pointer (some ⟨gs, 0, none⟩)) := by rw [ha]; exact (putSel_off rfl).trans rfl
         replace ha := Aside0.mk ha
         have KB := Aside0.mk Q_KB
         have I0 := Aside0.mk (Q_I0 (hoff 4 (by kernel_rfl)))
         have hs_ : w'.cell? ⟨gs, 0, none⟩ = some (.pointer (some ⟨g, 0, none⟩)) := keep_cell KB.out.1 hsim.out hne.out
         refine value_ (w1 := w') (v := .pointer (some ⟨g, 0, none⟩)) (by rfl) rfl ?_ ?_
         ·go_simp
          (try simp only [i64_w])
          try rfl
         refine hK.out _ _ ⟨gx, gl, m11_, m17_, m20_, (by rw [ha.out]; exact putSel_upk 0 hb_ rfl rfl rfl), Q_KB, Q_I0, fun h0_ _ => absurd ((hoff 4 (by kernel_rfl)).symm.trans h0_) (by decide), fun h0_ _ => absurd ((hoff 10 (by kernel_rfl)).symm.trans h0_) (by decide), fun h0_ => absurd ((hoff 16 (by kernel_rfl)).symm.trans h0_) (by decide), Q_RZ, Q_RX, Q_BX, Q_GX, fun h0_ => absurd ((hoff 21 (by kernel_rfl)).symm.trans h0_) (by decide), fun h0_ => absurd ((hoff 11 (by kernel_rfl)).symm.trans h0_) (by decide), fun h0_ => absurd ((hoff 11 (by kernel_rfl)).symm.trans h0_) (by decide), fun h0_ => absurd ((hoff 17 (by kernel_rfl)).symm.trans h0_) (by decide), Q_X20_⟩
        refine steps_cons ?_ ?_
        ·rintro b a w' ⟨gx, gl, m11_, m17_, m20_, ha, Q_KB, Q_I0, Q_I1, Q_I2, Q_I3, Q_RZ, Q_RX, Q_BX, Q_GX, Q_BY, Q_BL, Q_X11_, Q_X17_, Q_X20_⟩ hb_ hon hoff
         refine ⟨_, rfl, fun K hK => ?_⟩
         have e20 : a.tmps[20]? = some (.pointer (some ⟨g, 0, none⟩)) := by rw [ha]; exact putSel_on (e := (3, 20, .pointer (some ⟨g, 0, none⟩))) 0 rfl rfl (hon 3 (by kernel_rfl)) rfl
         replace ha := Aside0.mk ha
         have KB := Aside0.mk Q_KB
         have I0 := Aside0.mk (Q_I0 hb_)
         refine goes_ Try.func58 (by kernel_rfl) rfl #[.pointer (some ⟨g, 0, none⟩), .int .i64 4] (by rfl) rfl rfl (by first | (simp only [List.map_toArray, List.map_cons, List.map_nil, Act.eval, Array.getD_eq_getD_getElem?, Option.getD_some, e20]; done) | (simp only [List.map_toArray, List.map_cons, List.map_nil, Act.eval, Array.getD_eq_getD_getElem?, Option.getD_some, e20]; rfl)) ?_
         with_reducible refine (spec_l6Rd_pick.calls k2 g bs p0 4 t1 p1 w0 w' I0.out KB.out.2 A1.out).mono ?_
         rintro e w3 ⟨rfl, hi, hb, hk⟩
         refine ⟨_, rfl, ?_⟩
         refine hK.out _ _ ⟨gx, gl, m11_, m17_, m20_, (by rw [ha.out]; exact putSel_upk 1 hb_ rfl rfl rfl), ⟨KB.out.1.trans hk (.inl rfl), hb⟩, fun h0_ => absurd ((up_self b 4).symm.trans h0_) (by decide), fun _ _ => hi, fun h0_ _ => absurd ((hoff 10 (by kernel_rfl)).symm.trans h0_) (by decide), fun h0_ => absurd ((hoff 16 (by kernel_rfl)).symm.trans h0_) (by decide), fun h0_ => simKeepRow I0.out (Q_RZ h0_) hk, fun h0_ => simKeepRow I0.out (Q_RX h0_) hk, fun h0_ h1_ => hk.blk (Q_BX h0_ h1_) (Ne.symm (IsS83.ne_blk I0.out (Q_BX h0_ h1_) (by decide))) (by simp), fun h0_ => (Q_GX h0_), fun h0_ => absurd ((hoff 21 (by kernel_rfl)).symm.trans h0_) (by decide), fun h0_ => absurd ((hoff 11 (by kernel_rfl)).symm.trans h0_) (by decide), fun h0_ => absurd ((hoff 11 (by kernel_rfl)).symm.trans h0_) (by decide), fun h0_ => absurd ((hoff 17 (by kernel_rfl)).symm.trans h0_) (by decide), Q_X20_⟩
        refine steps_cons ?_ ?_
        ·rintro b a w' ⟨gx, gl, m11_, m17_, m20_, ha, Q_KB, Q_I0, Q_I1, Q_I2, Q_I3, Q_RZ, Q_RX, Q_BX, Q_GX, Q_BY, Q_BL, Q_X11_, Q_X17_, Q_X20_⟩ hb_ hon hoff
         refine ⟨_, rfl, fun K hK => ?_⟩
         have e21 : a.tmps[21]? = some (.int .i64 t1) := by rw [ha]; exact putSel_on (e := (4, 21, .int .i64 t1)) 1 rfl rfl (hon 4 (by kernel_rfl)) rfl
         replace ha := Aside0.mk ha
         have KB := Aside0.mk Q_KB
         refine value_ (w1 := w') (v := .int .i64 (wrap64 (1 + t1))) (by rfl) rfl ?_ ?_
         ·go_simp
          (try simp only [i64_w])
          try rfl
         refine hK.out _ _ ⟨gx, gl, m11_, m17_, m20_, (by rw [ha.out]; exact putSel_upk 2 hb_ rfl rfl rfl), Q_KB, fun h0_ => absurd ((hon 4 (by kernel_rfl)).symm.trans h0_) (by decide), Q_I1, Q_I2, Q_I3, Q_RZ, Q_RX, Q_BX, Q_GX, fun h0_ => absurd ((hoff 21 (by kernel_rfl)).symm.trans h0_) (by decide), Q_BL, Q_X11_, Q_X17_, Q_X20_⟩
        refine steps_cons ?_ ?_
        ·rintro b a w' ⟨gx, gl, m11_, m17_, m20_, ha, Q_KB, Q_I0, Q_I1, Q_I2, Q_I3, Q_RZ, Q_RX, Q_BX, Q_GX, Q_BY, Q_BL, Q_X11_, Q_X17_, Q_X20_⟩ hb_ hon hoff
         refine ⟨_, rfl, fun K hK => ?_⟩
         have e25 : a.tmps[25]? = some (.pointer (some ⟨gs, 0, none⟩)) := by rw [ha]; exact (putSel_off rfl).trans rfl
         replace ha := Aside0.mk ha
         have KB := Aside0.mk Q_KB
         have hs_ : w'.cell? ⟨gs, 0, none⟩ = some (.pointer (some ⟨g, 0, none⟩)) := keep_cell KB.out.1 hsim.out hne.out
         refine value_ (w1 := w') (v := .pointer (some ⟨g, 0, none⟩)) (by rfl) rfl ?_ ?_
         ·go_simp
          (try simp only [i64_w])
          try rfl
         refine hK.out _ _ ⟨gx, gl, m11_, m17_, m20_, (by rw [ha.out]; exact putSel_upk 3 hb_ rfl rfl rfl), Q_KB, Q_I0, Q_I1, fun h0_ _ => absurd ((hoff 10 (by kernel_rfl)).symm.trans h0_) (by decide), fun h0_ => absurd ((hoff 16 (by kernel_rfl)).symm.trans h0_) (by decide), Q_RZ, Q_RX, Q_BX, Q_GX, fun h0_ => absurd ((hoff 21 (by kernel_rfl)).symm.trans h0_) (by decide), fun h0_ => absurd ((hoff 11 (by kernel_rfl)).symm.trans h0_) (by decide), fun h0_ => absurd ((hoff 11 (by kernel_rfl)).symm.trans h0_) (by decide), fun h0_ => absurd ((hoff 17 (by kernel_rfl)).symm.trans h0_) (by decide), Q_X20_⟩
        refine steps_cons ?_ ?_
        ·rintro b a w' ⟨gx, gl, m11_, m17_, m20_, ha, Q_KB, Q_I0, Q_I1, Q_I2, Q_I3, Q_RZ, Q_RX, Q_BX, Q_GX, Q_BY, Q_BL, Q_X11_, Q_X17_, Q_X20_⟩ hb_ hon hoff
         refine ⟨_, rfl, fun K hK => ?_⟩
         have e26 : a.tmps[26]? = some (.pointer (some ⟨g, 0, none⟩)) := by rw [ha]; exact putSel_on (e := (9, 26, .pointer (some ⟨g, 0, none⟩))) 3 rfl rfl (hon 9 (by kernel_rfl)) rfl
         replace ha := Aside0.mk ha
         have KB := Aside0.mk Q_KB
         have I1 := Aside0.mk (Q_I1 (hon 4 (by kernel_rfl)) hb_)
         refine goes_ Try.func58 (by kernel_rfl) rfl #[.pointer (some ⟨g, 0, none⟩), .int .i64 32] (by rfl) rfl rfl (by first | (simp only [List.map_toArray, List.map_cons, List.map_nil, Act.eval, Array.getD_eq_getD_getElem?, Option.getD_some, e26]; done) | (simp only [List.map_toArray, List.map_cons, List.map_nil, Act.eval, Array.getD_eq_getD_getElem?, Option.getD_some, e26]; rfl)) ?_
         with_reducible refine (spec_l6Rd_pick.calls k2 g bs p1 32 t2 p2 w0 w' I1.out KB.out.2 A2.out).mono ?_
         rintro e w3 ⟨rfl, hi, hb, hk⟩
         refine ⟨_, rfl, ?_⟩
         refine hK.out _ _ ⟨gx, gl, m11_, m17_, m20_, (by rw [ha.out]; exact putSel_upk 4 hb_ rfl rfl rfl), ⟨KB.out.1.trans hk (.inl rfl), hb⟩, fun h0_ => absurd ((hon 4 (by kernel_rfl)).symm.trans h0_) (by decide), fun _ h1_ => absurd ((up_self b 10).symm.trans h1_) (by decide), fun _ _ => hi, fun h0_ => absurd ((hoff 16 (by kernel_rfl)).symm.trans h0_) (by decide), fun h0_ => simKeepRow I1.out (Q_RZ h0_) hk, fun h0_ => simKeepRow I1.out (Q_RX h0_) hk, fun h0_ h1_ => hk.blk (Q_BX h0_ h1_) (Ne.symm (IsS83.ne_blk I1.out (Q_BX h0_ h1_) (by decide))) (by simp), fun h0_ => (Q_GX h0_), fun h0_ => absurd ((hoff 21 (by kernel_rfl)).symm.trans h0_) (by decide), fun h0_ => absurd ((hoff 11 (by kernel_rfl)).symm.trans h0_) (by decide), fun h0_ => absurd ((hoff 11 (by kernel_rfl)).symm.trans h0_) (by decide), fun h0_ => absurd ((hoff 17 (by kernel_rfl)).symm.trans h0_) (by decide), Q_X20_⟩
        refine steps_cons ?_ ?_
        ·rintro b a w' ⟨gx, gl, m11_, m17_, m20_, ha, Q_KB, Q_I0, Q_I1, Q_I2, Q_I3, Q_RZ, Q_RX, Q_BX, Q_GX, Q_BY, Q_BL, Q_X11_, Q_X17_, Q_X20_⟩ hb_ hon hoff
         refine ⟨_, rfl, fun K hK => ?_⟩
         have e27 : a.tmps[27]? = some (.int .i64 t2) := by rw [ha]; exact putSel_on (e := (10, 27, .int .i64 t2)) 4 rfl rfl (hon 10 (by kernel_rfl)) rfl
         replace ha := Aside0.mk ha
         have KB := Aside0.mk Q_KB
         refine value_ (w1 := ?_) (v := ?_) (by rfl) rfl ?_ ?_
         rotate_left 2
         ·go_simp
          constructor
          ·rfl
          ·rfl
         refine hK.out _ _ ⟨gx, w'.heap.size, (.slice (some ⟨w'.heap.size, 0, none⟩) 7 7), m17_, m20_, (by rw [ha.out]; exact putSel_upk 5 hb_ rfl rfl rfl), ⟨keep_alloc KB.out.1 _, KB.out.2.alloc KB.out.2.size _⟩, fun h0_ => absurd ((hon 4 (by kernel_rfl)).symm.trans h0_) (by decide), fun _ h1_ => absurd ((hon 10 (by kernel_rfl)).symm.trans h1_) (by decide), fun h0_ h1_ => (Q_I2 h0_ h1_).alloc _, fun h0_ => (Q_I3 h0_).alloc _, fun h0_ => Kd.R_alloc (Q_RZ h0_) _, fun h0_ => Kd.R_alloc (Q_RX h0_) _, fun h0_ h1_ => blk_alloc (Q_BX h0_ h1_) _, fun h0_ => (Q_GX h0_), fun h0_ => absurd ((hoff 21 (by kernel_rfl)).symm.trans h0_) (by decide), fun _ => blk_new w' _, fun _ => rfl, fun h0_ => absurd ((hoff 17 (by kernel_rfl)).symm.trans h0_) (by decide), Q_X20_⟩
        refine steps_cons ?_ ?_
        ·rintro b a w' ⟨gx, gl, m11_, m17_, m20_, ha, Q_KB, Q_I0, Q_I1, Q_I2, Q_I3, Q_RZ, Q_RX, Q_BX, Q_GX, Q_BY, Q_BL, Q_X11_, Q_X17_, Q_X20_⟩ hb_ hon hoff
         refine ⟨_, rfl, fun K hK => ?_⟩
         have e31 : a.tmps[31]? = some (.pointer (some ⟨gs, 0, none⟩)) := by rw [ha]; exact (putSel_off rfl).trans rfl
         replace ha := Aside0.mk ha
         have KB := Aside0.mk Q_KB
         have hs_ : w'.cell? ⟨gs, 0, none⟩ = some (.pointer (some ⟨g, 0, none⟩)) := keep_cell KB.out.1 hsim.out hne.out
         refine value_ (w1 := w') (v := .pointer (some ⟨g, 0, none⟩)) (by rfl) rfl ?_ ?_
         ·go_simp
          (try simp only [i64_w])
          try rfl
         refine hK.out _ _ ⟨gx, gl, m11_, m17_, m20_, (by rw [ha.out]; exact putSel_upk 6 hb_ rfl rfl rfl), Q_KB, Q_I0, Q_I1, Q_I2, fun h0_ => absurd ((hoff 16 (by kernel_rfl)).symm.trans h0_) (by decide), Q_RZ, Q_RX, Q_BX, Q_GX, fun h0_ => absurd ((hoff 21 (by kernel_rfl)).symm.trans h0_) (by decide), Q_BL, Q_X11_, fun h0_ => absurd ((hoff 17 (by kernel_rfl)).symm.trans h0_) (by decide), Q_X20_⟩
        refine steps_cons ?_ ?_
        ·rintro b a w' ⟨gx, gl, m11_, m17_, m20_, ha, Q_KB, Q_I0, Q_I1, Q_I2, Q_I3, Q_RZ, Q_RX, Q_BX, Q_GX, Q_BY, Q_BL, Q_X11_, Q_X17_, Q_X20_⟩ hb_ hon hoff
         refine ⟨_, rfl, fun K hK => ?_⟩
         have e32 : a.tmps[32]? = some (.pointer (some ⟨g, 0, none⟩)) := by rw [ha]; exact putSel_on (e := (15, 32, .pointer (some ⟨g, 0, none⟩))) 6 rfl rfl (hon 15 (by kernel_rfl)) rfl
         replace ha := Aside0.mk ha
         have KB := Aside0.mk Q_KB
         have I2 := Aside0.mk (Q_I2 (hon 10 (by kernel_rfl)) hb_)
         refine goes_ Try.func58 (by kernel_rfl) rfl #[.pointer (some ⟨g, 0, none⟩), .int .i64 7] (by rfl) rfl rfl (by first | (simp only [List.map_toArray, List.map_cons, List.map_nil, Act.eval, Array.getD_eq_getD_getElem?, Option.getD_some, e32]; done) | (simp only [List.map_toArray, List.map_cons, List.map_nil, Act.eval, Array.getD_eq_getD_getElem?, Option.getD_some, e32]; rfl)) ?_
         with_reducible refine (spec_l6Rd_pick.calls k2 g bs p2 7 t3 p3 w0 w' I2.out KB.out.2 A3.out).mono ?_
         rintro e w3 ⟨rfl, hi, hb, hk⟩
         refine ⟨_, rfl, ?_⟩
         refine hK.out _ _ ⟨gx, gl, m11_, m17_, m20_, (by rw [ha.out]; exact putSel_upk 7 hb_ rfl rfl rfl), ⟨KB.out.1.trans hk (.inl rfl), hb⟩, fun h0_ => absurd ((hon 4 (by kernel_rfl)).symm.trans h0_) (by decide), fun _ h1_ => absurd ((hon 10 (by kernel_rfl)).symm.trans h1_) (by decide), fun _ h1_ => absurd ((up_self b 16).symm.trans h1_) (by decide), fun _ => hi, fun h0_ => simKeepRow I2.out (Q_RZ h0_) hk, fun h0_ => simKeepRow I2.out (Q_RX h0_) hk, fun h0_ h1_ => hk.blk (Q_BX h0_ h1_) (Ne.symm (IsS83.ne_blk I2.out (Q_BX h0_ h1_) (by decide))) (by simp), fun h0_ => (Q_GX h0_), fun h0_ => absurd ((hoff 21 (by kernel_rfl)).symm.trans h0_) (by decide), fun h0_ => hk.blk (Q_BL h0_) (Ne.symm (IsS83.ne_blk I2.out (Q_BL h0_) (by decide))) (by simp), Q_X11_, fun h0_ => absurd ((hoff 17 (by kernel_rfl)).symm.trans h0_) (by decide), Q_X20_⟩
        refine steps_cons ?_ ?_
        ·rintro b a w' ⟨gx, gl, m11_, m17_, m20_, ha, Q_KB, Q_I0, Q_I1, Q_I2, Q_I3, Q_RZ, Q_RX, Q_BX, Q_GX, Q_BY, Q_BL, Q_X11_, Q_X17_, Q_X20_⟩ hb_ hon hoff
         refine ⟨_, rfl, fun K hK => ?_⟩
         have e28 : a.tmps[28]? = some (m11_) := by rw [ha]; exact putSel_on (e := (11, 28, m11_)) 5 rfl rfl (hon 11 (by kernel_rfl)) rfl
         rw [Q_X11_ (hon 11 (by kernel_rfl))] at e28
         have e33 : a.tmps[33]? = some (.int .i64 t3) := by rw [ha]; exact putSel_on (e := (16, 33, .int .i64 t3)) 7 rfl rfl (hon 16 (by kernel_rfl)) rfl
         replace ha := Aside0.mk ha
         have KB := Aside0.mk Q_KB
         have I3 := Aside0.mk (Q_I3 (hon 16 (by kernel_rfl)))
         have BL := Aside0.mk (Q_BL (hon 11 (by kernel_rfl)))
         have p3_ := pt3.out
         have q3_ := qt3.out
         refine value_ (w1 := w') (v := .pointer (some ⟨gl, t3.toNat, none⟩)) (by rfl) rfl ?_ ?_
         ·go_simp
          (try simp only [i64_w])
          try rfl
         refine hK.out _ _ ⟨gx, gl, m11_, (.pointer (some ⟨gl, t3.toNat, none⟩)), m20_, (by rw [ha.out]; exact putSel_upk 8 hb_ rfl rfl rfl), Q_KB, fun h0_ => absurd ((hon 4 (by kernel_rfl)).symm.trans h0_) (by decide), fun _ h1_ => absurd ((hon 10 (by kernel_rfl)).symm.trans h1_) (by decide), fun _ h1_ => absurd ((hon 16 (by kernel_rfl)).symm.trans h1_) (by decide), Q_I3, Q_RZ, Q_RX, Q_BX, Q_GX, fun h0_ => absurd ((hoff 21 (by kernel_rfl)).symm.trans h0_) (by decide), Q_BL, Q_X11_, fun _ => rfl, Q_X20_⟩
        refine steps_cons ?_ ?_
        ·rintro b a w' ⟨gx, gl, m11_, m17_, m20_, ha, Q_KB, Q_I0, Q_I1, Q_I2, Q_I3, Q_RZ, Q_RX, Q_BX, Q_GX, Q_BY, Q_BL, Q_X11_, Q_X17_, Q_X20_⟩ hb_ hon hoff
         refine ⟨_, rfl, fun K hK => ?_⟩
         have e34 : a.tmps[34]? = some (m17_) := by rw [ha]; exact putSel_on (e := (17, 34, m17_)) 8 rfl rfl (hon 17 (by kernel_rfl)) rfl
         rw [Q_X17_ (hon 17 (by kernel_rfl))] at e34
         replace ha := Aside0.mk ha
         have KB := Aside0.mk Q_KB
         have I3 := Aside0.mk (Q_I3 (hon 16 (by kernel_rfl)))
         have BL := Aside0.mk (Q_BL (hon 11 (by kernel_rfl)))
         have hl_ : w'.cell? ⟨gl, t3.toNat, none⟩ = some (.int .i64 y) := (blk_cell BL.out t3.toNat).trans hy.out
         refine value_ (w1 := w') (v := .int .i64 y) (by rfl) rfl ?_ ?_
         ·go_simp
          (try simp only [i64_w])
          try rfl
         refine hK.out _ _ ⟨gx, gl, m11_, m17_, m20_, (by rw [ha.out]; exact putSel_upk 9 hb_ rfl rfl rfl), Q_KB, fun h0_ => absurd ((hon 4 (by kernel_rfl)).symm.trans h0_) (by decide), fun _ h1_ => absurd ((hon 10 (by kernel_rfl)).symm.trans h1_) (by decide), fun _ h1_ => absurd ((hon 16 (by kernel_rfl)).symm.trans h1_) (by decide), Q_I3, Q_RZ, Q_RX, Q_BX, Q_GX, fun h0_ => absurd ((hoff 21 (by kernel_rfl)).symm.trans h0_) (by decide), Q_BL, Q_X11_, Q_X17_, Q_X20_⟩
        refine steps_cons ?_ ?_
        ·rintro b a w' ⟨gx, gl, m11_, m17_, m20_, ha, Q_KB, Q_I0, Q_I1, Q_I2, Q_I3, Q_RZ, Q_RX, Q_BX, Q_GX, Q_BY, Q_BL, Q_X11_, Q_X17_, Q_X20_⟩ hb_ hon hoff
         refine ⟨_, rfl, fun K hK => ?_⟩
         have e22 : a.tmps[22]? = some (.int .i64 (wrap64 (1 + t1))) := by rw [ha]; exact putSel_on (e := (5, 22, .int .i64 (wrap64 (1 + t1)))) 2 rfl rfl (hon 5 (by kernel_rfl)) rfl
         have e35 : a.tmps[35]? = some (.int .i64 y) := by rw [ha]; exact putSel_on (e := (18, 35, .int .i64 y)) 9 rfl rfl (hon 18 (by kernel_rfl)) rfl
         replace ha := Aside0.mk ha
         have KB := Aside0.mk Q_KB
         have I3 := Aside0.mk (Q_I3 (hon 16 (by kernel_rfl)))
         have BL := Aside0.mk (Q_BL (hon 11 (by kernel_rfl)))
         refine value_ (w1 := w') (v := .agg #[.int .i64 (wrap64 (1 + t1)), .int .i64 y, .int .i64 0]) (by rfl) rfl ?_ ?_
         ·go_simp
          (try simp only [i64_w])
          try rfl
         refine hK.out _ _ ⟨gx, gl, m11_, m17_, m20_, (by rw [ha.out]; exact putSel_upk 10 hb_ rfl rfl rfl), Q_KB, fun h0_ => absurd ((hon 4 (by kernel_rfl)).symm.trans h0_) (by decide), fun _ h1_ => absurd ((hon 10 (by kernel_rfl)).symm.trans h1_) (by decide), fun _ h1_ => absurd ((hon 16 (by kernel_rfl)).symm.trans h1_) (by decide), Q_I3, Q_RZ, Q_RX, Q_BX, Q_GX, fun h0_ => absurd ((hoff 21 (by kernel_rfl)).symm.trans h0_) (by decide), Q_BL, Q_X11_, Q_X17_, Q_X20_⟩
        refine steps_cons ?_ ?_
        ·rintro b a w' ⟨gx, gl, m11_, m17_, m20_, ha, Q_KB, Q_I0, Q_I1, Q_I2, Q_I3, Q_RZ, Q_RX, Q_BX, Q_GX, Q_BY, Q_BL, Q_X11_, Q_X17_, Q_X20_⟩ hb_ hon hoff
         refine ⟨_, rfl, fun K hK => ?_⟩
         replace ha := Aside0.mk ha
         have KB := Aside0.mk Q_KB
         have RZ := Aside0.mk (Q_RZ hb_)
         refine value_ (w1 := ?_) (v := ?_) (by rfl) rfl ?_ ?_
         rotate_left 2
         ·go_simp
          constructor
          ·rfl
          ·rfl
         refine hK.out _ _ ⟨w'.heap.size, gl, m11_, m17_, (.pointer (some ⟨w'.heap.size, 0, none⟩)), (by rw [ha.out]; exact putSel_upk 11 hb_ rfl rfl rfl), ⟨keep_alloc KB.out.1 _, KB.out.2.alloc KB.out.2.size _⟩, fun h0_ => (Q_I0 h0_).alloc _, fun h0_ h1_ => (Q_I1 h0_ h1_).alloc _, fun h0_ h1_ => (Q_I2 h0_ h1_).alloc _, fun h0_ => (Q_I3 h0_).alloc _, fun h0_ => absurd ((up_self b 20).symm.trans h0_) (by decide), fun _ => Kd.R_alloc (Kd.R_elderB RZ.out _ (Nat.le_refl _)) _, fun _ _ => blk_new w' _, fun _ => KB.out.1.1, fun h0_ => absurd ((hoff 21 (by kernel_rfl)).symm.trans h0_) (by decide), fun h0_ => blk_alloc (Q_BL h0_) _, Q_X11_, Q_X17_, fun _ => rfl⟩
        refine steps_cons ?_ ?_
        ·rintro b a w' ⟨gx, gl, m11_, m17_, m20_, ha, Q_KB, Q_I0, Q_I1, Q_I2, Q_I3, Q_RZ, Q_RX, Q_BX, Q_GX, Q_BY, Q_BL, Q_X11_, Q_X17_, Q_X20_⟩ hb_ hon hoff
         refine ⟨_, rfl, fun K hK => ?_⟩
         have e5 : a.tmps[5]? = some (m20_) := by rw [ha]; exact putSel_on (e := (20, 5, m20_)) 11 rfl rfl (hon 20 (by kernel_rfl)) rfl
         rw [Q_X20_ (hon 20 (by kernel_rfl))] at e5
         have e36 : a.tmps[36]? = some (.agg #[.int .i64 (wrap64 (1 + t1)), .int .i64 y, .int .i64 0]) := by rw [ha]; exact putSel_on (e := (19, 36, .agg #[.int .i64 (wrap64 (1 + t1)), .int .i64 y, .int .i64 0])) 10 rfl rfl (hon 19 (by kernel_rfl)) rfl
         replace ha := Aside0.mk ha
         have KB := Aside0.mk Q_KB
         have I3 := Aside0.mk (Q_I3 (hon 16 (by kernel_rfl)))
         have RX := Aside0.mk (Q_RX (hon 20 (by kernel_rfl)))
         have BX := Aside0.mk (Q_BX (hon 20 (by kernel_rfl)) hb_)
         have GX := Aside0.mk (Q_GX (hon 20 (by kernel_rfl)))
         have BL := Aside0.mk (Q_BL (hon 11 (by kernel_rfl)))
         have c0_ : w'.cell? ⟨gx, 0, none⟩ = some (.int .i64 0) := (blk_cell BX.out 0).trans rfl
         have c1_ : w'.cell? ⟨gx, 1, none⟩ = some (.int .i64 0) := (blk_cell BX.out 1).trans rfl
         have c2_ : w'.cell? ⟨gx, 2, none⟩ = some (.int .i64 0) := (blk_cell BX.out 2).trans rfl
         have z0_ := blk_frozen BX.out 0
         have z1_ := blk_frozen BX.out 1
         have z2_ := blk_frozen BX.out 2
         have hgx0 := Nat.le_trans hle.out GX.out
         have hgx1 : g ≠ gx := IsS83.ne_blk I3.out BX.out (by decide)
         have hgx2 : gl ≠ gx := blk_ne BL.out BX.out (by decide)
         refine skip_ (w1 := ?_) (by rfl) rfl ?_ ?_
         rotate_left
         ·go_simp
          rfl
         refine hK.out _ _ ⟨gx, gl, m11_, m17_, m20_, (by rw [ha.out]; exact putSel_none (v := undef) rfl), ⟨keep_far (keep_far (keep_far KB.out.1 GX.out _) GX.out _) GX.out _, ((KB.out.2.setCell (p := ⟨gx, 0, none⟩) hgx0 _).setCell (p := ⟨gx, 1, none⟩) hgx0 _).setCell (p := ⟨gx, 2, none⟩) hgx0 _⟩, fun h0_ => absurd ((hon 4 (by kernel_rfl)).symm.trans h0_) (by decide), fun _ h1_ => absurd ((hon 10 (by kernel_rfl)).symm.trans h1_) (by decide), fun _ h1_ => absurd ((hon 16 (by kernel_rfl)).symm.trans h1_) (by decide), fun _ => ((I3.out.far (p := ⟨gx, 0, none⟩) hgx1 _).far (p := ⟨gx, 1, none⟩) hgx1 _).far (p := ⟨gx, 2, none⟩) hgx1 _, fun h0_ => absurd ((hon 20 (by kernel_rfl)).symm.trans h0_) (by decide), fun _ => Kd.R_far (p := ⟨gx, 2, none⟩) (Kd.R_far (p := ⟨gx, 1, none⟩) (Kd.R_far (p := ⟨gx, 0, none⟩) RX.out (fun _ hk => hk.2) _) (fun _ hk => hk.2) _) (fun _ hk => hk.2) _, fun _ h1_ => absurd ((up_self b 21).symm.trans h1_) (by decide), fun _ => GX.out, fun _ => blk_put (blk_put (blk_put BX.out 0 _ rfl) 1 _ rfl) 2 _ rfl, fun _ => blk_far (p := ⟨gx, 2, none⟩) (blk_far (p := ⟨gx, 1, none⟩) (blk_far (p := ⟨gx, 0, none⟩) BL.out hgx2 _) hgx2 _) hgx2 _, Q_X11_, Q_X17_, Q_X20_⟩
        exact steps_nil
       ·rintro b a w' hall ⟨gx, gl, m11_, m17_, m20_, ha, Q_KB, Q_I0, Q_I1, Q_I2, Q_I3, Q_RZ, Q_RX, Q_BX, Q_GX, Q_BY, Q_BL, Q_X11_, Q_X17_, Q_X20_⟩
        clear I0 KB RZ
        have hb3_ := hall 3 (by kernel_rfl)
        have hb4_ := hall 4 (by kernel_rfl)
        have hb5_ := hall 5 (by kernel_rfl)
        have hb9_ := hall 9 (by kernel_rfl)
        have hb10_ := hall 10 (by kernel_rfl)
        have hb11_ := hall 11 (by kernel_rfl)
        have hb15_ := hall 15 (by kernel_rfl)
        have hb16_ := hall 16 (by kernel_rfl)
        have hb17_ := hall 17 (by kernel_rfl)
        have hb18_ := hall 18 (by kernel_rfl)
        have hb19_ := hall 19 (by kernel_rfl)
        have hb20_ := hall 20 (by kernel_rfl)
        have hb21_ := hall 21 (by kernel_rfl)
        subst ha
        obtain rfl := Q_X11_ hb11_
        obtain rfl := Q_X17_ hb17_
        obtain rfl := Q_X20_ hb20_
        simp only [putSel, hb3_, hb4_, hb5_, hb9_, hb10_, hb11_, hb15_, hb16_, hb17_, hb18_, hb19_, hb20_, hb21_, if_true, Act.put, List.setIfInBounds_toArray, List.set_cons_zero, List.set_cons_succ]
        have KB := Aside0.mk Q_KB
        clear Q_KB
        clear Q_I0
        clear Q_I1
        clear Q_I2
        have I3 := Aside0.mk (Q_I3 hb16_)
        clear Q_I3
        clear Q_RZ
        have RX := Aside0.mk (Q_RX hb20_)
        clear Q_RX
        clear Q_BX
        have GX := Aside0.mk (Q_GX hb20_)
        clear Q_GX
        have BY := Aside0.mk (Q_BY hb21_)
        clear Q_BY
        have BL := Aside0.mk (Q_BL hb11_)
        clear Q_BL
        clear hall hb3_ hb4_ hb5_ hb9_ hb10_ hb11_ hb15_ hb16_ hb17_ hb18_ hb19_ hb20_ hb21_
        generalize wrap64 (1 + t1) = d at A4 BY HN ⊢
        simp only [Exit.then, Exit.inBlock]
        apply_assumption
        refine wp_seq_k (fun K hK => ?_)
        go_cut [] (fun wc => Aside0 (KeepBut w wc g none ∧ Below w0.heap.size w0 wc) ∧ Aside0 (IsS83 w0 wc g bs p4) ∧ Aside0 (Kd.R k119 119 wc w.heap.size (fun k_ => True ∧ k_ ≠ gx) u3 z) ∧ Aside0 (wc.heap[gx]? = some (.cells #[.int .i64 d, .int .i64 y, .int .i64 t4] 119 (0, 0))))
        case first =>
         have hsw : w'.cell? ⟨gs, 0, none⟩ = some (.pointer (some ⟨g, 0, none⟩)) := keep_cell KB.out.1 hsim.out hne.out
         have hgx0 := Aside0.mk (Nat.le_trans hle.out GX.out)
         have hgx1 : Aside0 (g ≠ gx) := Aside0.mk (IsS83.ne_blk I3.out BY.out (by decide))
         have hx0 : w'.cell? ⟨gx, 0, none⟩ = some (.int .i64 d) := (blk_cell BY.out 0).trans rfl
         have A4' := A4.out
         clear A4 HN pt3 qt3 hy LZ HW_ HT_ hwd
         unfold dealNum at A4'
         by_cases c2 : d = 2
         ·rw [if_pos c2] at A4'
          have c2a : (d == 2) = true := beq_iff_eq.mpr c2
          clear c2
          obtain ⟨t5, p5, A5, e5, e6⟩ : ∃ t5 p5, spec_l6Rd_pick.f k2 bs p3 40 = some (t5, p5) ∧ t5 = t4 ∧ p5 = p4 := ⟨t4, p4, A4', rfl, rfl⟩
          subst e5
          subst e6
          replace A5 := Aside0.mk A5
          go_wp2_with ((with_reducible refine gate_callee (f := 58) rfl ?_); refine goesL_ (some 45) rfl rfl Try.func58 (by kernel_rfl) rfl #[.pointer (some ⟨g, 0, none⟩), .int .i64 40] rfl (by (try simp only [List.map_toArray, List.map_cons, List.map_nil]); first | done | rfl) ?_; (refine (spec_l6Rd_pick.calls k2 g bs p3 40 t5 p5 w0 _ I3.out KB.out.2 A5.out).mono ?_); rintro e w5 ⟨rfl, hi, hb, hk⟩; refine ⟨_, rfl, ?_⟩; have BZ := Aside0.mk (hk.blk BY.out (Ne.symm (IsS83.ne_blk I3.out BY.out (by decide))) (by simp)); have RX5 := Aside0.mk (simKeepRow I3.out RX.out hk); have KB5 := Aside0.mk (show KeepBut w w5 g none ∧ Below w0.heap.size w0 w5 from ⟨KB.out.1.trans hk (.inl rfl), hb⟩); have I5 := Aside0.mk hi; clear hi hb hk; have c2_ : w5.cell? ⟨gx, 2, none⟩ = some (.int .i64 0) := (blk_cell BZ.out 2).trans rfl; have z2_ := blk_frozen BZ.out 2)
          go_meet
          case rel => exact ⟨⟨keep_far KB5.out.1 GX.out _, KB5.out.2.setCell (p := ⟨gx, 2, none⟩) hgx0.out _⟩, ⟨I5.out.far (p := ⟨gx, 2, none⟩) hgx1.out _⟩, ⟨Kd.R_far (p := ⟨gx, 2, none⟩) RX5.out (fun _ hk => hk.2) _⟩, ⟨blk_put BZ.out 2 _ rfl⟩⟩
         ·rw [if_neg c2] at A4'
          have c2a : (d == 2) = false := beq_eq_false_iff_ne.mpr c2
          clear c2
          by_cases c3 : d = 3
          ·rw [if_pos c3] at A4'
           have c3a : (d == 3) = true := beq_iff_eq.mpr c3
           clear c3
           obtain ⟨⟨t5, p5⟩, A5, A6⟩ := Option.bind_eq_some_iff.mp A4'
           simp only [Option.some.injEq, Prod.mk.injEq] at A6
           obtain ⟨rfl, rfl⟩ := A6
           replace A5 := Aside0.mk A5
           go_wp2_with ((with_reducible refine gate_callee (f := 58) rfl ?_); refine goesL_ (some 53) rfl rfl Try.func58 (by kernel_rfl) rfl #[.pointer (some ⟨g, 0, none⟩), .int .i64 60] rfl (by (try simp only [List.map_toArray, List.map_cons, List.map_nil]); first | done | rfl) ?_; (refine (spec_l6Rd_pick.calls k2 g bs p3 60 t5 p5 w0 _ I3.out KB.out.2 A5.out).mono ?_); rintro e w5 ⟨rfl, hi, hb, hk⟩; refine ⟨_, rfl, ?_⟩; have BZ := Aside0.mk (hk.blk BY.out (Ne.symm (IsS83.ne_blk I3.out BY.out (by decide))) (by simp)); have RX5 := Aside0.mk (simKeepRow I3.out RX.out hk); have KB5 := Aside0.mk (show KeepBut w w5 g none ∧ Below w0.heap.size w0 w5 from ⟨KB.out.1.trans hk (.inl rfl), hb⟩); have I5 := Aside0.mk hi; clear hi hb hk; have c2_ : w5.cell? ⟨gx, 2, none⟩ = some (.int .i64 0) := (blk_cell BZ.out 2).trans rfl; have z2_ := blk_frozen BZ.out 2)
           go_meet
           case rel => exact ⟨⟨keep_far KB5.out.1 GX.out _, KB5.out.2.setCell (p := ⟨gx, 2, none⟩) hgx0.out _⟩, ⟨I5.out.far (p := ⟨gx, 2, none⟩) hgx1.out _⟩, ⟨Kd.R_far (p := ⟨gx, 2, none⟩) RX5.out (fun _ hk => hk.2) _⟩, ⟨blk_put BZ.out 2 _ rfl⟩⟩
          ·rw [if_neg c3] at A4'
           have c3a : (d == 3) = false := beq_eq_false_iff_ne.mpr c3
           clear c3
           by_cases c4 : d = 4
           ·rw [if_pos c4] at A4'
            have c4a : (d == 4) = true := beq_iff_eq.mpr c4
            clear c4
            obtain ⟨⟨t5, p5⟩, A5, A6⟩ := Option.bind_eq_some_iff.mp A4'
            simp only [Option.some.injEq, Prod.mk.injEq] at A6
            obtain ⟨rfl, rfl⟩ := A6
            replace A5 := Aside0.mk A5
            go_wp2_with ((with_reducible refine gate_callee (f := 58) rfl ?_); refine goesL_ (some 62) rfl rfl Try.func58 (by kernel_rfl) rfl #[.pointer (some ⟨g, 0, none⟩), .int .i64 30] rfl (by (try simp only [List.map_toArray, List.map_cons, List.map_nil]); first | done | rfl) ?_; (refine (spec_l6Rd_pick.calls k2 g bs p3 30 t5 p5 w0 _ I3.out KB.out.2 A5.out).mono ?_); rintro e w5 ⟨rfl, hi, hb, hk⟩; refine ⟨_, rfl, ?_⟩; have BZ := Aside0.mk (hk.blk BY.out (Ne.symm (IsS83.ne_blk I3.out BY.out (by decide))) (by simp)); have RX5 := Aside0.mk (simKeepRow I3.out RX.out hk); have KB5 := Aside0.mk (show KeepBut w w5 g none ∧ Below w0.heap.size w0 w5 from ⟨KB.out.1.trans hk (.inl rfl), hb⟩); have I5 := Aside0.mk hi; clear hi hb hk; have c2_ : w5.cell? ⟨gx, 2, none⟩ = some (.int .i64 0) := (blk_cell BZ.out 2).trans rfl; have z2_ := blk_frozen BZ.out 2)
            go_meet
            case rel => exact ⟨⟨keep_far KB5.out.1 GX.out _, KB5.out.2.setCell (p := ⟨gx, 2, none⟩) hgx0.out _⟩, ⟨I5.out.far (p := ⟨gx, 2, none⟩) hgx1.out _⟩, ⟨Kd.R_far (p := ⟨gx, 2, none⟩) RX5.out (fun _ hk => hk.2) _⟩, ⟨blk_put BZ.out 2 _ rfl⟩⟩
           ·rw [if_neg c4] at A4'
            have c4a : (d == 4) = false := beq_eq_false_iff_ne.mpr c4
            clear c4
            simp only [Option.some.injEq, Prod.mk.injEq] at A4'
            obtain ⟨rfl, rfl⟩ := A4'
            go_wp2_with (fail)
            go_meet
            case rel => exact ⟨KB, I3, RX, BY⟩
        case rest =>
         clear KB RX BY BL GX I3 A1 A2 A3 A4 HW_ HT_ hwd
         obtain ⟨KB, I0, RX, BZ⟩ := hcut
         replace RX := Aside0.mk (Kd.R_mono RX.out (fun _ _ => trivial))
         refine hK _ _ ?_
         clear hK K
         have c0_ : wc.cell? ⟨gx, 0, none⟩ = some (.int .i64 d) := (blk_cell BZ.out 0).trans rfl
         have c1_ : wc.cell? ⟨gx, 1, none⟩ = some (.int .i64 y) := (blk_cell BZ.out 1).trans rfl
         have c2_ : wc.cell? ⟨gx, 2, none⟩ = some (.int .i64 t4) := (blk_cell BZ.out 2).trans rfl
         go_wp2_with (at_builtin; refine Kd.R_append k119 w.heap.size rfl (.tmp 65) (.tmp 67) 108 119 (.agg #[(.int .i64 0), (.int .i64 0), (.int .i64 0)]) 24 rfl Try.underlying108 info119 rfl (by decide) (by omega) u3 z (⟨d, y, t4⟩ : S119) [.int .i64 d, .int .i64 y, .int .i64 t4] (fun _ => True) (fun _ => False) rfl rfl ?aP (fun _ hk => hk.elim) ?aF ?aO (Below.refl _ _) ?aS ?aL ?_; (case aP => exact k119_mkM _ _ _ (⟨d, y, t4⟩ : S119)); (case aF => exact (fun _ _ => trivial)); (case aO => exact RX.out); (case aS => exact keep_size KB.out.1); (case aL => have := LZ.out; omega); intro v7 w7 ho hb hg hat; have RZ := Aside0.mk ho; have I7 := Aside0.mk (IsS83.grown I0.out hg (IsS83.own_ne I0.out RX.out (by decide))); have KB7 := Aside0.mk (show KeepBut w w7 g none ∧ Below w0.heap.size w0 w7 from ⟨KeepBut.trans KB.out.1 (KeepBut.of_grown hg g) (Kd.R_base2 RX.out), below_weaken KB.out.2 hle.out hb⟩); clear ho hb hg hat)
         go_roundg k2
         case measure => have := HK2.out; omega
         case rel => exact ⟨_, _, _, rfl, HN, ⟨by have := HK2.out; omega⟩, KB7, I7, RZ⟩
      ·rw [if_neg hz] at H; cases H
     ·rw [if_neg h7] at H; cases H
    ·rw [if_neg h3] at H; cases H
   ·rw [if_neg hn] at H
    simp only [Option.some.injEq, Prod.mk.injEq] at H
    obtain ⟨rfl, rfl⟩ := H
    have hdn : decide (n > 0) = false := decide_eq_false hn
    have hdn2 : decide (0 < n) = false := decide_eq_false hn
    clear hn
    go_wp2_with (fail)
    go_ret
    exact ⟨_, rfl, RZ.out, I0.out, KB.out.2, KB.out.1⟩
set_option maxHeartbeats 8000000 in
set_option maxRecDepth 100000 in
theorem gateStart_calls (w : World) : Calls Try.prog 70 #[] w fun e w' => e = .returned (.agg #[.bool true, .int .i64 1, .int .i64 1, .slice none 0 0, .slice none 0 0, .slice none 0 0]) ∧ Below w.heap.size w w' := by
 have hu := Try.underlying97
 go_enter Try.func70, Try.ntmps70
 go_wp2
 exact bodyPost_ret (results_cell_row rfl _ _ w.heap.size 97 #[.bool true, .int .i64 1, .int .i64 1, .slice none 0 0, .slice none 0 0, .slice none 0 0] (0, 0) _ rfl (blk_new w _) hu rfl (by kernel_rfl)) rfl ⟨rfl, below_alloc (Below.refl _ _) _⟩
set_option maxHeartbeats 8000000 in
set_option maxRecDepth 100000 in
theorem l12House_calls (n : Int) (h0 : 0 ≤ n) (h1 : n ≤ 2) (w : World) : Calls Try.prog 50 #[.int .i64 n] w fun e w' => e = .returned (.bool true) ∧ Drawn0 w w' := by
 have A0 := Aside0.mk (show spec_l6In.f n 0 2 = some true by unfold spec_l6In.f; rw [if_pos h0, decide_eq_true h1])
 clear h0 h1
 go_enter Try.func50, Try.ntmps50
 go_wp2_with (fail)
 refine (spec_l6In.calls n 0 2 true _ A0.out).mono ?_
 rintro e w' ⟨rfl, ⟨nd, rfl⟩⟩
 go_wp2_with (fail)
 go_ret
 exact ⟨rfl, by repeat (first | exact Drawn0.refl _ | exact ⟨_, rfl⟩ | apply Drawn0.step)⟩
set_option maxHeartbeats 8000000 in
set_option maxRecDepth 100000 in
theorem l21Locks_calls (w : World) : Calls Try.prog 75 #[] w fun e w' => ∃ A n c, e = .returned (.slice A n c) ∧ Below w.heap.size w w' := by
 have hu := Try.underlying124
 have HB := Aside0.mk (Below.refl w.heap.size w)
 go_enter Try.func75, Try.ntmps75
 go_wp2_with ((with_reducible refine gate_dst (N := 3) rfl ?_); refine Kd.R_lit (Kd.raw 3) w.heap.size 124 ?hg (N := 3) ?hd (xs := ([] : List (List Value))) (inner := []) (ok := fun _ => True) (okp := fun _ => True) ?hr ?hp (fun _ hk => hk) trivial (Below.refl _ _) (Nat.le_refl _) (by simp) ?_; (case hd => rfl); (case hg => rfl); (case hr => first | (go_simp; done) | (go_simp; rfl)); (case hp => exact (Reps.none _ _)); intro v6 w3 ho hb hg_ hnew_; have RZ := Aside0.mk ho; replace HB := Aside0.mk hb; clear hg_ hnew_ ho hb)
 go_loopw [1, 2] (fun v1 i wr => ∃ (k : Nat) (z : List (List Value)), k ≤ 8 ∧ i = .int .i64 k ∧ Aside0 (z.length = k) ∧ Aside0 (Kd.R (Kd.raw 3) 124 wr w.heap.size (fun _ => True) v1 z) ∧ Aside0 (Below w.heap.size w wr)) (fun _ i _ => 8 - (intOf i).toNat)
 case atStart => exact ⟨0, [], Nat.zero_le _, rfl, ⟨rfl⟩, RZ, HB⟩
 case round =>
  clear RZ HB
  obtain ⟨k, z, hk, rfl, HL, RZ, HB⟩ := hrel
  by_cases hlt : k < 8
  ·have hdl : decide ((k : Int) < 8) = true := decide_eq_true (by omega)
   go_wp2_with (at_builtin; refine Kd.R_append (Kd.raw 3) w.heap.size rfl (.tmp 8) (.tmp 11) 112 124 (.agg #[.int .i64 0, .slice none 0 0, .slice none 0 0]) 56 rfl Try.underlying112 (by kernel_rfl) rfl (by decide) (by omega) _ z ([.int .i64 k, .slice none 0 0, .slice none 0 0] : List Value) [.int .i64 k, .slice none 0 0, .slice none 0 0] (fun _ => True) (fun _ => False) rfl rfl ⟨rfl, rfl, by intro u hu_; simp at hu_; rcases hu_ with rfl | rfl <;> rfl⟩ (fun _ hk => hk.elim) (fun _ _ => trivial) RZ.out HB.out HB.out.size (by have := HL.out; omega) ?_; intro v7 w7 ho hb hg hat; have R7 := Aside0.mk ho; have B7 := Aside0.mk hb; clear ho hb hg hat)
   go_roundw
   case rel => exact ⟨k + 1, _, by omega, by go_num, ⟨by simp [HL.out]⟩, R7, B7⟩
   case measure => simp [intOf]; omega
  ·obtain rfl : k = 8 := by omega
   clear hlt hk
   go_wp2_with (fail)
   go_ret
   obtain ⟨A, c, ev⟩ := Kd.R_slice RZ.out
   exact ⟨A, z.length, c, by subst ev; rfl, HB.out⟩
set_option maxHeartbeats 8000000 in
set_option maxRecDepth 100000 in
theorem houseStart_calls (n : Int) (h0 : 0 ≤ n) (h1 : n ≤ 2) (w : World) : Calls Try.prog 71 #[.int .i64 n] w fun e w' => ∃ (A : Option Addr) (m c : Nat), e = .returned (.agg #[.int .i64 n, .bool true, .slice none 0 0, .int .i64 0, .slice A m c, .slice none 0 0]) ∧ Below w.heap.size w w' := by
 have hu := Try.underlying115
 have A0 := Aside0.mk h0
 have A1 := Aside0.mk h1
 clear h0 h1
 have HB := Aside0.mk (below_alloc (Below.refl w.heap.size w) (.cells #[.int .i64 0, .bool false, .slice none 0 0, .int .i64 0, .slice none 0 0, .slice none 0 0] 115))
 go_enter Try.func71, Try.ntmps71
 go_wp2_with (fail)
 refine (l12House_calls n A0.out A1.out _).mono ?_
 rintro e w' ⟨rfl, ⟨nd, rfl⟩⟩
 go_wp2_with (fail)
 refine (l21Locks_calls _).mono ?_
 rintro e w2 ⟨A, m, c, rfl, hb⟩
 have BK := Aside0.mk (blk_below (by (with_reducible repeat (first | refine blk_drewN ?_ _ | refine blk_drew ?_)); exact blk_new w _) hb)
 have B2 := Aside0.mk (below_then (by (with_reducible repeat (first | apply pw_below_drewN | apply below_drew1)); exact HB.out) (by simp) hb)
 clear hb
 have hz0 := blk_frozen BK.out 0
 have hz1 := blk_frozen BK.out 1
 have hz2 := blk_frozen BK.out 2
 have hz3 := blk_frozen BK.out 3
 have hz4 := blk_frozen BK.out 4
 have hz5 := blk_frozen BK.out 5
 have hc0 : w2.cell? ⟨w.heap.size, 0, none⟩ = some (.int .i64 0) := (blk_cell BK.out 0).trans rfl
 have hc1 : w2.cell? ⟨w.heap.size, 1, none⟩ = some (.bool false) := (blk_cell BK.out 1).trans rfl
 have hc2 : w2.cell? ⟨w.heap.size, 2, none⟩ = some (.slice none 0 0) := (blk_cell BK.out 2).trans rfl
 have hc3 : w2.cell? ⟨w.heap.size, 3, none⟩ = some (.int .i64 0) := (blk_cell BK.out 3).trans rfl
 have hc4 : w2.cell? ⟨w.heap.size, 4, none⟩ = some (.slice none 0 0) := (blk_cell BK.out 4).trans rfl
 have hc5 : w2.cell? ⟨w.heap.size, 5, none⟩ = some (.slice none 0 0) := (blk_cell BK.out 5).trans rfl
 go_wp2_with (fail)
 refine bodyPost_ret (results_cell_row rfl _ _ w.heap.size 115 #[.int .i64 n, .bool true, .slice none 0 0, .int .i64 0, .slice A m c, .slice none 0 0] (0, 0) _ rfl ?hb hu rfl (by kernel_rfl)) rfl ?_
 case hb =>
  refine blk_put (cs := #[.int .i64 n, .bool true, .slice none 0 0, .int .i64 0, .slice A m c, .slice none 0 0]) ?_ 5 _ rfl
  refine blk_put (cs := #[.int .i64 n, .bool true, .slice none 0 0, .int .i64 0, .slice none 0 0, .slice none 0 0]) ?_ 4 _ rfl
  refine blk_put (cs := #[.int .i64 n, .bool true, .slice none 0 0, .int .i64 0, .slice none 0 0, .slice none 0 0]) ?_ 3 _ rfl
  refine blk_put (cs := #[.int .i64 n, .bool true, .slice none 0 0, .int .i64 0, .slice none 0 0, .slice none 0 0]) ?_ 2 _ rfl
  refine blk_put (cs := #[.int .i64 n, .bool false, .slice none 0 0, .int .i64 0, .slice none 0 0, .slice none 0 0]) ?_ 1 _ rfl
  refine blk_put (cs := #[.int .i64 0, .bool false, .slice none 0 0, .int .i64 0, .slice none 0 0, .slice none 0 0]) ?_ 0 _ rfl
  exact BK.out
 exact ⟨A, m, c, rfl, by (with_reducible repeat (first | refine below_set ?_ (Nat.le_refl _))); exact B2.out⟩
set_option maxHeartbeats 8000000 in
set_option maxRecDepth 100000 in
theorem tollStart_calls (w : World) : Calls Try.prog 67 #[] w fun e w' => ∃ (A : Option Addr) (m c : Nat), e = .returned (.agg #[.int .i64 0, .bool true, .int .i64 1, .int .i64 1, .slice none 0 0, .slice none 0 0, .slice none 0 0, .slice A m c, .slice none 0 0, .slice none 0 0]) ∧ Below w.heap.size w w' := by
 have hu := Try.underlying102
 have hu2 := Try.underlying115
 go_enter Try.func67, Try.ntmps67
 go_wp2_with (fail)
 refine (gateStart_calls _).mono ?_
 rintro e w1 ⟨rfl, hb⟩
 have BR := Aside0.mk (blk_below ((blk_new w (.cells #[.int .i64 0, .bool false, .int .i64 0, .int .i64 0, .slice none 0 0, .slice none 0 0, .slice none 0 0, .slice none 0 0, .slice none 0 0, .slice none 0 0] 102))) hb)
 have B1 := Aside0.mk (below_then (by (with_reducible repeat (first | apply pw_below_drewN | apply below_drew1 | apply below_alloc)); exact Below.refl w.heap.size w) (by simp) hb)
 have LT := Aside0.mk (blk_lt BR.out)
 clear hb
 go_wp2_with (fail)
 have BG := Aside0.mk (blk_new w1 (.cells #[.int .i64 0, .bool true, .int .i64 1, .int .i64 1, .slice none 0 0, .slice none 0 0, .slice none 0 0, .slice none 0 0, .slice none 0 0, .slice none 0 0] 102))
 have BR := Aside0.mk (blk_alloc BR.out (.cells #[.int .i64 0, .bool true, .int .i64 1, .int .i64 1, .slice none 0 0, .slice none 0 0, .slice none 0 0, .slice none 0 0, .slice none 0 0, .slice none 0 0] 102))
 replace B1 := Aside0.mk (below_alloc B1.out (.cells #[.int .i64 0, .bool true, .int .i64 1, .int .i64 1, .slice none 0 0, .slice none 0 0, .slice none 0 0, .slice none 0 0, .slice none 0 0, .slice none 0 0] 102))
 have NG := Aside0.mk (show w.heap.size ≠ w1.heap.size from Nat.ne_of_lt LT.out)
 have LG := Aside0.mk (show w.heap.size ≤ w1.heap.size from Nat.le_of_lt LT.out)
 generalize (w1.alloc (.cells #[.int .i64 0, .bool true, .int .i64 1, .int .i64 1, .slice none 0 0, .slice none 0 0, .slice none 0 0, .slice none 0 0, .slice none 0 0, .slice none 0 0] 102)) = W2 at BG BR B1 ⊢
 generalize w1.heap.size = gw at BG NG LG ⊢
 clear LT
 go_loopw [2] (fun i wr => ∃ (k : Nat) (z : List (List Value)) (A : Option Addr) (c : Nat), k ≤ 3 ∧ i = .int .i64 k ∧ Aside0 (z.length = k) ∧ Aside0 (wr.heap[gw]? = some (.cells #[.int .i64 0, .bool true, .int .i64 1, .int .i64 1, .slice none 0 0, .slice none 0 0, .slice none 0 0, .slice A k c, .slice none 0 0, .slice none 0 0] 102 (0, 0))) ∧ Aside0 (wr.heap[w.heap.size]? = some (.cells #[.int .i64 0, .bool false, .int .i64 0, .int .i64 0, .slice none 0 0, .slice none 0 0, .slice none 0 0, .slice none 0 0, .slice none 0 0, .slice none 0 0] 102 (0, 0))) ∧ Aside0 (Kd.R (Kd.raw 6) 115 wr w.heap.size (fun _ => True) (.slice A k c) z) ∧ Aside0 (Below w.heap.size w wr)) (fun i _ => 3 - (intOf i).toNat)
 case atStart => exact ⟨0, [], none, 0, Nat.zero_le _, rfl, ⟨rfl⟩, BG, BR, ⟨Kd.R_nil _ _ _ _ _⟩, B1⟩
 case round =>
  clear BG BR B1
  obtain ⟨k, z, A, c, hk, rfl, HL, BG, BR, RZ, HB⟩ := hrel
  have hc7 : wr.cell? ⟨gw, 7, none⟩ = some (.slice A k c) := (blk_cell BG.out 7).trans rfl
  by_cases hlt : k < 3
  ·have hdl : decide ((k : Int) < 3) = true := decide_eq_true (by omega)
   have hk0 := Aside0.mk (show (0 : Int) ≤ (k : Int) by omega)
   have hk1 := Aside0.mk (show (k : Int) ≤ 2 by omega)
   go_wp2_with (fail)
   go_region_law (first | ((refine goes_ Try.func71 (by kernel_rfl) rfl #[.int .i64 k] ?hw rfl rfl ?ha ?_); (case hw => simp [Region.wanted]); (case ha => ((try simp only [List.map_toArray, List.map_cons, List.map_nil]); rfl)); (refine (houseStart_calls k hk0.out hk1.out _).mono ?_); (rintro e w3 ⟨A3, m3, c3, rfl, hb⟩); (refine ⟨_, rfl, ?_⟩); (have BG3 := Aside0.mk (blk_below (blk_drew BG.out) hb)); (have BR3 := Aside0.mk (blk_below (blk_drew BR.out) hb)); (have R3 := Aside0.mk (Kd.R_below (Kd.R_drew RZ.out) hb)); (have B3 := Aside0.mk (below_then (below_drew HB.out) (below_drew HB.out).size hb)); (clear hb); (have y7 : w3.cell? ⟨gw, 7, none⟩ = some (.slice A k c) := (blk_cell BG3.out 7).trans rfl); (have y7' : (w3.alloc (.cells #[.int .i64 k, .bool true, .slice none 0 0, .int .i64 0, .slice A3 m3 c3, .slice none 0 0] 115)).cell? ⟨gw, 7, none⟩ = some (.slice A k c) := (blk_cell (blk_alloc BG3.out _) 7).trans rfl)) | ((refine Kd.R_append_step (Kd.raw 6) (w0 := w) (W := w3) w.heap.size ?aW (.tmp 10) (.tmp 13) 98 115 (.agg #[.int .i64 0, .bool false, .slice none 0 0, .int .i64 0, .slice none 0 0, .slice none 0 0]) 96 rfl Try.underlying98 (by kernel_rfl) rfl (by decide) (by omega) (.slice A k c) z ([.int .i64 k, .bool true, .slice none 0 0, .int .i64 0, .slice A3 m3 c3, .slice none 0 0] : List Value) [.int .i64 k, .bool true, .slice none 0 0, .int .i64 0, .slice A3 m3 c3, .slice none 0 0] (fun _ => True) (fun _ => False) rfl rfl ?aP (fun _ hk => hk.elim) (fun _ _ => trivial) R3.out B3.out B3.out.size ?aL ?_); (case aW => simp [Region.wanted]); (case aP => exact ⟨rfl, rfl, by intro u hu_; simp at hu_; rcases hu_ with rfl | rfl | rfl | rfl | rfl | rfl <;> rfl⟩); (case aL => have := HL.out; omega); (intro v7 w7 ho hb hg hat); (obtain ⟨A7, c7, e7⟩ := Kd.R_slice ho); (obtain rfl : v7 = .slice A7 (k + 1) c7 := by rw [e7]; simp [HL.out]); (clear e7); (have R7 := Aside0.mk ho); (have BG7 := Aside0.mk (blk_grown BG3.out hg (Kd.R_ne R3.out BG3.out (by decide)))); (have BR7 := Aside0.mk (blk_grown BR3.out hg (Kd.R_ne R3.out BR3.out (by decide)))); (have B7 := Aside0.mk hb); (clear ho hb hg hat); (have x7 : w7.cell? ⟨gw, 7, none⟩ = some (.slice A k c) := (blk_cell BG7.out 7).trans rfl); (have z7 := blk_frozen BG7.out 7)))
   all_goals
    go_wp2
    go_roundw
    case rel => exact ⟨k + 1, _, A7, c7, by omega, by go_num, ⟨by simp [HL.out]⟩, ⟨blk_put BG7.out 7 _ rfl⟩, ⟨blk_far BR7.out NG.out _⟩, ⟨Kd.R_set R7.out BG7.out (by decide) 7 _⟩, ⟨below_set B7.out LG.out⟩⟩
    case measure => simp [intOf]; omega
  ·obtain rfl : k = 3 := by omega
   clear hlt hk hc7
   have hc0 : wr.cell? ⟨gw, 0, none⟩ = some (.int .i64 0) := (blk_cell BG.out 0).trans rfl
   have hc1 : wr.cell? ⟨gw, 1, none⟩ = some (.bool true) := (blk_cell BG.out 1).trans rfl
   have hc2 : wr.cell? ⟨gw, 2, none⟩ = some (.int .i64 1) := (blk_cell BG.out 2).trans rfl
   have hc3 : wr.cell? ⟨gw, 3, none⟩ = some (.int .i64 1) := (blk_cell BG.out 3).trans rfl
   have hc4 : wr.cell? ⟨gw, 4, none⟩ = some (.slice none 0 0) := (blk_cell BG.out 4).trans rfl
   have hc5 : wr.cell? ⟨gw, 5, none⟩ = some (.slice none 0 0) := (blk_cell BG.out 5).trans rfl
   have hc6 : wr.cell? ⟨gw, 6, none⟩ = some (.slice none 0 0) := (blk_cell BG.out 6).trans rfl
   have hc7 : wr.cell? ⟨gw, 7, none⟩ = some (.slice A 3 c) := (blk_cell BG.out 7).trans rfl
   have hc8 : wr.cell? ⟨gw, 8, none⟩ = some (.slice none 0 0) := (blk_cell BG.out 8).trans rfl
   have hc9 : wr.cell? ⟨gw, 9, none⟩ = some (.slice none 0 0) := (blk_cell BG.out 9).trans rfl
   have hd0 : wr.cell? ⟨w.heap.size, 0, none⟩ = some (.int .i64 0) := (blk_cell BR.out 0).trans rfl
   have hz0 := blk_frozen BR.out 0
   have hd1 : wr.cell? ⟨w.heap.size, 1, none⟩ = some (.bool false) := (blk_cell BR.out 1).trans rfl
   have hz1 := blk_frozen BR.out 1
   have hd2 : wr.cell? ⟨w.heap.size, 2, none⟩ = some (.int .i64 0) := (blk_cell BR.out 2).trans rfl
   have hz2 := blk_frozen BR.out 2
   have hd3 : wr.cell? ⟨w.heap.size, 3, none⟩ = some (.int .i64 0) := (blk_cell BR.out 3).trans rfl
   have hz3 := blk_frozen BR.out 3
   have hd4 : wr.cell? ⟨w.heap.size, 4, none⟩ = some (.slice none 0 0) := (blk_cell BR.out 4).trans rfl
   have hz4 := blk_frozen BR.out 4
   have hd5 : wr.cell? ⟨w.heap.size, 5, none⟩ = some (.slice none 0 0) := (blk_cell BR.out 5).trans rfl
   have hz5 := blk_frozen BR.out 5
   have hd6 : wr.cell? ⟨w.heap.size, 6, none⟩ = some (.slice none 0 0) := (blk_cell BR.out 6).trans rfl
   have hz6 := blk_frozen BR.out 6
   have hd7 : wr.cell? ⟨w.heap.size, 7, none⟩ = some (.slice none 0 0) := (blk_cell BR.out 7).trans rfl
   have hz7 := blk_frozen BR.out 7
   have hd8 : wr.cell? ⟨w.heap.size, 8, none⟩ = some (.slice none 0 0) := (blk_cell BR.out 8).trans rfl
   have hz8 := blk_frozen BR.out 8
   have hd9 : wr.cell? ⟨w.heap.size, 9, none⟩ = some (.slice none 0 0) := (blk_cell BR.out 9).trans rfl
   have hz9 := blk_frozen BR.out 9
   go_wp2_with (fail)
   refine bodyPost_ret (results_cell_row rfl _ _ w.heap.size 102 #[.int .i64 0, .bool true, .int .i64 1, .int .i64 1, .slice none 0 0, .slice none 0 0, .slice none 0 0, .slice A 3 c, .slice none 0 0, .slice none 0 0] (0, 0) _ rfl ?hb hu rfl (by kernel_rfl)) rfl ?_
   case hb =>
    refine blk_put (cs := #[.int .i64 0, .bool true, .int .i64 1, .int .i64 1, .slice none 0 0, .slice none 0 0, .slice none 0 0, .slice A 3 c, .slice none 0 0, .slice none 0 0]) ?_ 9 _ rfl
    refine blk_put (cs := #[.int .i64 0, .bool true, .int .i64 1, .int .i64 1, .slice none 0 0, .slice none 0 0, .slice none 0 0, .slice A 3 c, .slice none 0 0, .slice none 0 0]) ?_ 8 _ rfl
    refine blk_put (cs := #[.int .i64 0, .bool true, .int .i64 1, .int .i64 1, .slice none 0 0, .slice none 0 0, .slice none 0 0, .slice none 0 0, .slice none 0 0, .slice none 0 0]) ?_ 7 _ rfl
    refine blk_put (cs := #[.int .i64 0, .bool true, .int .i64 1, .int .i64 1, .slice none 0 0, .slice none 0 0, .slice none 0 0, .slice none 0 0, .slice none 0 0, .slice none 0 0]) ?_ 6 _ rfl
    refine blk_put (cs := #[.int .i64 0, .bool true, .int .i64 1, .int .i64 1, .slice none 0 0, .slice none 0 0, .slice none 0 0, .slice none 0 0, .slice none 0 0, .slice none 0 0]) ?_ 5 _ rfl
    refine blk_put (cs := #[.int .i64 0, .bool true, .int .i64 1, .int .i64 1, .slice none 0 0, .slice none 0 0, .slice none 0 0, .slice none 0 0, .slice none 0 0, .slice none 0 0]) ?_ 4 _ rfl
    refine blk_put (cs := #[.int .i64 0, .bool true, .int .i64 1, .int .i64 0, .slice none 0 0, .slice none 0 0, .slice none 0 0, .slice none 0 0, .slice none 0 0, .slice none 0 0]) ?_ 3 _ rfl
    refine blk_put (cs := #[.int .i64 0, .bool true, .int .i64 0, .int .i64 0, .slice none 0 0, .slice none 0 0, .slice none 0 0, .slice none 0 0, .slice none 0 0, .slice none 0 0]) ?_ 2 _ rfl
    refine blk_put (cs := #[.int .i64 0, .bool false, .int .i64 0, .int .i64 0, .slice none 0 0, .slice none 0 0, .slice none 0 0, .slice none 0 0, .slice none 0 0, .slice none 0 0]) ?_ 1 _ rfl
    refine blk_put (cs := #[.int .i64 0, .bool false, .int .i64 0, .int .i64 0, .slice none 0 0, .slice none 0 0, .slice none 0 0, .slice none 0 0, .slice none 0 0, .slice none 0 0]) ?_ 0 _ rfl
    exact BR.out
   exact ⟨A, 3, c, rfl, by (with_reducible repeat (first | refine below_set ?_ (Nat.le_refl _))); exact HB.out⟩
set_option maxHeartbeats 8000000 in
set_option maxRecDepth 100000 in
theorem l72Sim_calls (g : Nat) (w : World) : Calls Try.prog 64 #[.pointer (some ⟨g, 0, none⟩)] w fun e w' => ∃ gs : Nat, e = .returned (.pointer (some ⟨gs, 0, none⟩)) ∧ w'.cell? ⟨gs, 0, none⟩ = some (.pointer (some ⟨g, 0, none⟩)) ∧ w.heap.size ≤ gs ∧ Below w.heap.size w w' := by
 have hu := Try.underlying102
 have hu1 := Try.underlying106
 go_enter Try.func64, Try.ntmps64
 go_wp2_with (fail)
 refine (tollStart_calls _).mono ?_
 rintro e w1 ⟨A, m, c, rfl, hb⟩
 have B1 := Aside0.mk hb
 clear hb
 go_wp2_with (fail)
 go_ret
 exact ⟨w1.heap.size, rfl, by simp, B1.out.size, below_alloc B1.out _⟩
end Go.Proofs.Ytbjdnfgalopfiaa.PD
