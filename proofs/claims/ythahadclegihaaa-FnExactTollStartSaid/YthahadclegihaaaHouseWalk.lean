/- HouseStart: what the marks do to a house with free locks, and the law's walk, by hand. -/
import Derived.Test.YthahadclegihaaaPXx20
import Derived.Test.YthahadclegihaaaPXx13
import Derived.Test.YthahadclegihaaaPXx4
import Derived.Test.YthahadclegihaaaPXx14
import Derived.Test.YthahadclegihaaaPXx16
namespace Go.Proofs.Ythahadclegihaaa.PX
open Go.RowKit Go.Proofs.YthahadclegihaaaW.PrintWords Go.Proofs.YthahadclegihaaaW.PrintLast Go.Proofs.YthahadclegihaaaW.PrintMore
attribute [local go_sem] max2_int min2_int max_two min_two max_three min_three max_four min_four
set_option linter.unusedVariables false
set_option linter.unusedSimpArgs false
set_option maxHeartbeats 8000000 in
set_option maxRecDepth 100000 in
theorem markHold0 (A : Option Addr) (c : Nat) (a : Int) (w : World) : Calls Try.prog 59 #[.slice A 0 c, .int .i64 a] w fun e w' => e = .returned (.int .i64 a) ∧ Drawn0 w w' := by
  go_enter Try.func59, Try.ntmps59
  go_wp2
  refine wp_loop_rounds 1 ?_
  repeat any_goals (rw [rounds_succ]; go_wp2_with (fail))
  go_ret
  exact ⟨rfl, by repeat (first | exact Drawn0.refl _ | apply Drawn0.step)⟩
def lmarks (a : Int) (n : Nat) : List S70 := (List.range n).map (fun j : Nat => (⟨a + (j : Int), [], []⟩ : S70))
theorem lmarks_length (a : Int) (n : Nat) : (lmarks a n).length = n := by simp [lmarks]
theorem lmarks_step (a : Int) (l : List S70) (x : Nat) (hx : x < l.length) : (lmarks a x ++ l.drop x).set x ⟨a + (x : Int), [], []⟩ = lmarks a (x + 1) ++ l.drop (x + 1) := by
  rw [List.set_append_right _ _ (by rw [lmarks_length]; omega), lmarks_length, Nat.sub_self, List.drop_eq_getElem_cons hx, List.set_cons_zero]
  simp [lmarks, List.range_succ]
theorem lmarks_at (a : Int) (l : List S70) (x : Nat) (hx : x < l.length) : (lmarks a x ++ l.drop x).getD x z70 = l[x] := by
  rw [List.getD_eq_getElem?_getD, List.getElem?_append_right (by rw [lmarks_length]; omega), lmarks_length, Nat.sub_self, List.getElem?_drop]
  simp [hx]
theorem lmarks_here (a : Int) (l : List S70) (x : Nat) : (lmarks a (x + 1) ++ l.drop (x + 1)).getD x z70 = ⟨a + (x : Int), [], []⟩ := by
  rw [List.getD_eq_getElem?_getD, List.getElem?_append_left (by rw [lmarks_length]; omega)]
  simp [lmarks]
theorem grown_drew {w w1 : World} {row : Option Nat} (h : w.grownBy w1 row) (n : Nat) : w.grownBy (w1.drewN n) row := ⟨h.os, h.tape, h.output, h.size, h.block⟩
set_option maxHeartbeats 8000000 in
set_option maxRecDepth 100000 in
theorem markLockS_calls (l : List S70) (a : Int) (w : World) (base : Nat) (ok : Nat → Prop) (v : Value) (ho : Kd.S k70 70 w base ok v l) (he : ∀ x ∈ l, x.f1 = [] ∧ x.f2 = []) (ha : 0 ≤ a ∧ a ≤ 1000) (hl : l.length ≤ 100) :
    Calls Try.prog 29 #[v, .int .i64 a] w fun e w' => e = .returned (.int .i64 (a + (l.length : Int))) ∧ Kd.S k70 70 w' base ok v (lmarks a l.length) ∧ w.grownBy w' v.ownBlock := by
  have hu := Try.underlying70
  have HO := Aside0.mk ho
  have HE := Aside0.mk he
  have HA := Aside0.mk ha
  have HL := Aside0.mk hl
  obtain ⟨A, c, hv⟩ := Kd.R_slice (Kd.S_R ho)
  subst hv
  clear ho he ha hl
  go_enter Try.func29, Try.ntmps29
  go_wp2_with (fail)
  go_loopw [1, 5] (fun k i wr => ∃ x : Nat, k = .int .i64 (a + (x : Int)) ∧ i = .int .i64 (x : Int) ∧ Aside0 (x ≤ l.length) ∧ Aside0 (Kd.S k70 70 wr base ok (.slice A l.length c) (lmarks a x ++ l.drop x)) ∧ Aside0 (w.grownBy wr (Value.slice A l.length c).ownBlock)) (fun _ i _ => l.length - (intOf i).toNat)
  case atStart => exact ⟨0, by simp, rfl, ⟨by omega⟩, HO, ⟨by first | exact World.grownBy.refl _ _ | exact ⟨rfl, rfl, rfl, Nat.le_refl _, fun _ _ _ => rfl⟩⟩⟩
  case round =>
    obtain ⟨x, rfl, rfl, HX, HS, HG⟩ := hrel
    by_cases hlt : x < l.length
    · have hdl : decide (x < l.length) = true := decide_eq_true hlt
      have hll := HL.out
      have hal := HA.out
      have hlen : (lmarks a x ++ l.drop x).length = l.length := by rw [List.length_append, lmarks_length, List.length_drop]; omega
      obtain ⟨g, cap, hv, hbg, hgl, _⟩ := Kd.S_form HS.out (by omega)
      obtain ⟨rfl, _, rfl⟩ : A = some ⟨g, 0, none⟩ ∧ True ∧ c = cap := by
        injection hv with e1 e2 e3; exact ⟨e1, trivial, e3⟩
      clear hv
      obtain ⟨oki, ce, hcl, hM, hcc, hfr, hoki, hH⟩ := Kd.S_elem HS.out z70 (x : Int) (by omega) (by omega)
      rw [Int.toNat_natCast] at hM hcc hfr
      rw [lmarks_at a l x hlt] at hM
      have hE := HE.out l[x] (List.getElem_mem hlt)
      obtain ⟨v1, v2, rfl, g1, g2⟩ := k70_openM hM
      rw [hE.1] at g1
      rw [hE.2] at g2
      have HP := Aside0.mk (Kd.S_seg0 hH (by omega) (by omega) (seg := [.int .i64 (a + (x : Int))]) (j := 0) (show 0 + 1 ≤ 3 by decide) (x' := (⟨a + (x : Int), [], []⟩ : S70)) (k70_mkM _ _ _ (⟨a + (x : Int), [], []⟩ : S70) g1 g2) (fun _ h => h))
      rw [Int.toNat_natCast, lmarks_step a l x hlt] at HP
      have hx0 : wr.cell? ⟨g, x * 3, none⟩ = some (.int .i64 l[x].f0) := hcc 0 _ rfl
      have hf0 : wr.frozen? ⟨g, x * 3, none⟩ = false := hfr 0
      have hw1 : wrap64 (a + (x : Int) + 1) = a + (x : Int) + 1 := by unfold wrap64; omega
      have hw : wrap64 ((x : Int) + 1) = (x : Int) + 1 := by unfold wrap64; omega
      clear hcl hM hcc hfr hoki hH g1 g2 hE
      go_wp2_with (((with_reducible refine gate_store (t := 3) (p := 16) rfl ?_); refine store_event (t := 3) (p := 16) (v := ?vo) (w1 := wr.setCell ⟨g, x * 3, none⟩ (.int .i64 (a + (x : Int)))) ?hg ?ho ?hn ?hr ?_; (case ho => rfl); (case hg => rfl); (case hn => rfl); (case hr => first | (go_simp; done) | (go_simp; rfl)); intro w2 hw2; have HS2 := Aside0.mk (show Kd.S k70 70 w2 base ok (.slice (some ⟨g, 0, none⟩) l.length c) (lmarks a (x + 1) ++ l.drop (x + 1)) by rw [hw2]; exact HP.out.1); have HG2 := Aside0.mk (show wr.grownBy w2 (some g) by rw [hw2]; exact HP.out.2); clear hw2 hx0 hf0 HP; obtain ⟨_, ce2, _, hM2, hcc2, _, _, _⟩ := Kd.S_elem HS2.out z70 (x : Int) (by omega) (by omega); rw [Int.toNat_natCast] at hM2 hcc2; rw [lmarks_here a l x] at hM2; obtain ⟨u1_, u2_, rfl, g1, g2⟩ := k70_openM hM2; obtain ⟨A1, c1, rfl⟩ := Kd.R_slice g1; obtain ⟨A2, c2, rfl⟩ := Kd.R_slice g2; have hz1 : w2.cell? ⟨g, x * 3 + 1, none⟩ = some (.slice A1 0 c1) := hcc2 1 _ rfl; have hz2 : w2.cell? ⟨g, x * 3 + 2, none⟩ = some (.slice A2 0 c2) := hcc2 2 _ rfl; clear hM2 hcc2 g1 g2))
      refine (markHold0 A1 c1 _ _).mono ?_
      rintro e w3 ⟨rfl, ⟨nd, rfl⟩⟩
      go_wp2_with (fail)
      refine (markHold0 A2 c2 _ _).mono ?_
      rintro e w3 ⟨rfl, ⟨nd2, rfl⟩⟩
      go_wp2_with (fail)
      go_roundw
      case rel => exact ⟨x + 1, congrArg (Value.int .i64) (by omega), congrArg (Value.int .i64) (by omega), ⟨hlt⟩, ⟨Kd.S_drewN HS2.out _⟩, ⟨grown_drew (HG.out.trans HG2.out) _⟩⟩
      case measure =>
        (try rw [hw])
        show l.length - ((x : Int) + 1).toNat < l.length - (x : Int).toNat
        omega
    · obtain rfl : x = l.length := by have := HX.out; omega
      have hdl : decide (l.length < l.length) = false := decide_eq_false hlt
      clear hlt
      rw [List.drop_of_length_le (Nat.le_refl _), List.append_nil] at HS
      go_wp2_with (fail)
      go_ret
      exact ⟨rfl, HS.out, HG.out⟩
theorem C_nil {α : Type} (d : Kd α) (w : World) (A : Option Addr) : Kd.C d w A ([] : List α).length [] := ⟨rfl, by simp, fun hp => absurd hp (by simp)⟩
def Box6 (w : World) (b : Nat) (i0 : Int) (u : Bool) (x2 : Value) (i3 : Int) (x4 x5 : Value) : Prop :=
  w.cell? ⟨b, 0, none⟩ = some (.int .i64 i0) ∧ w.cell? ⟨b, 1, none⟩ = some (.bool u) ∧ w.cell? ⟨b, 2, none⟩ = some x2 ∧ w.cell? ⟨b, 3, none⟩ = some (.int .i64 i3) ∧ w.cell? ⟨b, 4, none⟩ = some x4 ∧ w.cell? ⟨b, 5, none⟩ = some x5
section
variable {w w' : World} {b n : Nat} {i0 i3 : Int} {u : Bool} {x2 x4 x5 : Value} {row : Option Nat}
theorem Box6.lt (h : Box6 w b i0 u x2 i3 x4 x5) : b < w.heap.size := World.block_lt_of_cell? w ⟨b, 0, none⟩ h.1
theorem Box6.on (h : Box6 w b i0 u x2 i3 x4 x5) (e : ∀ j, w'.cell? ⟨b, j, none⟩ = w.cell? ⟨b, j, none⟩) : Box6 w' b i0 u x2 i3 x4 x5 :=
  ⟨(e 0).trans h.1, (e 1).trans h.2.1, (e 2).trans h.2.2.1, (e 3).trans h.2.2.2.1, (e 4).trans h.2.2.2.2.1, (e 5).trans h.2.2.2.2.2⟩
theorem Box6.below (h : Box6 w b i0 u x2 i3 x4 x5) (hb : Below n w w') (hn : b < n) : Box6 w' b i0 u x2 i3 x4 x5 := h.on (fun j => hb.cell hn)
theorem Box6.grown (h : Box6 w b i0 u x2 i3 x4 x5) (hg : w.grownBy w' row) (hne : some b ≠ row) : Box6 w' b i0 u x2 i3 x4 x5 :=
  h.on (fun j => World.cell?_of_block (hg.block b h.lt hne))
theorem Box6.new (w : World) (i0 : Int) (u : Bool) (x2 : Value) (i3 : Int) (x4 x5 : Value) : Box6 (w.alloc (.cells #[.int .i64 i0, .bool u, x2, .int .i64 i3, x4, x5] 26 (0, 0))) w.heap.size i0 u x2 i3 x4 x5 := by
  refine ⟨?_, ?_, ?_, ?_, ?_, ?_⟩ <;> exact (World.cell?_alloc_mark w _ 26 (0, 0) _).trans rfl
end
set_option maxHeartbeats 8000000 in
set_option maxRecDepth 100000 in
theorem markHouse_calls (i0 : Int) (u : Bool) (A2 : Option Addr) (c2 : Nat) (i3 : Int) (A4 : Option Addr) (c4 : Nat) (A5 : Option Addr) (c5 : Nat) (l : List S70) (a : Int) (w : World) (base : Nat) (ok : Nat → Prop) (ho : Kd.S k70 70 w base ok (.slice A4 l.length c4) l) (he : ∀ x ∈ l, x.f1 = [] ∧ x.f2 = []) (ha : 0 ≤ a ∧ a ≤ 1000) (hl : l.length ≤ 100) :
    Calls Try.prog 9 #[.agg #[.int .i64 i0, .bool u, .slice A2 0 c2, .int .i64 i3, .slice A4 l.length c4, .slice A5 0 c5], .int .i64 a] w fun e w' => e = .returned (.int .i64 (a + (l.length : Int))) ∧ Kd.S k70 70 w' base ok (.slice A4 l.length c4) (lmarks a l.length) ∧ w.grownBy w' (Value.slice A4 l.length c4).ownBlock := by
  have hu := Try.underlying26
  have HO := Aside0.mk ho
  have HE := Aside0.mk he
  have HA := Aside0.mk ha
  have HL := Aside0.mk hl
  have HLT := Aside0.mk (Kd.R_lt (Kd.S_R ho))
  clear ho he ha hl
  have HX := Aside0.mk (Box6.new w i0 u (.slice A2 0 c2) i3 (.slice A4 l.length c4) (.slice A5 0 c5))
  have HS := Aside0.mk (Kd.S_below HO.out (below_alloc (Below.refl w.heap.size w) (.cells #[.int .i64 i0, .bool u, .slice A2 0 c2, .int .i64 i3, .slice A4 l.length c4, .slice A5 0 c5] 26 (0, 0))))
  have HG := Aside0.mk (World.grownBy_alloc w (.cells #[.int .i64 i0, .bool u, .slice A2 0 c2, .int .i64 i3, .slice A4 l.length c4, .slice A5 0 c5] 26 (0, 0)) (Value.slice A4 l.length c4).ownBlock)
  go_enter Try.func9, Try.ntmps9
  go_wp2_with (fail)
  generalize w.alloc (.cells #[.int .i64 i0, .bool u, .slice A2 0 c2, .int .i64 i3, .slice A4 l.length c4, .slice A5 0 c5] 26 (0, 0)) = W at HX HS HG ⊢
  refine (laws_markRecS.calls A2 c2 [] a a _ (C_nil _ _ _) (Nat.zero_le _) rfl).mono ?_
  rintro e w1 ⟨rfl, ⟨nd, rfl⟩⟩
  have hb := pw_below_drewN (Below.refl W.heap.size W) nd
  have HX := Aside0.mk (HX.out.below hb HX.out.lt)
  have HS := Aside0.mk (Kd.S_drewN HS.out nd)
  have HG := Aside0.mk (grown_drew HG.out nd)
  clear hb
  generalize W.drewN nd = W1 at HX HS HG ⊢
  obtain ⟨h0, h1, h2, h3, h4, h5⟩ := HX.out
  go_wp2_with (fail)
  refine (markLockS_calls l a W1 base ok _ HS.out HE.out HA.out HL.out).mono ?_
  rintro e w2 ⟨rfl, hs, hg⟩
  have HX2 := Aside0.mk (HX.out.grown hg (fun e => by have := HLT.out _ e.symm; omega))
  have HS2 := Aside0.mk hs
  have HG2 := Aside0.mk (HG.out.trans hg)
  clear hs hg h0 h1 h2 h3 h4 h5
  obtain ⟨h0, h1, h2, h3, h4, h5⟩ := HX2.out
  go_wp2_with (fail)
  refine (laws_markWorkS.calls A5 c5 [] (a + (l.length : Int)) (a + (l.length : Int)) _ (C_nil _ _ _) (Nat.zero_le _) rfl).mono ?_
  rintro e w3 ⟨rfl, ⟨nd2, rfl⟩⟩
  go_wp2_with (fail)
  go_ret
  exact ⟨rfl, Kd.S_drewN HS2.out _, grown_drew HG2.out _⟩
set_option maxHeartbeats 8000000 in
set_option maxRecDepth 100000 in
theorem law_calls (k : Nat) (a0 : Int) (i0 : Int) (u : Bool) (i3 : Int) (l : List S70) (w : World)
    (h1 : spec_HouseStart.f k a0 = some (i0, u, [], i3, l, [])) (h2 : impl_HouseStart.f k a0 = some (i0, u, [], i3, l, []))
    (h3 : laws_eqHouse.f k i0 u [] i3 l [] i0 u [] i3 l [] = some true) (h4 : laws_heldHouse.f k i0 u [] i3 (lmarks 1 l.length) [] 1 = some (1 + (l.length : Int)))
    (he : ∀ x ∈ l, x.f1 = [] ∧ x.f2 = []) (hl : l.length ≤ 100) :
    Calls Try.prog 3 #[.int .i64 a0] w fun e w' => e = .returned (.bool true) ∧ Below w.heap.size w w' := by
  have hu := Try.underlying26
  have H1 := Aside0.mk h1
  have H2 := Aside0.mk h2
  have H3 := Aside0.mk h3
  have H4 := Aside0.mk h4
  have HE := Aside0.mk he
  have HL := Aside0.mk hl
  have hm := lmarks_length 1 l.length
  clear h1 h2 h3 h4 he hl
  go_enter Try.func3, Try.ntmps3
  go_wp2_with (fail)
  refine (spec_HouseStart.calls k a0 _ _ _ _ _ _ _ H1.out).mono ?_
  rintro e w1 ⟨v2, v4, v5, rfl, s2, s4, s5, hb⟩
  obtain ⟨A2, c2, e2⟩ := Kd.R_slice (Kd.S_R s2)
  obtain ⟨A4, c4, e4⟩ := Kd.R_slice (Kd.S_R s4)
  obtain ⟨A5, c5, e5⟩ := Kd.R_slice (Kd.S_R s5)
  subst e2 e4 e5
  simp only [List.length_nil] at s2 s5 ⊢
  have C4 := Aside0.mk (Kd.S_reads' s4).2.2
  have K4 := Aside0.mk (Kd.S_reads' s4).2.1
  have HB1 := Aside0.mk hb
  clear s2 s4 s5 hb
  have HX1 := Aside0.mk (Box6.new w1 i0 u (.slice A2 0 c2) i3 (.slice A4 l.length c4) (.slice A5 0 c5))
  have HW2 := Aside0.mk (below_alloc (Below.refl w1.heap.size w1) (.cells #[.int .i64 i0, .bool u, .slice A2 0 c2, .int .i64 i3, .slice A4 l.length c4, .slice A5 0 c5] 26 (0, 0)))
  go_wp2_with (fail)
  generalize w1.alloc (.cells #[.int .i64 i0, .bool u, .slice A2 0 c2, .int .i64 i3, .slice A4 l.length c4, .slice A5 0 c5] 26 (0, 0)) = W2 at HX1 HW2 ⊢
  have C4 := Aside0.mk (Kd.C_below C4.out HW2.out)
  refine (impl_HouseStart.calls k a0 _ _ _ _ _ _ _ H2.out).mono ?_
  rintro e w3 ⟨v2, v4, v5, rfl, s2, s4, s5, hb⟩
  obtain ⟨B2, d2, e2⟩ := Kd.R_slice (Kd.S_R s2)
  obtain ⟨B4, d4, e4⟩ := Kd.R_slice (Kd.S_R s4)
  obtain ⟨B5, d5, e5⟩ := Kd.R_slice (Kd.S_R s5)
  subst e2 e4 e5
  simp only [List.length_nil] at s2 s5 ⊢
  have S4 := Aside0.mk s4
  have HM3 := Aside0.mk hb
  clear s2 s4 s5 hb
  have HX2 := Aside0.mk (Box6.new w3 i0 u (.slice B2 0 d2) i3 (.slice B4 l.length d4) (.slice B5 0 d5))
  have HW4 := Aside0.mk (below_alloc (Below.refl w3.heap.size w3) (.cells #[.int .i64 i0, .bool u, .slice B2 0 d2, .int .i64 i3, .slice B4 l.length d4, .slice B5 0 d5] 26 (0, 0)))
  have HGT := Aside0.mk (Kd.R_lt (Kd.S_R S4.out))
  have HGB := Aside0.mk (Kd.R_base (Kd.S_R S4.out))
  have HM4 := Aside0.mk (below_step HM3.out HW4.out)
  have S4 := Aside0.mk (Kd.S_below S4.out HW4.out)
  have HX1b := Aside0.mk (HX1.out.below HM4.out HX1.out.lt)
  obtain ⟨p0, p1, p2, p3, p4, p5⟩ := HX1b.out
  go_wp2_with (fail)
  clear p0 p1 p2 p3 p4 p5
  generalize w3.alloc (.cells #[.int .i64 i0, .bool u, .slice B2 0 d2, .int .i64 i3, .slice B4 l.length d4, .slice B5 0 d5] 26 (0, 0)) = W4 at HX2 HW4 HM4 S4 HX1b ⊢
  refine (laws_eqHouse.calls k i0 u B2 d2 [] i3 B4 d4 l B5 d5 [] i0 u A2 c2 [] i3 A4 c4 l A5 c5 [] true _ (C_nil _ _ _) (Nat.zero_le _) (Kd.S_reads' S4.out).2.2 (Kd.S_reads' S4.out).2.1 (C_nil _ _ _) (Nat.zero_le _) (C_nil _ _ _) (Nat.zero_le _) (Kd.C_below C4.out HM4.out) K4.out (C_nil _ _ _) (Nat.zero_le _) H3.out).mono ?_
  rintro e w5 ⟨rfl, hb⟩
  have HM5 := Aside0.mk (below_step HM4.out hb)
  have S5 := Aside0.mk (Kd.S_below S4.out hb)
  have HX2 := Aside0.mk (HX2.out.below hb HX2.out.lt)
  have HX1c := Aside0.mk (HX1b.out.below hb HX1b.out.lt)
  clear hb
  obtain ⟨q0, q1, q2, q3, q4, q5⟩ := HX2.out
  go_wp2_with (fail)
  refine (markHouse_calls i0 u B2 d2 i3 B4 d4 B5 d5 l 1 w5 _ _ S5.out HE.out (by omega) HL.out).mono ?_
  rintro e w6 ⟨rfl, s6, hg⟩
  have hgb : ∀ k, (Value.slice B4 l.length d4).ownBlock = some k → W2.heap.size ≤ k := HGB.out
  have HM6 := Aside0.mk (HM5.out.grown hg HM5.out.size hgb)
  have HX2 := Aside0.mk (HX2.out.grown hg (fun e => by have := HGT.out _ e.symm; omega))
  have S6 := Aside0.mk s6
  clear s6 hg hgb q0 q1 q2 q3 q4 q5
  obtain ⟨q0, q1, q2, q3, q4, q5⟩ := HX2.out
  have hd1 : decide ((1 : Int) + (l.length : Int) < 0) = false := decide_eq_false (by omega)
  have hd2 : ((1 : Int) + (l.length : Int) != 1 + (l.length : Int)) = false := by simp
  have hrd := (Kd.S_reads' S6.out)
  rw [hm] at hrd
  have C6 := Aside0.mk hrd.2.2
  have K6 := Aside0.mk hrd.2.1
  clear hrd
  go_wp2_with (fail)
  have hh := laws_heldHouse.calls k i0 u B2 d2 [] i3 B4 d4 (lmarks 1 l.length) B5 d5 [] 1 (1 + (l.length : Int)) w6 (C_nil _ _ _) (Nat.zero_le _) (by rw [hm]; exact C6.out) (by rw [hm]; exact K6.out) (C_nil _ _ _) (Nat.zero_le _) H4.out
  rw [hm] at hh
  refine hh.mono ?_
  clear hh
  rintro e w7 ⟨rfl, hb⟩
  have C7 := Aside0.mk (Kd.C_below C6.out hb)
  have HX2 := Aside0.mk (HX2.out.below hb HX2.out.lt)
  have HM7 := Aside0.mk (HM6.out.trans (hb.mono HM6.out.size))
  clear hb q0 q1 q2 q3 q4 q5
  go_wp2_with (fail)
  refine (impl_HouseStart.calls k a0 _ _ _ _ _ _ _ H2.out).mono ?_
  rintro e w8 ⟨v2, v4, v5, rfl, s2, s4, s5, hb⟩
  obtain ⟨D2, f2, e2⟩ := Kd.R_slice (Kd.S_R s2)
  obtain ⟨D4, f4, e4⟩ := Kd.R_slice (Kd.S_R s4)
  obtain ⟨D5, f5, e5⟩ := Kd.R_slice (Kd.S_R s5)
  subst e2 e4 e5
  simp only [List.length_nil] at s2 s5 ⊢
  have S8 := Aside0.mk s4
  have C8 := Aside0.mk (Kd.C_below C7.out hb)
  have HX2 := Aside0.mk (HX2.out.below hb HX2.out.lt)
  have HM8 := Aside0.mk (HM7.out.trans (hb.mono HM7.out.size))
  clear s2 s4 s5 hb
  have HW9 := Aside0.mk (below_alloc (Below.refl w8.heap.size w8) (.cells #[.int .i64 i0, .bool u, .slice D2 0 f2, .int .i64 i3, .slice D4 l.length f4, .slice D5 0 f5] 26 (0, 0)))
  have HM9 := Aside0.mk (HM8.out.trans (HW9.out.mono HM8.out.size))
  have S9 := Aside0.mk (Kd.S_below S8.out HW9.out)
  have C9 := Aside0.mk (Kd.C_below C8.out HW9.out)
  have HX2 := Aside0.mk (HX2.out.below HW9.out HX2.out.lt)
  have HX1d := Aside0.mk (HX1.out.below HM9.out HX1.out.lt)
  obtain ⟨p0, p1, p2, p3, p4, p5⟩ := HX1d.out
  go_wp2_with (fail)
  clear p0 p1 p2 p3 p4 p5
  generalize w8.alloc (.cells #[.int .i64 i0, .bool u, .slice D2 0 f2, .int .i64 i3, .slice D4 l.length f4, .slice D5 0 f5] 26 (0, 0)) = W9 at HW9 HM9 S9 C9 HX2 HX1d ⊢
  refine (laws_eqHouse.calls k i0 u D2 f2 [] i3 D4 f4 l D5 f5 [] i0 u A2 c2 [] i3 A4 c4 l A5 c5 [] true _ (C_nil _ _ _) (Nat.zero_le _) (Kd.S_reads' S9.out).2.2 (Kd.S_reads' S9.out).2.1 (C_nil _ _ _) (Nat.zero_le _) (C_nil _ _ _) (Nat.zero_le _) (Kd.C_below C4.out HM9.out) K4.out (C_nil _ _ _) (Nat.zero_le _) H3.out).mono ?_
  rintro e w10 ⟨rfl, hb⟩
  have C10 := Aside0.mk (Kd.C_below C9.out hb)
  have HX2 := Aside0.mk (HX2.out.below hb HX2.out.lt)
  have HM10 := Aside0.mk (HM9.out.trans (hb.mono HM9.out.size))
  clear hb
  obtain ⟨q0, q1, q2, q3, q4, q5⟩ := HX2.out
  go_wp2_with (fail)
  have hh := laws_heldHouse.calls k i0 u B2 d2 [] i3 B4 d4 (lmarks 1 l.length) B5 d5 [] 1 (1 + (l.length : Int)) w10 (C_nil _ _ _) (Nat.zero_le _) (by rw [hm]; exact C10.out) (by rw [hm]; exact K6.out) (C_nil _ _ _) (Nat.zero_le _) H4.out
  rw [hm] at hh
  refine hh.mono ?_
  clear hh
  rintro e w11 ⟨rfl, hb⟩
  have HM11 := Aside0.mk (HM10.out.trans (hb.mono HM10.out.size))
  clear hb
  go_wp2_with (fail)
  go_ret
  exact ⟨rfl, below_step HB1.out (below_step HW2.out HM11.out)⟩
theorem house_facts (a0 : Int) : ∃ (i0 : Int) (u : Bool) (i3 : Int) (l : List S70), spec_HouseStart.f 40 a0 = some (i0, u, [], i3, l, []) ∧ impl_HouseStart.f 40 a0 = some (i0, u, [], i3, l, []) ∧
    laws_eqHouse.f 40 i0 u [] i3 l [] i0 u [] i3 l [] = some true ∧ laws_heldHouse.f 40 i0 u [] i3 (lmarks 1 l.length) [] 1 = some (1 + (l.length : Int)) ∧ (∀ x ∈ l, x.f1 = [] ∧ x.f2 = []) ∧ l.length ≤ 100 := by
  have hm : ∀ x ∈ lmarks 0 8, x.f1 = [] ∧ x.f2 = [] := by
    intro x hx
    obtain ⟨j, _, rfl⟩ := List.mem_map.1 hx
    exact ⟨rfl, rfl⟩
  by_cases h : 0 ≤ a0 ∧ a0 ≤ 2
  · obtain rfl | rfl | rfl : a0 = 0 ∨ a0 = 1 ∨ a0 = 2 := by omega
    · exact ⟨0, true, 0, lmarks 0 8, by kernel_rfl, by kernel_rfl, by kernel_rfl, by kernel_rfl, hm, by decide⟩
    · exact ⟨1, true, 0, lmarks 0 8, by kernel_rfl, by kernel_rfl, by kernel_rfl, by kernel_rfl, hm, by decide⟩
    · exact ⟨2, true, 0, lmarks 0 8, by kernel_rfl, by kernel_rfl, by kernel_rfl, by kernel_rfl, hm, by decide⟩
  · have e1 : spec_l12House.f a0 = some false := by
      unfold spec_l12House.f spec_l6In.f
      by_cases h0 : a0 ≥ 0
      · rw [if_pos h0, decide_eq_false (by omega)]; rfl
      · rw [if_neg h0]; rfl
    have e2 : impl_isHouse.f a0 = some false := by
      unfold impl_isHouse.f impl_within.f
      by_cases h0 : (0 : Int) ≤ a0
      · rw [if_pos h0, decide_eq_false (by omega)]; rfl
      · rw [if_neg h0]; rfl
    exact ⟨0, false, 0, [], by unfold spec_HouseStart.f; rw [e1]; rfl, by unfold impl_HouseStart.f; rw [e2]; rfl, by kernel_rfl, by kernel_rfl, by simp, by simp⟩
theorem law_walk (a0 : Int) (w : World) : Calls Try.prog 3 #[.int .i64 a0] w fun e w' => e = .returned (.bool true) ∧ Below w.heap.size w w' := by
  obtain ⟨i0, u, i3, l, h1, h2, h3, h4, h5, h6⟩ := house_facts a0
  exact law_calls 40 a0 i0 u i3 l w h1 h2 h3 h4 h5 h6
end Go.Proofs.Ythahadclegihaaa.PX
