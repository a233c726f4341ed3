/- What impl.LockAsk comes to. -/
import Derived.Test.YtjldpnhlegbjkaaS2
import Derived.Deep.Cut
namespace Go.Proofs.Ytjldpnhlegbjkaa.PA
open Go.RowKit Go.Proofs.YtjldpnhlegbjkaaW.PrintWords Go.Proofs.YtjldpnhlegbjkaaW.PrintLast Go.Proofs.YtjldpnhlegbjkaaW.PrintMore
attribute [local go_sem] max2_int min2_int max_two min_two max_three min_three max_four min_four
set_option linter.unusedVariables false
set_option linter.unusedSimpArgs false
def eqH (y x : S45) : Bool := decide (y.f0 = x.f0) && (decide (y.f1 = x.f1) && (decide (y.f2 = x.f2) && decide (y.f3 = x.f3)))
def tailF (s : Int) (l1 l2 : List S45) (x : S45) : Int × List S45 × List S45 × Bool × List S45 :=
  if 16 ≤ ((l1.filter (fun y => !decide (y.f0 = x.f0))).filter (fun y => !tkB x y)).length + (l2.filter (fun y => !decide (y.f0 = x.f0))).length then (s, l1, l2, false, [])
  else if mayB ((l1.filter (fun y => !decide (y.f0 = x.f0))).filter (fun y => !tkB x y)) (l2.filter (fun y => !decide (y.f0 = x.f0))) x = true then
    (s, putOf ((l1.filter (fun y => !decide (y.f0 = x.f0))).filter (fun y => !tkB x y)) x, l2.filter (fun y => !decide (y.f0 = x.f0)), true, (l1.filter (fun y => !decide (y.f0 = x.f0))).filter (tkB x))
  else (s, (l1.filter (fun y => !decide (y.f0 = x.f0))).filter (fun y => !tkB x y), putOf (l2.filter (fun y => !decide (y.f0 = x.f0))) x, false, (l1.filter (fun y => !decide (y.f0 = x.f0))).filter (tkB x))
def askF (s : Int) (l1 l2 : List S45) (x : S45) : Int × List S45 × List S45 × Bool × List S45 :=
  if lockB s l1 l2 = false then (0, [], [], false, [])
  else if holdB x = false ∨ x.f3 = true then (s, l1, l2, false, [])
  else if hasOf l1 x.f0 = true ∧ ((rd_T45 l1 (placeN l1 x : Nat)).f3 = true ∨ x.f1 ≤ (rd_T45 l1 (placeN l1 x : Nat)).f1) then (s, l1, l2, eqH (rd_T45 l1 (placeN l1 x : Nat)) x, [])
  else if hasOf l2 x.f0 = true ∧ x.f1 < (rd_T45 l2 (placeN l2 x : Nat)).f1 then (s, l1, l2, false, [])
  else tailF s l1 l2 x
theorem below_setRow {B g : Nat} {w0 w : World} (hb : Below B w0 w) (hBg : B ≤ g) (cs : Array Value) : Below B w0 (w.setRow g cs) :=
  hb.trans ⟨rfl, rfl, rfl, by simp [World.setRow], fun k hk => setRow_other w g k cs (by omega)⟩
theorem eq9t {α : Type} {y x : S45} (h : y.f3 = true) (g : Bool → α) : (if y.f0 = x.f0 then if y.f1 = x.f1 then if y.f2 = x.f2 then if x.f3 = false then g false else g true else g false else g false else g false) = g (eqH y x) := by
  unfold eqH; rw [h]; by_cases h0 : y.f0 = x.f0 <;> by_cases h1 : y.f1 = x.f1 <;> by_cases h2 : y.f2 = x.f2 <;> cases h3 : x.f3 <;> simp [h0, h1, h2]
theorem eq9f {α : Type} {y x : S45} (h : y.f3 = false) (g : Bool → α) : (if y.f0 = x.f0 then if y.f1 = x.f1 then if y.f2 = x.f2 then if x.f3 = true then g false else g true else g false else g false else g false) = g (eqH y x) := by
  unfold eqH; rw [h]; by_cases h0 : y.f0 = x.f0 <;> by_cases h1 : y.f1 = x.f1 <;> by_cases h2 : y.f2 = x.f2 <;> cases h3 : x.f3 <;> simp [h0, h1, h2]
theorem st_ {P : Program} {ops : Array Oper} {o : Oper} {a : Act} {Q : Exit → Act → World → Prop} {Kc : Act → World → Prop} {W : World} (hw : Region.wanted o (yielded ops a.tmps) = true) (ty : TypeId) (x y : Operand) (ho : o.op = .store ty x y)
    (g : Nat) (cells : Array Value) (hx : a.eval x = .pointer (some ⟨g, 0, none⟩)) (hy : a.eval y = .agg cells) (t : TypeId) (old : Array Value) (hg : W.heap[g]? = some (.cells old t (0, 0))) (hi : (P.info? ty).map (·.size) = some cells.size)
    (hold : old.size = cells.size) (h1 : cells.all (·.oneCell') = true) (h : Kc (a.put o.dst undef) (W.setRow g cells)) : if Region.wanted o (yielded ops a.tmps) = true then Oper.wp P o a W Kc Q else Kc (a.put o.dst undef) W := by
  rw [if_pos hw]
  exact wp_store_row ty x y ho g cells hx hy t old hg hi hold h1 h
theorem R4_own {w : World} {base : Nat} {ok ok' : Nat → Prop} {v : Value} {l : List S45} (h : k45.R 45 w base ok v l) (h0 : ∀ k, v.ownBlock = some k → ok' k) : k45.R 45 w base ok' v l := R4_mk h0 (R4_open h)
theorem R_setRow {e : Nat} {w : World} {b4 base : Nat} {ok : Nat → Prop} {v : Value} {l : List S45} (h : k45.R e w base ok v l) (hb : b4 < base) {cs : Array Value} : k45.R e (w.setRow b4 cs) base ok v l :=
  Kd.R_mono (Kd.R_step (Kd.R_bound h) (fun k hk _ => setRow_other _ _ _ _ (by have := hk.2.1; omega))) (fun _ hk => hk.1)
theorem place_has {l : List S45} {x : S45} (h : hasOf l x.f0 = true) : placeN l x < l.length := by
  unfold hasOf at h
  rw [List.any_eq_true] at h
  obtain ⟨y, hy, he⟩ := h
  have he := of_decide_eq_true he
  have : (l.filter (fun z => decide (z.f0 < x.f0))).length < l.length := by
    rw [List.length_filter_lt_length_iff_exists]
    exact ⟨y, hy, by simp; omega⟩
  unfold placeN placeOf
  omega
theorem lock_asc {s : Int} {l1 l2 : List S45} (h : lockB s l1 l2 = true) : Asc l1 ∧ Asc l2 ∧ l1.length ≤ 16 ∧ l2.length ≤ 16 := by
  simp only [lockB, holdsB, Bool.and_eq_true, decide_eq_true_eq] at h
  obtain ⟨_, h2, ⟨_, h3⟩, ⟨_, h4⟩, _⟩ := h
  exact ⟨h3, h4, by omega, by omega⟩
theorem placeN_eq (l : List S45) (x : S45) : placeOf l x.f0 = ((placeN l x : Nat) : Int) := by
  unfold placeN placeOf
  omega
set_option maxHeartbeats 8000000 in
set_option maxRecDepth 100000 in
theorem ask_calls (s : Int) (A1 : Option Addr) (c1 : Nat) (l1 : List S45) (A2 : Option Addr) (c2 : Nat) (l2 : List S45) (x : S45) (r1 : Int) (r2 r3 : List S45) (r4 : Bool) (r5 : List S45) (w : World)
    (hr1 : Kd.C k45 w A1 l1.length l1) (hc1 : l1.length ≤ c1) (hr2 : Kd.C k45 w A2 l2.length l2) (hc2 : l2.length ≤ c2) (hl1 : l1.length ≤ 1048576) (hl2 : l2.length ≤ 1048576) (h : askF s l1 l2 x = (r1, r2, r3, r4, r5)) :
    Calls Try.prog 31 #[.agg #[.int .i64 s, .slice A1 l1.length c1, .slice A2 l2.length c2], .agg #[.int .i64 x.f0, .int .i64 x.f1, .bool x.f2, .bool x.f3]] w fun e w' => ∃ v1 v2 v3 : Value, e = .returned (.tuple #[.agg #[.int .i64 r1, v1, v2], .bool r4, v3]) ∧
      Kd.R k45 45 w' w.heap.size (fun k => some k ≠ v2.ownBlock ∧ some k ≠ v3.ownBlock) v1 r2 ∧ Kd.R k45 45 w' w.heap.size (fun k => some k ≠ v1.ownBlock ∧ some k ≠ v3.ownBlock) v2 r3 ∧ Kd.R k45 45 w' w.heap.size (fun k => some k ≠ v1.ownBlock ∧ some k ≠ v2.ownBlock) v3 r5 ∧ Below w.heap.size w w' := by
  have hu29 := Try.underlying29
  have hu45 := Try.underlying45
  have HR1 := Aside0.mk hr1
  have HC1 := Aside0.mk hc1
  have HR2 := Aside0.mk hr2
  have HC2 := Aside0.mk hc2
  have HL1 := Aside0.mk hl1
  have HL2 := Aside0.mk hl2
  have HLO : Aside0 (impl_LockOk.f s l1 l2 = some (lockB s l1 l2)) := ⟨by unfold impl_LockOk.f; rw [if_pos ⟨hl1, hl2⟩]⟩
  have HH := Aside0.mk h
  clear hr1 hc1 hr2 hc2 hl1 hl2 h
  have hs1 : (w.alloc (.cells #[.int .i64 s, .slice A1 l1.length c1, .slice A2 l2.length c2] 29 (0, 0))).heap.size = w.heap.size + 1 := by simp
  have hs2 : ((w.alloc (.cells #[.int .i64 s, .slice A1 l1.length c1, .slice A2 l2.length c2] 29 (0, 0))).alloc (.cells #[.int .i64 x.f0, .int .i64 x.f1, .bool x.f2, .bool x.f3] 45 (0, 0))).heap.size = w.heap.size + 1 + 1 := by simp
  have HB := Aside0.mk (below_alloc (below_alloc (below_alloc (Below.refl w.heap.size w) (.cells #[.int .i64 s, .slice A1 l1.length c1, .slice A2 l2.length c2] 29 (0, 0))) (.cells #[.int .i64 x.f0, .int .i64 x.f1, .bool x.f2, .bool x.f3] 45 (0, 0))) (.cells #[.int .i64 0, .slice none 0 0, .slice none 0 0] 29 (0, 0)))
  have P2 := Aside0.mk (blk_alloc (blk_alloc (blk_new w (.cells #[.int .i64 s, .slice A1 l1.length c1, .slice A2 l2.length c2] 29 (0, 0))) (.cells #[.int .i64 x.f0, .int .i64 x.f1, .bool x.f2, .bool x.f3] 45 (0, 0))) (.cells #[.int .i64 0, .slice none 0 0, .slice none 0 0] 29 (0, 0)))
  have P3 := Aside0.mk (blk_alloc (blk_new (w.alloc (.cells #[.int .i64 s, .slice A1 l1.length c1, .slice A2 l2.length c2] 29 (0, 0))) (.cells #[.int .i64 x.f0, .int .i64 x.f1, .bool x.f2, .bool x.f3] 45 (0, 0))) (.cells #[.int .i64 0, .slice none 0 0, .slice none 0 0] 29 (0, 0)))
  have P4 := Aside0.mk (blk_new ((w.alloc (.cells #[.int .i64 s, .slice A1 l1.length c1, .slice A2 l2.length c2] 29 (0, 0))).alloc (.cells #[.int .i64 x.f0, .int .i64 x.f1, .bool x.f2, .bool x.f3] 45 (0, 0))) (.cells #[.int .i64 0, .slice none 0 0, .slice none 0 0] 29 (0, 0)))
  rw [hs1] at P3
  rw [hs2] at P4
  clear hs1 hs2
  go_enter Try.func31, Try.ntmps31
  go_wp2_with (fail)
  generalize hW1 : ((w.alloc (.cells #[.int .i64 s, .slice A1 l1.length c1, .slice A2 l2.length c2] 29 (0, 0))).alloc (.cells #[.int .i64 x.f0, .int .i64 x.f1, .bool x.f2, .bool x.f3] 45 (0, 0))).alloc (.cells #[.int .i64 0, .slice none 0 0, .slice none 0 0] 29 (0, 0)) = W1 at HB P2 P3 P4 ⊢
  clear hW1
  have G1 : w.heap.size < w.heap.size + 1 := Nat.lt_succ_self _
  have G2 : w.heap.size + 1 < w.heap.size + 1 + 1 := Nat.lt_succ_self _
  generalize w.heap.size + 1 + 1 = b4 at P4 G2 ⊢
  generalize w.heap.size + 1 = b3 at P3 G1 G2 ⊢
  have G := Aside0.mk (And.intro G1 G2)
  clear G1 G2
  refine (impl_LockOk.calls s A1 c1 l1 A2 c2 l2 (lockB s l1 l2) W1 (Kd.C_below HR1.out HB.out) HC1.out (Kd.C_below HR2.out HB.out) HC2.out HLO.out).mono ?_
  rintro e W2 ⟨rfl, hb⟩
  have P2 := Aside0.mk (blk_below P2.out hb)
  have P3 := Aside0.mk (blk_below P3.out hb)
  have P4 := Aside0.mk (blk_below P4.out hb)
  have HB := Aside0.mk (below_step HB.out hb)
  clear hb
  cases hok : lockB s l1 l2 with
  | false =>
    have hh := HH.out
    unfold askF at hh
    rw [if_pos hok] at hh
    simp only [Prod.mk.injEq] at hh
    obtain ⟨rfl, rfl, rfl, rfl, rfl⟩ := hh
    clear hok
    go_wp2_with (((with_reducible refine gate_store (t := 29) (p := 4) rfl ?_); (refine wpList_store_row rfl 29 (.tmp 4) (.tmp 19) rfl b4 #[.int .i64 0, .slice none 0 0, .slice none 0 0] rfl rfl 29 #[.int .i64 0, .slice none 0 0, .slice none 0 0] P4.out (by kernel_rfl) rfl (by simp [Value.oneCell']) ?_; have P4 := Aside0.mk (setRow_heap W2 b4 _ #[.int .i64 0, .slice none 0 0, .slice none 0 0] 29 (0, 0) P4.out); have HS := Aside0.mk (below_setRow (Below.refl b4 W2) (Nat.le_refl b4) #[.int .i64 0, .slice none 0 0, .slice none 0 0]); generalize W2.setRow b4 #[.int .i64 0, .slice none 0 0, .slice none 0 0] = W3 at P4 HS ⊢; refine Aside0.out ?_)))
    refine Aside0.mk ?_
    iterate 12 (try go_step)
    refine bodyPost_ret (results_ctt rfl _ _ b4 29 #[.int .i64 0, .slice none 0 0, .slice none 0 0] (0, 0) _ rfl P4.out hu29 rfl (by kernel_rfl)) rfl ?_
    exact ⟨_, _, _, rfl, Kd.R_nil _ _ _ _ _, Kd.R_nil _ _ _ _ _, Kd.R_nil _ _ _ _ _, HB.out.trans (HS.out.mono (by have := G.out; omega))⟩
  | true =>
    have hx0 := (blk_cell P3.out 0).trans (show _ = some (.int .i64 x.f0) from rfl)
    have hx1 := (blk_cell P3.out 1).trans (show _ = some (.int .i64 x.f1) from rfl)
    have hx2 := (blk_cell P3.out 2).trans (show _ = some (.bool x.f2) from rfl)
    have hx3 := (blk_cell P3.out 3).trans (show _ = some (.bool x.f3) from rfl)
    obtain ⟨ha1, ha2, hq1, hq2⟩ := lock_asc hok
    have HCL : Aside0 (impl_lockClone.f s l1 l2 = some (s, l1, l2)) := ⟨by unfold impl_lockClone.f impl_Hold_56.f; rw [if_pos (by omega), if_pos (by omega)]; rfl⟩
    have HP1 : Aside0 (impl_Hold_46.f l1 x.f0 = some (((placeN l1 x : Nat) : Int), hasOf l1 x.f0)) := ⟨by unfold impl_Hold_46.f; rw [if_pos ⟨ha1, by omega⟩, placeN_eq]⟩
    have HP2 : Aside0 (impl_Hold_46.f l2 x.f0 = some (((placeN l2 x : Nat) : Int), hasOf l2 x.f0)) := ⟨by unfold impl_Hold_46.f; rw [if_pos ⟨ha2, by omega⟩, placeN_eq]⟩
    have HA1 := Aside0.mk ha1
    have HA2 := Aside0.mk ha2
    have HQ := Aside0.mk (And.intro hq1 hq2)
    have HOK := Aside0.mk hok
    clear ha1 ha2 hq1 hq2 hok
    go_wp2_with (fail)
    refine (impl_Hold_ok.calls x.f0 x.f1 x.f2 x.f3 (holdB x) W2 (hold_eq x)).mono ?_
    rintro e W3 ⟨rfl, hb⟩
    have P2 := Aside0.mk (blk_below P2.out hb)
    have P3 := Aside0.mk (blk_below P3.out hb)
    have P4 := Aside0.mk (blk_below P4.out hb)
    have HB := Aside0.mk (below_step HB.out hb)
    clear hb
    have hx0 := (blk_cell P3.out 0).trans (show _ = some (.int .i64 x.f0) from rfl)
    have hx1 := (blk_cell P3.out 1).trans (show _ = some (.int .i64 x.f1) from rfl)
    have hx2 := (blk_cell P3.out 2).trans (show _ = some (.bool x.f2) from rfl)
    have hx3 := (blk_cell P3.out 3).trans (show _ = some (.bool x.f3) from rfl)
    cases hho : holdB x with
    | false =>
      have hh := HH.out
      unfold askF at hh
      rw [if_neg (show ¬ (lockB s l1 l2 = false) by rw [HOK.out]; exact Bool.noConfusion), if_pos (Or.inl hho)] at hh
      simp only [Prod.mk.injEq] at hh
      obtain ⟨rfl, rfl, rfl, rfl, rfl⟩ := hh
      go_wp2_with (((with_reducible refine gate_dst (N := 27) rfl ?_); (refine wpList_load_row rfl 29 (.tmp 2) rfl w.heap.size rfl 29 #[.int .i64 s, .slice A1 l1.length c1, .slice A2 l2.length c2] (0, 0) _ P2.out hu29 rfl (by kernel_rfl) ?_)))
      refine (impl_lockClone.calls s A1 c1 l1 A2 c2 l2 s l1 l2 W3 (Kd.C_below HR1.out HB.out) HC1.out (Kd.C_below HR2.out HB.out) HC2.out HCL.out).mono ?_
      rintro e W4 ⟨v1, v2, rfl, q1, q2, hb⟩
      obtain ⟨B1, d1, e1⟩ := Kd.R_slice q1
      obtain ⟨B2, d2, e2⟩ := Kd.R_slice q2
      subst e1 e2
      have K4 := Aside0.mk (blk_lt P4.out)
      have K5 := Aside0.mk HB.out.size
      have Q1 := Aside0.mk q1
      have Q2 := Aside0.mk q2
      clear q1 q2
      have P2 := Aside0.mk (blk_below P2.out hb)
      have P3 := Aside0.mk (blk_below P3.out hb)
      have P4 := Aside0.mk (blk_below P4.out hb)
      have HB := Aside0.mk (below_step HB.out hb)
      clear hb
      go_wp2_with (((with_reducible refine gate_store (t := 29) (p := 4) rfl ?_); (refine wpList_store_row rfl 29 (.tmp 4) (.tmp 28) rfl b4 #[.int .i64 s, .slice B1 l1.length d1, .slice B2 l2.length d2] rfl rfl 29 #[.int .i64 0, .slice none 0 0, .slice none 0 0] P4.out (by kernel_rfl) rfl (by simp [Value.oneCell']) ?_; have P4 := Aside0.mk (setRow_heap W4 b4 _ #[.int .i64 s, .slice B1 l1.length d1, .slice B2 l2.length d2] 29 (0, 0) P4.out); have HS := Aside0.mk (below_setRow (Below.refl b4 W4) (Nat.le_refl b4) #[.int .i64 s, .slice B1 l1.length d1, .slice B2 l2.length d2]); have Q1 := Aside0.mk (R_setRow Q1.out (by have := K4.out; omega) (cs := #[.int .i64 s, .slice B1 l1.length d1, .slice B2 l2.length d2])); have Q2 := Aside0.mk (R_setRow Q2.out (by have := K4.out; omega) (cs := #[.int .i64 s, .slice B1 l1.length d1, .slice B2 l2.length d2])); generalize W4.setRow b4 #[.int .i64 s, .slice B1 l1.length d1, .slice B2 l2.length d2] = W5 at P4 HS Q1 Q2 ⊢; refine Aside0.out ?_)))
      refine Aside0.mk ?_
      iterate 12 (try go_step)
      refine bodyPost_ret (results_ctt rfl _ _ b4 29 #[.int .i64 s, .slice B1 l1.length d1, .slice B2 l2.length d2] (0, 0) _ rfl P4.out hu29 rfl (by kernel_rfl)) rfl ?_
      exact ⟨_, _, _, rfl, Kd.R_lower (Kd.R_mono Q1.out (fun k hk => ⟨hk, by simp [Value.ownBlock]⟩)) K5.out, Kd.R_lower (Kd.R_mono Q2.out (fun k hk => ⟨hk, by simp [Value.ownBlock]⟩)) K5.out, Kd.R_nil _ _ _ _ _, HB.out.trans (HS.out.mono (by have := G.out; omega))⟩
    | true =>
      cases hf3 : x.f3 with
      | true =>
        rw [hf3] at hx3
        have hh := HH.out
        unfold askF at hh
        rw [if_neg (show ¬ (lockB s l1 l2 = false) by rw [HOK.out]; exact Bool.noConfusion), if_pos (Or.inr hf3)] at hh
        simp only [Prod.mk.injEq] at hh
        obtain ⟨rfl, rfl, rfl, rfl, rfl⟩ := hh
        go_wp2_with (((with_reducible refine gate_dst (N := 27) rfl ?_); (refine wpList_load_row rfl 29 (.tmp 2) rfl w.heap.size rfl 29 #[.int .i64 s, .slice A1 l1.length c1, .slice A2 l2.length c2] (0, 0) _ P2.out hu29 rfl (by kernel_rfl) ?_)))
        refine (impl_lockClone.calls s A1 c1 l1 A2 c2 l2 s l1 l2 W3 (Kd.C_below HR1.out HB.out) HC1.out (Kd.C_below HR2.out HB.out) HC2.out HCL.out).mono ?_
        rintro e W4 ⟨v1, v2, rfl, q1, q2, hb⟩
        obtain ⟨B1, d1, e1⟩ := Kd.R_slice q1
        obtain ⟨B2, d2, e2⟩ := Kd.R_slice q2
        subst e1 e2
        have K4 := Aside0.mk (blk_lt P4.out)
        have K5 := Aside0.mk HB.out.size
        have Q1 := Aside0.mk q1
        have Q2 := Aside0.mk q2
        clear q1 q2
        have P2 := Aside0.mk (blk_below P2.out hb)
        have P3 := Aside0.mk (blk_below P3.out hb)
        have P4 := Aside0.mk (blk_below P4.out hb)
        have HB := Aside0.mk (below_step HB.out hb)
        clear hb
        go_wp2_with (((with_reducible refine gate_store (t := 29) (p := 4) rfl ?_); (refine wpList_store_row rfl 29 (.tmp 4) (.tmp 28) rfl b4 #[.int .i64 s, .slice B1 l1.length d1, .slice B2 l2.length d2] rfl rfl 29 #[.int .i64 0, .slice none 0 0, .slice none 0 0] P4.out (by kernel_rfl) rfl (by simp [Value.oneCell']) ?_; have P4 := Aside0.mk (setRow_heap W4 b4 _ #[.int .i64 s, .slice B1 l1.length d1, .slice B2 l2.length d2] 29 (0, 0) P4.out); have HS := Aside0.mk (below_setRow (Below.refl b4 W4) (Nat.le_refl b4) #[.int .i64 s, .slice B1 l1.length d1, .slice B2 l2.length d2]); have Q1 := Aside0.mk (R_setRow Q1.out (by have := K4.out; omega) (cs := #[.int .i64 s, .slice B1 l1.length d1, .slice B2 l2.length d2])); have Q2 := Aside0.mk (R_setRow Q2.out (by have := K4.out; omega) (cs := #[.int .i64 s, .slice B1 l1.length d1, .slice B2 l2.length d2])); generalize W4.setRow b4 #[.int .i64 s, .slice B1 l1.length d1, .slice B2 l2.length d2] = W5 at P4 HS Q1 Q2 ⊢; refine Aside0.out ?_)))
        refine Aside0.mk ?_
        iterate 12 (try go_step)
        refine bodyPost_ret (results_ctt rfl _ _ b4 29 #[.int .i64 s, .slice B1 l1.length d1, .slice B2 l2.length d2] (0, 0) _ rfl P4.out hu29 rfl (by kernel_rfl)) rfl ?_
        exact ⟨_, _, _, rfl, Kd.R_lower (Kd.R_mono Q1.out (fun k hk => ⟨hk, by simp [Value.ownBlock]⟩)) K5.out, Kd.R_lower (Kd.R_mono Q2.out (fun k hk => ⟨hk, by simp [Value.ownBlock]⟩)) K5.out, Kd.R_nil _ _ _ _ _, HB.out.trans (HS.out.mono (by have := G.out; omega))⟩
      | false =>
        rw [hf3] at hx3
        have HHO := Aside0.mk hho
        have HF3 := Aside0.mk hf3
        clear hho hf3
        go_upto_if 26 with (fail)
        refine wp_cond_false rfl ?_
        clear hx0 hx1 hx2 hx3
        refine wp_skip ?_
        simp only [Exit.then]
        apply_assumption
        refine wp_seq_k (fun K5 hK5 => ?_)
        go_cut [] from 7 (fun wx => Aside0 (wx.heap[w.heap.size]? = some (.cells #[.int .i64 s, .slice A1 l1.length c1, .slice A2 l2.length c2] 29 (0, 0))) ∧ Aside0 (wx.heap[b3]? = some (.cells #[.int .i64 x.f0, .int .i64 x.f1, .bool x.f2, .bool x.f3] 45 (0, 0))) ∧ Aside0 (wx.heap[b4]? = some (.cells #[.int .i64 0, .slice none 0 0, .slice none 0 0] 29 (0, 0))) ∧ Aside0 (Below w.heap.size w wx) ∧ Aside0 (¬ (hasOf l1 x.f0 = true ∧ ((rd_T45 l1 (placeN l1 x : Nat)).f3 = true ∨ x.f1 ≤ (rd_T45 l1 (placeN l1 x : Nat)).f1))))
        case first =>
          have hx0 := (blk_cell P3.out 0).trans (show _ = some (.int .i64 x.f0) from rfl)
          have hl0 := (blk_cell P2.out 1).trans (show _ = some (.slice A1 l1.length c1) from rfl)
          go_wp2_with (fail)
          refine (impl_Hold_46.calls A1 c1 l1 x.f0 ((placeN l1 x : Nat) : Int) (hasOf l1 x.f0) W3 (Kd.C_below HR1.out HB.out) HC1.out HP1.out).mono ?_
          rintro e W4 ⟨rfl, hb⟩
          have P2 := Aside0.mk (blk_below P2.out hb)
          have P3 := Aside0.mk (blk_below P3.out hb)
          have P4 := Aside0.mk (blk_below P4.out hb)
          have HB := Aside0.mk (below_step HB.out hb)
          clear hb
          clear hx0 hl0

          have hx0 := (blk_cell P3.out 0).trans (show _ = some (.int .i64 x.f0) from rfl)
          have hx1 := (blk_cell P3.out 1).trans (show _ = some (.int .i64 x.f1) from rfl)
          have hx2 := (blk_cell P3.out 2).trans (show _ = some (.bool x.f2) from rfl)
          have hx3 : W4.cell? ⟨b3, 3, none⟩ = some (.bool false) := (blk_cell P3.out 3).trans (show some (Value.bool x.f3) = _ by rw [HF3.out])
          have hl0 := (blk_cell P2.out 1).trans (show _ = some (.slice A1 l1.length c1) from rfl)
          have hl2 := (blk_cell P2.out 2).trans (show _ = some (.slice A2 l2.length c2) from rfl)
          cases hh1 : hasOf l1 x.f0 with
          | true =>
            have hpl := place_has hh1
            have HH1 := Aside0.mk hh1
            obtain ⟨ad, hA, z0, z1, z2, z3⟩ := at_T45 HR1.out ((placeN l1 x : Nat) : Int) (by omega) (by omega)
            subst hA
            rw [Int.toNat_natCast] at z0 z1 z2 z3
            have y0 := (HB.out.cell (World.block_lt_of_cell? w _ z0)).trans z0
            have y1 := (HB.out.cell (World.block_lt_of_cell? w _ z1)).trans z1
            have y2 := (HB.out.cell (World.block_lt_of_cell? w _ z2)).trans z2
            have y3 := (HB.out.cell (World.block_lt_of_cell? w _ z3)).trans z3
            clear z0 z1 z2 z3 hh1
            obtain ⟨y, hY⟩ : ∃ y, y = rd_T45 l1 ((placeN l1 x : Nat) : Int) := ⟨_, rfl⟩
            rw [← hY] at y0 y1 y2 y3
            have HY := Aside0.mk hY
            have HPL := Aside0.mk hpl
            have hpd : decide (placeN l1 x < l1.length) = true := decide_eq_true hpl
            clear hY
            have P9 := Aside0.mk (blk_new W4 (.cells #[.int .i64 y.f0, .int .i64 y.f1, .bool y.f2, .bool y.f3] 45 (0, 0)))
            have hxa : ∀ u : Bool, (W4.alloc (.cells #[.int .i64 y.f0, .int .i64 y.f1, .bool y.f2, .bool u] 45 (0, 0))).cell? ⟨b3, 1, none⟩ = some (.int .i64 x.f1) := fun u => (World.cell?_alloc_lt _ _ _ (blk_lt P3.out)).trans hx1
            have hxb := hxa false
            have hxc := hxa true
            have hxd : (W4.alloc (.cells #[.int .i64 y.f0, .int .i64 y.f1, .bool y.f2, .bool false] 45 (0, 0))).cell? ⟨b3, 0, none⟩ = some (.int .i64 x.f0) := (World.cell?_alloc_lt _ _ _ (blk_lt P3.out)).trans hx0
            have hxe : (W4.alloc (.cells #[.int .i64 y.f0, .int .i64 y.f1, .bool y.f2, .bool false] 45 (0, 0))).cell? ⟨w.heap.size, 2, none⟩ = some (.slice A2 l2.length c2) := (World.cell?_alloc_lt _ _ _ (blk_lt P2.out)).trans hl2
            clear hxa
            cases hy3 : y.f3 with
            | true =>
              rw [hy3] at y3 P9
              go_wp2_with (fail)
              have HPP : Aside0 ((hasOf l1 x.f0 = true ∧ ((rd_T45 l1 (placeN l1 x : Nat)).f3 = true ∨ x.f1 ≤ (rd_T45 l1 (placeN l1 x : Nat)).f1))) := ⟨HH1.out, Or.inl (by rw [← HY.out]; exact hy3)⟩
              have G9_ := Aside0.mk (blk_lt P4.out)
              clear hx0 hx1 hx2 hx3 hxb hxc hxd hxe hl0 hl2 y0 y1 y2 y3
              have P2 := Aside0.mk (blk_drew (blk_alloc P2.out (.cells #[.int .i64 y.f0, .int .i64 y.f1, .bool y.f2, .bool true] 45 (0, 0))))
              have P3 := Aside0.mk (blk_drew (blk_alloc P3.out (.cells #[.int .i64 y.f0, .int .i64 y.f1, .bool y.f2, .bool true] 45 (0, 0))))
              have P4 := Aside0.mk (blk_drew (blk_alloc P4.out (.cells #[.int .i64 y.f0, .int .i64 y.f1, .bool y.f2, .bool true] 45 (0, 0))))
              have P9 := Aside0.mk (blk_drew P9.out)
              have HB := Aside0.mk (below_drew1 (below_alloc HB.out (.cells #[.int .i64 y.f0, .int .i64 y.f1, .bool y.f2, .bool true] 45 (0, 0))))
              have hSS := (And.intro P2.out (And.intro P9.out P3.out))
              refine start_ (n := 8) (S := fun w' => w'.heap[w.heap.size]? = some (.cells #[.int .i64 s, .slice (some ad) l1.length c1, .slice A2 l2.length c2] 29 (0, 0)) ∧ w'.heap[W4.heap.size]? = some (.cells #[.int .i64 y.f0, .int .i64 y.f1, .bool y.f2, .bool true] 45 (0, 0)) ∧ w'.heap[b3]? = some (.cells #[.int .i64 x.f0, .int .i64 x.f1, .bool x.f2, .bool x.f3] 45 (0, 0))) (ds := []) (bt_ 8 0) (by kernel_rfl) rfl rfl hSS (fun hHeld => ?_)
              generalize (W4.alloc (.cells #[.int .i64 y.f0, .int .i64 y.f1, .bool y.f2, .bool true] 45 (0, 0))).drew = W5 at P2 P3 P4 P9 HB hHeld ⊢
              clear hSS
              have G9 : Aside0 (b4 < W4.heap.size) := ⟨G9_.out⟩
              generalize W4.heap.size = b9 at P9 hHeld G9 ⊢
              refine ld_ 0 (some 52) (bt_ 8 1) w.heap.size 29 (.tmp 2) #[.int .i64 s, .slice (some ad) l1.length c1, .slice A2 l2.length c2] _ (by kernel_rfl) hHeld (fun _ h_ => h_.1) hu29 rfl (by kernel_rfl) ?_
              refine ld_ 2 (some 54) (bt_ 8 5) b9 45 (.tmp 9) #[.int .i64 y.f0, .int .i64 y.f1, .bool y.f2, .bool true] _ (by kernel_rfl) hHeld (fun _ h_ => h_.2.1) hu45 rfl (by kernel_rfl) ?_
              refine ld_ 3 (some 55) (bt_ 8 13) b3 45 (.tmp 3) #[.int .i64 x.f0, .int .i64 x.f1, .bool x.f2, .bool x.f3] _ (by kernel_rfl) hHeld (fun _ h_ => h_.2.2) hu45 rfl (by kernel_rfl) ?_
              refine pu_ (v := .bool (eqH y x)) 4 (some 56) (bt_ 8 29) (by kernel_rfl) (hr := by (intro w'; go_simp; exact eq9t hy3 (fun b => Result.ok (Next.value (Value.bool b)) w'))) ?_
              clear hHeld
              refine one_ (i := 1) (N := some 53) (bt_ 8 31) rfl rfl (by kernel_rfl) (by decide) (fun K hK => ?_)
              refine goes_ Try.func50 (by kernel_rfl) rfl #[.agg #[.int .i64 s, .slice (some ad) l1.length c1, .slice A2 l2.length c2]] (by rfl) rfl rfl (by simp only [List.map_toArray, List.map_cons, List.map_nil]; rfl) ?_
              refine (impl_lockClone.calls s (some ad) c1 l1 A2 c2 l2 s l1 l2 W5 (Kd.C_below HR1.out HB.out) HC1.out (Kd.C_below HR2.out HB.out) HC2.out HCL.out).mono ?_
              rintro e W6 ⟨v1, v2, rfl, q1, q2, hb⟩
              refine ⟨_, rfl, ?_⟩
              obtain ⟨B1, d1, e1⟩ := Kd.R_slice q1
              obtain ⟨B2, d2, e2⟩ := Kd.R_slice q2
              subst e1 e2
              have K4 := Aside0.mk (blk_lt P4.out)
              have K5 := Aside0.mk HB.out.size
              have Q1 := Aside0.mk q1
              have Q2 := Aside0.mk q2
              clear q1 q2
              have P9 := Aside0.mk (blk_below P9.out hb)
              have P2 := Aside0.mk (blk_below P2.out hb)
              have P3 := Aside0.mk (blk_below P3.out hb)
              have P4 := Aside0.mk (blk_below P4.out hb)
              have HB := Aside0.mk (below_step HB.out hb)
              clear hb
              have HQS := Aside0.mk (And.intro P2.out (And.intro P9.out P3.out))
              refine hK.out _ _ HQS.out (fun hHeld => ?_)
              clear hHeld
              clear hK K
              refine norm_ (a' := ?_) ?_ ?_
              rotate_left
              · show Act.put _ (some 53) _ = _
                simp only [Act.put, List.setIfInBounds_toArray, List.set_cons_zero, List.set_cons_succ, i64_w, i32_w]
                rfl
              refine one_ (i := 5) (N := none) (bt_ 8 63) rfl rfl (by kernel_rfl) (by decide) (fun K hK => ?_)
              refine st_ rfl 29 (.tmp 4) (.tmp 53) rfl b4 #[.int .i64 s, .slice B1 l1.length d1, .slice B2 l2.length d2] rfl rfl 29 #[.int .i64 0, .slice none 0 0, .slice none 0 0] P4.out (by kernel_rfl) rfl (by simp [Value.oneCell']) ?_
              have P2 := Aside0.mk ((setRow_other W6 b4 w.heap.size #[.int .i64 s, .slice B1 l1.length d1, .slice B2 l2.length d2] (by have := G.out; omega)).trans P2.out)
              have P3 := Aside0.mk ((setRow_other W6 b4 b3 #[.int .i64 s, .slice B1 l1.length d1, .slice B2 l2.length d2] (by have := G.out; omega)).trans P3.out)
              have P9 := Aside0.mk ((setRow_other W6 b4 b9 #[.int .i64 s, .slice B1 l1.length d1, .slice B2 l2.length d2] (by have := G9.out; omega)).trans P9.out)
              have HS := Aside0.mk (below_setRow (Below.refl b4 W6) (Nat.le_refl b4) #[.int .i64 s, .slice B1 l1.length d1, .slice B2 l2.length d2])
              have P4 := Aside0.mk (setRow_heap W6 b4 _ #[.int .i64 s, .slice B1 l1.length d1, .slice B2 l2.length d2] 29 (0, 0) P4.out)
              have Q1 := Aside0.mk (R_setRow Q1.out (by have := K4.out; omega) (cs := #[.int .i64 s, .slice B1 l1.length d1, .slice B2 l2.length d2]))
              have Q2 := Aside0.mk (R_setRow Q2.out (by have := K4.out; omega) (cs := #[.int .i64 s, .slice B1 l1.length d1, .slice B2 l2.length d2]))
              generalize W6.setRow b4 #[.int .i64 s, .slice B1 l1.length d1, .slice B2 l2.length d2] = W7 at P2 P3 P4 P9 HS Q1 Q2 ⊢
              have HQS := Aside0.mk (And.intro P2.out (And.intro P9.out P3.out))
              refine hK.out _ _ HQS.out (fun hHeld => ?_)
              clear hHeld
              clear hK K
              refine norm_ (a' := ?_) ?_ ?_
              rotate_left
              · show Act.put _ (none) _ = _
                simp only [Act.put, List.setIfInBounds_toArray, List.set_cons_zero, List.set_cons_succ, i64_w, i32_w]
                rfl
              refine pu_ 6 (some 5) (bt_ 8 127) (by kernel_rfl) ?_
              refine pu_ 7 (some 6) (bt_ 8 255) (by kernel_rfl) ?_
              refine done_ (by kernel_rfl) ?_
              have hh := HH.out
              unfold askF at hh
              rw [if_neg (show ¬ (lockB s l1 l2 = false) by rw [HOK.out]; exact Bool.noConfusion), if_neg (show ¬ (holdB x = false ∨ x.f3 = true) by rw [HHO.out, HF3.out]; simp), if_pos HPP.out] at hh
              simp only [Prod.mk.injEq] at hh
              obtain ⟨rfl, rfl, rfl, rfl, rfl⟩ := hh
              go_wp2_with (fail)
              refine bodyPost_ret (results_ctt rfl _ _ b4 29 #[.int .i64 s, .slice B1 l1.length d1, .slice B2 l2.length d2] (0, 0) _ rfl P4.out hu29 rfl (by kernel_rfl)) rfl ?_
              exact ⟨.slice B1 l1.length d1, .slice B2 l2.length d2, .slice none 0 0, by rw [← HY.out]; rfl, Kd.R_lower (Kd.R_mono Q1.out (fun k hk => ⟨hk, by simp [Value.ownBlock]⟩)) K5.out, Kd.R_lower (Kd.R_mono Q2.out (fun k hk => ⟨hk, by simp [Value.ownBlock]⟩)) K5.out, Kd.R_nil _ _ _ _ _, HB.out.trans (HS.out.mono (by have := G.out; omega))⟩
            | false =>
              rw [hy3] at y3 P9
              by_cases hy1 : x.f1 ≤ y.f1
              · have hyd : decide (x.f1 ≤ y.f1) = true := decide_eq_true hy1
                go_wp2_with (fail)
                have HPP : Aside0 ((hasOf l1 x.f0 = true ∧ ((rd_T45 l1 (placeN l1 x : Nat)).f3 = true ∨ x.f1 ≤ (rd_T45 l1 (placeN l1 x : Nat)).f1))) := ⟨HH1.out, Or.inr (by rw [← HY.out]; exact hy1)⟩
                have G9_ := Aside0.mk (blk_lt P4.out)
                clear hx0 hx1 hx2 hx3 hxb hxc hxd hxe hl0 hl2 y0 y1 y2 y3
                have P2 := Aside0.mk (blk_drew (blk_alloc P2.out (.cells #[.int .i64 y.f0, .int .i64 y.f1, .bool y.f2, .bool false] 45 (0, 0))))
                have P3 := Aside0.mk (blk_drew (blk_alloc P3.out (.cells #[.int .i64 y.f0, .int .i64 y.f1, .bool y.f2, .bool false] 45 (0, 0))))
                have P4 := Aside0.mk (blk_drew (blk_alloc P4.out (.cells #[.int .i64 y.f0, .int .i64 y.f1, .bool y.f2, .bool false] 45 (0, 0))))
                have P9 := Aside0.mk (blk_drew P9.out)
                have HB := Aside0.mk (below_drew1 (below_alloc HB.out (.cells #[.int .i64 y.f0, .int .i64 y.f1, .bool y.f2, .bool false] 45 (0, 0))))
                have hSS := (And.intro P2.out (And.intro P9.out P3.out))
                refine start_ (n := 8) (S := fun w' => w'.heap[w.heap.size]? = some (.cells #[.int .i64 s, .slice (some ad) l1.length c1, .slice A2 l2.length c2] 29 (0, 0)) ∧ w'.heap[W4.heap.size]? = some (.cells #[.int .i64 y.f0, .int .i64 y.f1, .bool y.f2, .bool false] 45 (0, 0)) ∧ w'.heap[b3]? = some (.cells #[.int .i64 x.f0, .int .i64 x.f1, .bool x.f2, .bool x.f3] 45 (0, 0))) (ds := []) (bt_ 8 0) (by kernel_rfl) rfl rfl hSS (fun hHeld => ?_)
                generalize (W4.alloc (.cells #[.int .i64 y.f0, .int .i64 y.f1, .bool y.f2, .bool false] 45 (0, 0))).drew = W5 at P2 P3 P4 P9 HB hHeld ⊢
                clear hSS
                have G9 : Aside0 (b4 < W4.heap.size) := ⟨G9_.out⟩
                generalize W4.heap.size = b9 at P9 hHeld G9 ⊢
                refine ld_ 0 (some 52) (bt_ 8 1) w.heap.size 29 (.tmp 2) #[.int .i64 s, .slice (some ad) l1.length c1, .slice A2 l2.length c2] _ (by kernel_rfl) hHeld (fun _ h_ => h_.1) hu29 rfl (by kernel_rfl) ?_
                refine ld_ 2 (some 54) (bt_ 8 5) b9 45 (.tmp 9) #[.int .i64 y.f0, .int .i64 y.f1, .bool y.f2, .bool false] _ (by kernel_rfl) hHeld (fun _ h_ => h_.2.1) hu45 rfl (by kernel_rfl) ?_
                refine ld_ 3 (some 55) (bt_ 8 13) b3 45 (.tmp 3) #[.int .i64 x.f0, .int .i64 x.f1, .bool x.f2, .bool x.f3] _ (by kernel_rfl) hHeld (fun _ h_ => h_.2.2) hu45 rfl (by kernel_rfl) ?_
                refine pu_ (v := .bool (eqH y x)) 4 (some 56) (bt_ 8 29) (by kernel_rfl) (hr := by (intro w'; go_simp; exact eq9f hy3 (fun b => Result.ok (Next.value (Value.bool b)) w'))) ?_
                clear hHeld
                refine one_ (i := 1) (N := some 53) (bt_ 8 31) rfl rfl (by kernel_rfl) (by decide) (fun K hK => ?_)
                refine goes_ Try.func50 (by kernel_rfl) rfl #[.agg #[.int .i64 s, .slice (some ad) l1.length c1, .slice A2 l2.length c2]] (by rfl) rfl rfl (by simp only [List.map_toArray, List.map_cons, List.map_nil]; rfl) ?_
                refine (impl_lockClone.calls s (some ad) c1 l1 A2 c2 l2 s l1 l2 W5 (Kd.C_below HR1.out HB.out) HC1.out (Kd.C_below HR2.out HB.out) HC2.out HCL.out).mono ?_
                rintro e W6 ⟨v1, v2, rfl, q1, q2, hb⟩
                refine ⟨_, rfl, ?_⟩
                obtain ⟨B1, d1, e1⟩ := Kd.R_slice q1
                obtain ⟨B2, d2, e2⟩ := Kd.R_slice q2
                subst e1 e2
                have K4 := Aside0.mk (blk_lt P4.out)
                have K5 := Aside0.mk HB.out.size
                have Q1 := Aside0.mk q1
                have Q2 := Aside0.mk q2
                clear q1 q2
                have P9 := Aside0.mk (blk_below P9.out hb)
                have P2 := Aside0.mk (blk_below P2.out hb)
                have P3 := Aside0.mk (blk_below P3.out hb)
                have P4 := Aside0.mk (blk_below P4.out hb)
                have HB := Aside0.mk (below_step HB.out hb)
                clear hb
                have HQS := Aside0.mk (And.intro P2.out (And.intro P9.out P3.out))
                refine hK.out _ _ HQS.out (fun hHeld => ?_)
                clear hHeld
                clear hK K
                refine norm_ (a' := ?_) ?_ ?_
                rotate_left
                · show Act.put _ (some 53) _ = _
                  simp only [Act.put, List.setIfInBounds_toArray, List.set_cons_zero, List.set_cons_succ, i64_w, i32_w]
                  rfl
                refine one_ (i := 5) (N := none) (bt_ 8 63) rfl rfl (by kernel_rfl) (by decide) (fun K hK => ?_)
                refine st_ rfl 29 (.tmp 4) (.tmp 53) rfl b4 #[.int .i64 s, .slice B1 l1.length d1, .slice B2 l2.length d2] rfl rfl 29 #[.int .i64 0, .slice none 0 0, .slice none 0 0] P4.out (by kernel_rfl) rfl (by simp [Value.oneCell']) ?_
                have P2 := Aside0.mk ((setRow_other W6 b4 w.heap.size #[.int .i64 s, .slice B1 l1.length d1, .slice B2 l2.length d2] (by have := G.out; omega)).trans P2.out)
                have P3 := Aside0.mk ((setRow_other W6 b4 b3 #[.int .i64 s, .slice B1 l1.length d1, .slice B2 l2.length d2] (by have := G.out; omega)).trans P3.out)
                have P9 := Aside0.mk ((setRow_other W6 b4 b9 #[.int .i64 s, .slice B1 l1.length d1, .slice B2 l2.length d2] (by have := G9.out; omega)).trans P9.out)
                have HS := Aside0.mk (below_setRow (Below.refl b4 W6) (Nat.le_refl b4) #[.int .i64 s, .slice B1 l1.length d1, .slice B2 l2.length d2])
                have P4 := Aside0.mk (setRow_heap W6 b4 _ #[.int .i64 s, .slice B1 l1.length d1, .slice B2 l2.length d2] 29 (0, 0) P4.out)
                have Q1 := Aside0.mk (R_setRow Q1.out (by have := K4.out; omega) (cs := #[.int .i64 s, .slice B1 l1.length d1, .slice B2 l2.length d2]))
                have Q2 := Aside0.mk (R_setRow Q2.out (by have := K4.out; omega) (cs := #[.int .i64 s, .slice B1 l1.length d1, .slice B2 l2.length d2]))
                generalize W6.setRow b4 #[.int .i64 s, .slice B1 l1.length d1, .slice B2 l2.length d2] = W7 at P2 P3 P4 P9 HS Q1 Q2 ⊢
                have HQS := Aside0.mk (And.intro P2.out (And.intro P9.out P3.out))
                refine hK.out _ _ HQS.out (fun hHeld => ?_)
                clear hHeld
                clear hK K
                refine norm_ (a' := ?_) ?_ ?_
                rotate_left
                · show Act.put _ (none) _ = _
                  simp only [Act.put, List.setIfInBounds_toArray, List.set_cons_zero, List.set_cons_succ, i64_w, i32_w]
                  rfl
                refine pu_ 6 (some 5) (bt_ 8 127) (by kernel_rfl) ?_
                refine pu_ 7 (some 6) (bt_ 8 255) (by kernel_rfl) ?_
                refine done_ (by kernel_rfl) ?_
                have hh := HH.out
                unfold askF at hh
                rw [if_neg (show ¬ (lockB s l1 l2 = false) by rw [HOK.out]; exact Bool.noConfusion), if_neg (show ¬ (holdB x = false ∨ x.f3 = true) by rw [HHO.out, HF3.out]; simp), if_pos HPP.out] at hh
                simp only [Prod.mk.injEq] at hh
                obtain ⟨rfl, rfl, rfl, rfl, rfl⟩ := hh
                go_wp2_with (fail)
                refine bodyPost_ret (results_ctt rfl _ _ b4 29 #[.int .i64 s, .slice B1 l1.length d1, .slice B2 l2.length d2] (0, 0) _ rfl P4.out hu29 rfl (by kernel_rfl)) rfl ?_
                exact ⟨.slice B1 l1.length d1, .slice B2 l2.length d2, .slice none 0 0, by rw [← HY.out]; rfl, Kd.R_lower (Kd.R_mono Q1.out (fun k hk => ⟨hk, by simp [Value.ownBlock]⟩)) K5.out, Kd.R_lower (Kd.R_mono Q2.out (fun k hk => ⟨hk, by simp [Value.ownBlock]⟩)) K5.out, Kd.R_nil _ _ _ _ _, HB.out.trans (HS.out.mono (by have := G.out; omega))⟩
              · have hyd : decide (x.f1 ≤ y.f1) = false := decide_eq_false hy1
                have HNP : Aside0 (¬ (hasOf l1 x.f0 = true ∧ ((rd_T45 l1 (placeN l1 x : Nat)).f3 = true ∨ x.f1 ≤ (rd_T45 l1 (placeN l1 x : Nat)).f1))) := ⟨by rintro ⟨_, h | h⟩ <;> rw [← HY.out] at h; exact Bool.noConfusion (hy3.symm.trans h); exact hy1 h⟩
                go_wp2_with (fail)
                clear hx0 hx1 hx2 hx3 hxb hxc hxd hxe hl0 hl2 y0 y1 y2 y3 P9 hyd
                have P2 := Aside0.mk (blk_alloc P2.out (.cells #[.int .i64 y.f0, .int .i64 y.f1, .bool y.f2, .bool false] 45 (0, 0)))
                have P3 := Aside0.mk (blk_alloc P3.out (.cells #[.int .i64 y.f0, .int .i64 y.f1, .bool y.f2, .bool false] 45 (0, 0)))
                have P4 := Aside0.mk (blk_alloc P4.out (.cells #[.int .i64 y.f0, .int .i64 y.f1, .bool y.f2, .bool false] 45 (0, 0)))
                have HB := Aside0.mk (below_alloc HB.out (.cells #[.int .i64 y.f0, .int .i64 y.f1, .bool y.f2, .bool false] 45 (0, 0)))
                go_meet
                case rel => exact ⟨P2, P3, P4, HB, HNP⟩
          | false =>
            go_wp2_with (fail)
            go_meet
            case rel => exact ⟨P2, P3, P4, HB, ⟨fun e => Bool.noConfusion (hh1.symm.trans e.1)⟩⟩
        case rest =>
          clear P2 P3 P4 HB
          obtain ⟨P2, P3, P4, HB, HNP⟩ := hcut
          apply hK5
          clear hK5 K5
          refine wp_seq_k (fun K10 hK10 => ?_)
          go_cut [] from 7 (fun wx => Aside0 (wx.heap[w.heap.size]? = some (.cells #[.int .i64 s, .slice A1 l1.length c1, .slice A2 l2.length c2] 29 (0, 0))) ∧ Aside0 (wx.heap[b3]? = some (.cells #[.int .i64 x.f0, .int .i64 x.f1, .bool x.f2, .bool x.f3] 45 (0, 0))) ∧ Aside0 (wx.heap[b4]? = some (.cells #[.int .i64 0, .slice none 0 0, .slice none 0 0] 29 (0, 0))) ∧ Aside0 (Below w.heap.size w wx) ∧ Aside0 (¬ (hasOf l2 x.f0 = true ∧ x.f1 < (rd_T45 l2 (placeN l2 x : Nat)).f1)))
          case first =>
            have hx0 := (blk_cell P3.out 0).trans (show _ = some (.int .i64 x.f0) from rfl)
            have hl2 := (blk_cell P2.out 2).trans (show _ = some (.slice A2 l2.length c2) from rfl)
            go_wp2_with (fail)
            refine (impl_Hold_46.calls A2 c2 l2 x.f0 ((placeN l2 x : Nat) : Int) (hasOf l2 x.f0) wc (Kd.C_below HR2.out HB.out) HC2.out HP2.out).mono ?_
            rintro e W5 ⟨rfl, hb⟩
            have P2 := Aside0.mk (blk_below P2.out hb)
            have P3 := Aside0.mk (blk_below P3.out hb)
            have P4 := Aside0.mk (blk_below P4.out hb)
            have HB := Aside0.mk (below_step HB.out hb)
            clear hb
            clear hx0 hl2
            have hx0 := (blk_cell P3.out 0).trans (show _ = some (.int .i64 x.f0) from rfl)
            have hx1 := (blk_cell P3.out 1).trans (show _ = some (.int .i64 x.f1) from rfl)
            have hx2 := (blk_cell P3.out 2).trans (show _ = some (.bool x.f2) from rfl)
            have hx3 : W5.cell? ⟨b3, 3, none⟩ = some (.bool false) := (blk_cell P3.out 3).trans (show some (Value.bool x.f3) = _ by rw [HF3.out])
            have hl0 := (blk_cell P2.out 0).trans (show _ = some (.int .i64 s) from rfl)
            have hl1 := (blk_cell P2.out 1).trans (show _ = some (.slice A1 l1.length c1) from rfl)
            have hl2 := (blk_cell P2.out 2).trans (show _ = some (.slice A2 l2.length c2) from rfl)
            cases hh2 : hasOf l2 x.f0 with
            | true =>
              have hpl2 := place_has hh2
              have HH2 := Aside0.mk hh2
              obtain ⟨ad2, hA2, t0, t1, t2, t3⟩ := at_T45 HR2.out ((placeN l2 x : Nat) : Int) (by omega) (by omega)
              subst hA2
              rw [Int.toNat_natCast] at t1
              have u1 := (HB.out.cell (World.block_lt_of_cell? w _ t1)).trans t1
              clear t0 t1 t2 t3 hh2
              obtain ⟨y2, hY2⟩ : ∃ y2, y2 = rd_T45 l2 ((placeN l2 x : Nat) : Int) := ⟨_, rfl⟩
              rw [← hY2] at u1
              have HY2 := Aside0.mk hY2
              have HPL2 := Aside0.mk hpl2
              have hpd2 : decide (placeN l2 x < l2.length) = true := decide_eq_true hpl2
              clear hY2
              go_wp2_with (fail)
              have P2 := Aside0.mk (blk_drew P2.out)
              have P3 := Aside0.mk (blk_drew P3.out)
              have P4 := Aside0.mk (blk_drew P4.out)
              have HB := Aside0.mk (below_drew1 HB.out)
              refine start_ (n := 12) (S := fun w' => w'.cell? ⟨w.heap.size, 2, none⟩ = some (.slice (some ad2) l2.length c2) ∧ w'.cell? ⟨(ad2.add (placeN l2 x * 4)).block, (ad2.add (placeN l2 x * 4)).off + 1, none⟩ = some (.int .i64 y2.f1) ∧ w'.cell? ⟨b3, 1, none⟩ = some (.int .i64 x.f1)) (ds := []) (bt_ 12 0) (by kernel_rfl) rfl rfl ⟨hl2, u1, hx1⟩ (fun hHeld => ?_)
              clear hx0 hx1 hx2 hx3 hl0 hl1 hl2 u1
              generalize W5.drew = W6 at P2 P3 P4 HB hHeld ⊢
              refine pu_ 0 (some 65) (bt_ 12 1) (by kernel_rfl) ?_
              refine pu_ 1 (some 66) (bt_ 12 3) (by kernel_rfl) ?_
              refine pu_ 2 (some 67) (bt_ 12 7) (by kernel_rfl) ?_
              refine tk_ 3 (some 68) (bt_ 12 15) (by kernel_rfl) hHeld ?_
              refine pu_ 4 (some 69) (bt_ 12 31) (by kernel_rfl) ?_
              refine pu_ 5 (some 70) (bt_ 12 63) (by kernel_rfl) ?_
              refine pu_ 6 (some 71) (bt_ 12 127) (by kernel_rfl) ?_
              refine tk_ 7 (some 72) (bt_ 12 255) (by kernel_rfl) hHeld ?_
              refine pu_ 8 (some 73) (bt_ 12 511) (by kernel_rfl) ?_
              refine tk_ 9 (some 74) (bt_ 12 1023) (by kernel_rfl) hHeld ?_
              refine pu_ 10 (some 75) (bt_ 12 2047) (by kernel_rfl) ?_
              refine pu_ 11 (some 76) (bt_ 12 4095) (by kernel_rfl) ?_
              refine done_ (by kernel_rfl) ?_
              clear hHeld
              by_cases hy2 : x.f1 < y2.f1
              · have hye : decide (x.f1 < y2.f1) = true := decide_eq_true hy2
                have HPQ : Aside0 ((hasOf l2 x.f0 = true ∧ x.f1 < (rd_T45 l2 (placeN l2 x : Nat)).f1)) := ⟨HH2.out, by rw [← HY2.out]; exact hy2⟩
                have hh := HH.out
                unfold askF at hh
                rw [if_neg (show ¬ (lockB s l1 l2 = false) by rw [HOK.out]; exact Bool.noConfusion), if_neg (show ¬ (holdB x = false ∨ x.f3 = true) by rw [HHO.out, HF3.out]; simp), if_neg HNP.out, if_pos HPQ.out] at hh
                simp only [Prod.mk.injEq] at hh
                obtain ⟨rfl, rfl, rfl, rfl, rfl⟩ := hh
                go_wp2_with (((with_reducible refine gate_dst (N := 77) rfl ?_); (refine wpList_load_row rfl 29 (.tmp 2) rfl w.heap.size rfl 29 #[.int .i64 s, .slice A1 l1.length c1, .slice (some ad2) l2.length c2] (0, 0) _ P2.out hu29 rfl (by kernel_rfl) ?_)))
                refine (impl_lockClone.calls s A1 c1 l1 (some ad2) c2 l2 s l1 l2 W6 (Kd.C_below HR1.out HB.out) HC1.out (Kd.C_below HR2.out HB.out) HC2.out HCL.out).mono ?_
                rintro e W7 ⟨v1, v2, rfl, q1, q2, hb⟩
                obtain ⟨B1, d1, e1⟩ := Kd.R_slice q1
                obtain ⟨B2, d2, e2⟩ := Kd.R_slice q2
                subst e1 e2
                have K4 := Aside0.mk (blk_lt P4.out)
                have K5 := Aside0.mk HB.out.size
                have Q1 := Aside0.mk q1
                have Q2 := Aside0.mk q2
                clear q1 q2
                have P2 := Aside0.mk (blk_below P2.out hb)
                have P3 := Aside0.mk (blk_below P3.out hb)
                have P4 := Aside0.mk (blk_below P4.out hb)
                have HB := Aside0.mk (below_step HB.out hb)
                clear hb
                go_wp2_with (((with_reducible refine gate_store (t := 29) (p := 4) rfl ?_); (refine wpList_store_row rfl 29 (.tmp 4) (.tmp 78) rfl b4 #[.int .i64 s, .slice B1 l1.length d1, .slice B2 l2.length d2] rfl rfl 29 #[.int .i64 0, .slice none 0 0, .slice none 0 0] P4.out (by kernel_rfl) rfl (by simp [Value.oneCell']) ?_; have P4 := Aside0.mk (setRow_heap W7 b4 _ #[.int .i64 s, .slice B1 l1.length d1, .slice B2 l2.length d2] 29 (0, 0) P4.out); have HS := Aside0.mk (below_setRow (Below.refl b4 W7) (Nat.le_refl b4) #[.int .i64 s, .slice B1 l1.length d1, .slice B2 l2.length d2]); have Q1 := Aside0.mk (R_setRow Q1.out (by have := K4.out; omega) (cs := #[.int .i64 s, .slice B1 l1.length d1, .slice B2 l2.length d2])); have Q2 := Aside0.mk (R_setRow Q2.out (by have := K4.out; omega) (cs := #[.int .i64 s, .slice B1 l1.length d1, .slice B2 l2.length d2])); generalize W7.setRow b4 #[.int .i64 s, .slice B1 l1.length d1, .slice B2 l2.length d2] = W8 at P4 HS Q1 Q2 ⊢; refine Aside0.out ?_)))
                refine Aside0.mk ?_
                iterate 12 (try go_step)
                refine bodyPost_ret (results_ctt rfl _ _ b4 29 #[.int .i64 s, .slice B1 l1.length d1, .slice B2 l2.length d2] (0, 0) _ rfl P4.out hu29 rfl (by kernel_rfl)) rfl ?_
                exact ⟨_, _, _, rfl, Kd.R_lower (Kd.R_mono Q1.out (fun k hk => ⟨hk, by simp [Value.ownBlock]⟩)) K5.out, Kd.R_lower (Kd.R_mono Q2.out (fun k hk => ⟨hk, by simp [Value.ownBlock]⟩)) K5.out, Kd.R_nil _ _ _ _ _, HB.out.trans (HS.out.mono (by have := G.out; omega))⟩
              · have hye : decide (x.f1 < y2.f1) = false := decide_eq_false hy2
                go_wp2_with (fail)
                go_meet
                case rel => exact ⟨P2, P3, P4, HB, ⟨by rintro ⟨_, h⟩; rw [← HY2.out] at h; omega⟩⟩
            | false =>
              have HH2 := Aside0.mk hh2
              go_wp2_with (fail)
              have P2 := Aside0.mk (blk_drew P2.out)
              have P3 := Aside0.mk (blk_drew P3.out)
              have P4 := Aside0.mk (blk_drew P4.out)
              have HB := Aside0.mk (below_drew1 HB.out)
              clear hx0 hx1 hx2 hx3 hl0 hl1 hl2
              refine start_ (n := 12) (S := fun w' => True) (ds := []) (bt_ 12 0) (by kernel_rfl) rfl rfl trivial (fun hHeld => ?_)
              generalize W5.drew = W6 at P2 P3 P4 HB ⊢
              refine pu_ 0 (some 65) (bt_ 12 1) (by kernel_rfl) ?_
              refine pu_ 1 (some 66) (bt_ 12 3) (by kernel_rfl) ?_
              refine pn_ 2 (some 67) (bt_ 12 7) (by kernel_rfl) ?_
              refine pn_ 3 (some 68) (bt_ 12 15) (by kernel_rfl) ?_
              refine pn_ 4 (some 69) (bt_ 12 31) (by kernel_rfl) ?_
              refine pn_ 5 (some 70) (bt_ 12 63) (by kernel_rfl) ?_
              refine pn_ 6 (some 71) (bt_ 12 127) (by kernel_rfl) ?_
              refine pn_ 7 (some 72) (bt_ 12 255) (by kernel_rfl) ?_
              refine pn_ 8 (some 73) (bt_ 12 511) (by kernel_rfl) ?_
              refine pn_ 9 (some 74) (bt_ 12 1023) (by kernel_rfl) ?_
              refine pn_ 10 (some 75) (bt_ 12 2047) (by kernel_rfl) ?_
              refine pu_ 11 (some 76) (bt_ 12 4095) (by kernel_rfl) ?_
              refine done_ (by kernel_rfl) ?_
              clear hHeld
              go_wp2_with (fail)
              go_meet
              case rel => exact ⟨P2, P3, P4, HB, ⟨fun e => Bool.noConfusion (HH2.out.symm.trans e.1)⟩⟩
          case rest =>
            clear P2 P3 P4 HB
            obtain ⟨P2, P3, P4, HB, HNQ⟩ := hcut
            apply hK10
            clear hK10 K10
            generalize wc = W6 at P2 P3 P4 HB ⊢
            have hl0 := (blk_cell P2.out 0).trans (show _ = some (.int .i64 s) from rfl)
            have hl1 := (blk_cell P2.out 1).trans (show _ = some (.slice A1 l1.length c1) from rfl)
            have hl2 := (blk_cell P2.out 2).trans (show _ = some (.slice A2 l2.length c2) from rfl)
            have hmf : ∀ (fn : Fn) (first cap : Array Value) (w : World), (Instr.makeFunc fn first cap).run Try.prog w = .ok (.func fn first cap) w := fun _ _ _ _ => rfl
            have hm1 : (W6.alloc (.cells #[.int .i64 s, .slice none 0 0, .slice none 0 0] 29 (0, 0))).cell? ⟨w.heap.size, 1, none⟩ = some (.slice A1 l1.length c1) := (World.cell?_alloc_lt _ _ _ (blk_lt P2.out)).trans hl1
            go_wp2_with (fail)
            have G13 : Aside0 (b4 < W6.heap.size) := ⟨blk_lt P4.out⟩
            have P2 := Aside0.mk (blk_alloc P2.out (.cells #[.int .i64 s, .slice none 0 0, .slice none 0 0] 29 (0, 0)))
            have P3 := Aside0.mk (blk_alloc P3.out (.cells #[.int .i64 s, .slice none 0 0, .slice none 0 0] 29 (0, 0)))
            have P4 := Aside0.mk (blk_alloc P4.out (.cells #[.int .i64 s, .slice none 0 0, .slice none 0 0] 29 (0, 0)))
            have P13 := Aside0.mk (blk_new W6 (.cells #[.int .i64 s, .slice none 0 0, .slice none 0 0] 29 (0, 0)))
            have HB := Aside0.mk (below_alloc HB.out (.cells #[.int .i64 s, .slice none 0 0, .slice none 0 0] 29 (0, 0)))
            clear hm1 hl0 hl1 hl2
            generalize W6.alloc (.cells #[.int .i64 s, .slice none 0 0, .slice none 0 0] 29 (0, 0)) = W7 at P2 P3 P4 P13 HB ⊢
            generalize W6.heap.size = b13 at P13 G13 ⊢
            have hn1 : w.heap.size ≠ b13 := by have := G13.out; have := G.out; omega
            have hn2 : b13 ≠ w.heap.size := by have := G13.out; have := G.out; omega
            have hn3 : b3 ≠ b13 := by have := G13.out; have := G.out; omega
            have hn4 : b13 ≠ b3 := by have := G13.out; have := G.out; omega
            have hn5 : b4 ≠ b13 := by have := G13.out; have := G.out; omega
            have hn6 : b13 ≠ b4 := by have := G13.out; have := G.out; omega
            refine (split62 (.pointer (some ⟨b3, 0, none⟩)) (fun z => decide (z.f0 = x.f0)) A1 c1 l1 W7 (Kd.C_below HR1.out HB.out) (HC1.out) (HL1.out) (fun z W hW => cl62 x.f0 z b3 W ((blk_cell (blk_below P3.out hW) 0).trans rfl))).mono ?_
            rintro e W8 ⟨va, vb, rfl, q1, q2, hb⟩
            obtain ⟨O1, o1, e0⟩ := Kd.R_slice q1
            subst e0
            obtain ⟨H1, e1, e0⟩ := Kd.R_slice q2
            subst e0
            have HZ1 := Aside0.mk hb.size
            have K13 := Aside0.mk (blk_lt P13.out)
            have K0 := Aside0.mk HB.out.size
            have P2 := Aside0.mk (blk_below P2.out hb)
            have P3 := Aside0.mk (blk_below P3.out hb)
            have P4 := Aside0.mk (blk_below P4.out hb)
            have P13 := Aside0.mk (blk_below P13.out hb)
            have HB := Aside0.mk (below_step HB.out hb)
            have RH := Aside0.mk (Kd.R_lower (Kd.R_mono (Kd.R_bound q2) (ok' := fun k => b13 < k ∧ W7.heap.size ≤ k ∧ k < W8.heap.size) (fun k hk => ⟨Nat.lt_of_lt_of_le K13.out hk.2.1, hk.2.1, hk.2.2.1⟩)) K0.out)
            clear q1 q2 hb
            generalize hq_ : List.filter (fun z => !decide (z.f0 = x.f0)) l1 = M1 at RH ⊢
            have HM1 := Aside0.mk hq_
            clear hq_
            have hl2 := (blk_cell P2.out 2).trans (show _ = some (.slice A2 l2.length c2) from rfl)
            have hb0 := (blk_cell P13.out 0).trans (show _ = some (.int .i64 s) from rfl)
            have hf0 := blk_frozen P13.out 0
            have hb1 := (blk_cell P13.out 1).trans (show _ = some (.slice none 0 0) from rfl)
            have hf1 := blk_frozen P13.out 1
            have hb2 := (blk_cell P13.out 2).trans (show _ = some (.slice none 0 0) from rfl)
            have hf2 := blk_frozen P13.out 2
            go_wp2_with (fail)
            clear hb0 hb1 hb2 hf0 hf1 hf2 hl2
            have P2 := Aside0.mk (blk_far (p := ⟨b13, 1, none⟩) P2.out (show w.heap.size ≠ b13 from hn1) (.slice H1 M1.length e1))
            have P3 := Aside0.mk (blk_far (p := ⟨b13, 1, none⟩) P3.out (show b3 ≠ b13 from hn3) (.slice H1 M1.length e1))
            have P4 := Aside0.mk (blk_far (p := ⟨b13, 1, none⟩) P4.out (show b4 ≠ b13 from hn5) (.slice H1 M1.length e1))
            have P13 := Aside0.mk (blk_put (cs' := #[.int .i64 s, .slice H1 M1.length e1, .slice none 0 0]) P13.out 1 (.slice H1 M1.length e1) rfl)
            have HB := Aside0.mk (below_set (g := b13) (j := 1) (v := .slice H1 M1.length e1) HB.out (by have := G13.out; have := G.out; omega))
            have RH := Aside0.mk (Kd.R_far (p := ⟨b13, 1, none⟩) RH.out (fun k hk => Nat.ne_of_gt hk.1) (.slice H1 M1.length e1))
            have HM1W8 := Aside0.mk (show W8.heap.size ≤ (W8.setCell ⟨b13, 1, none⟩ (.slice H1 M1.length e1)).heap.size by simp)
            generalize (W8.setCell ⟨b13, 1, none⟩ (.slice H1 M1.length e1)) = W9 at P2 P3 P4 P13 HB RH HM1W8 ⊢
            refine (split62 (.pointer (some ⟨b3, 0, none⟩)) (fun z => decide (z.f0 = x.f0)) A2 c2 l2 W9 (Kd.C_below HR2.out HB.out) (HC2.out) (HL2.out) (fun z W hW => cl62 x.f0 z b3 W ((blk_cell (blk_below P3.out hW) 0).trans rfl))).mono ?_
            rintro e W10 ⟨va, vb, rfl, q1, q2, hb⟩
            obtain ⟨O2, o2, e0⟩ := Kd.R_slice q1
            subst e0
            obtain ⟨H2, e2, e0⟩ := Kd.R_slice q2
            subst e0
            have HZ2 := Aside0.mk hb.size
            have K13 := Aside0.mk (blk_lt P13.out)
            have K0 := Aside0.mk HB.out.size
            have P2 := Aside0.mk (blk_below P2.out hb)
            have P3 := Aside0.mk (blk_below P3.out hb)
            have P4 := Aside0.mk (blk_below P4.out hb)
            have P13 := Aside0.mk (blk_below P13.out hb)
            have HB := Aside0.mk (below_step HB.out hb)
            have RH := Aside0.mk (Kd.R_below RH.out hb)
            have RW := Aside0.mk (Kd.R_lower (Kd.R_mono (Kd.R_bound q2) (ok' := fun k => b13 < k ∧ W9.heap.size ≤ k ∧ k < W10.heap.size) (fun k hk => ⟨Nat.lt_of_lt_of_le K13.out hk.2.1, hk.2.1, hk.2.2.1⟩)) K0.out)
            clear q1 q2 hb
            generalize hq_ : List.filter (fun z => !decide (z.f0 = x.f0)) l2 = M2 at RW ⊢
            have HM2 := Aside0.mk hq_
            clear hq_
            have hb0 := (blk_cell P13.out 0).trans (show _ = some (.int .i64 s) from rfl)
            have hf0 := blk_frozen P13.out 0
            have hb1 := (blk_cell P13.out 1).trans (show _ = some (.slice H1 M1.length e1) from rfl)
            have hf1 := blk_frozen P13.out 1
            have hb2 := (blk_cell P13.out 2).trans (show _ = some (.slice none 0 0) from rfl)
            have hf2 := blk_frozen P13.out 2
            go_wp2_with (fail)
            clear hb0 hb1 hb2 hf0 hf1 hf2
            have P2 := Aside0.mk (blk_far (p := ⟨b13, 2, none⟩) P2.out (show w.heap.size ≠ b13 from hn1) (.slice H2 M2.length e2))
            have P3 := Aside0.mk (blk_far (p := ⟨b13, 2, none⟩) P3.out (show b3 ≠ b13 from hn3) (.slice H2 M2.length e2))
            have P4 := Aside0.mk (blk_far (p := ⟨b13, 2, none⟩) P4.out (show b4 ≠ b13 from hn5) (.slice H2 M2.length e2))
            have P13 := Aside0.mk (blk_put (cs' := #[.int .i64 s, .slice H1 M1.length e1, .slice H2 M2.length e2]) P13.out 2 (.slice H2 M2.length e2) rfl)
            have HB := Aside0.mk (below_set (g := b13) (j := 2) (v := .slice H2 M2.length e2) HB.out (by have := G13.out; have := G.out; omega))
            have RH := Aside0.mk (Kd.R_far (p := ⟨b13, 2, none⟩) RH.out (fun k hk => Nat.ne_of_gt hk.1) (.slice H2 M2.length e2))
            have RW := Aside0.mk (Kd.R_far (p := ⟨b13, 2, none⟩) RW.out (fun k hk => Nat.ne_of_gt hk.1) (.slice H2 M2.length e2))
            have HM2W10 := Aside0.mk (show W10.heap.size ≤ (W10.setCell ⟨b13, 2, none⟩ (.slice H2 M2.length e2)).heap.size by simp)
            generalize (W10.setCell ⟨b13, 2, none⟩ (.slice H2 M2.length e2)) = W11 at P2 P3 P4 P13 HB RH RW HM2W10 ⊢
            refine (split63 (.pointer (some ⟨b3, 0, none⟩)) (tkB x) H1 e1 M1 W11 ((Kd.R_reads' RH.out).2.2) ((Kd.R_reads' RH.out).2.1) (by rw [← HM1.out]; exact Nat.le_trans (List.length_filter_le _ _) HL1.out) (fun z W hW => cl63 x z b3 W ((blk_cell (blk_below P3.out hW) 0).trans rfl) ((blk_cell (blk_below P3.out hW) 1).trans rfl) ((blk_cell (blk_below P3.out hW) 2).trans rfl) ((blk_cell (blk_below P3.out hW) 3).trans rfl))).mono ?_
            rintro e W12 ⟨va, vb, rfl, q1, q2, hb⟩
            obtain ⟨H4, e4, e0⟩ := Kd.R_slice q1
            subst e0
            obtain ⟨H3, e3, e0⟩ := Kd.R_slice q2
            subst e0
            have HZ3 := Aside0.mk hb.size
            have K13 := Aside0.mk (blk_lt P13.out)
            have K0 := Aside0.mk HB.out.size
            have P2 := Aside0.mk (blk_below P2.out hb)
            have P3 := Aside0.mk (blk_below P3.out hb)
            have P4 := Aside0.mk (blk_below P4.out hb)
            have P13 := Aside0.mk (blk_below P13.out hb)
            have HB := Aside0.mk (below_step HB.out hb)
            have RH := Aside0.mk (Kd.R_below RH.out hb)
            have RW := Aside0.mk (Kd.R_below RW.out hb)
            have SEP := Aside0.mk (fun k hk => (q1.1 k hk).2)
            have RT := Aside0.mk (Kd.R_lower (Kd.R_mono (Kd.R_bound q1) (ok' := fun k => b13 < k ∧ W11.heap.size ≤ k ∧ k < W12.heap.size) (fun k hk => ⟨Nat.lt_of_lt_of_le K13.out hk.2.1, hk.2.1, hk.2.2.1⟩)) K0.out)
            have RL := Aside0.mk (Kd.R_lower (Kd.R_mono (Kd.R_bound q2) (ok' := fun k => b13 < k ∧ W11.heap.size ≤ k ∧ k < W12.heap.size) (fun k hk => ⟨Nat.lt_of_lt_of_le K13.out hk.2.1, hk.2.1, hk.2.2.1⟩)) K0.out)
            clear q1 q2 hb
            generalize hq_ : List.filter (tkB x) M1 = T3 at RT SEP ⊢
            have HT3 := Aside0.mk hq_
            clear hq_
            generalize hq_ : List.filter (fun z => !tkB x z) M1 = L3 at RL SEP ⊢
            have HL3 := Aside0.mk hq_
            clear hq_
            have hb0 := (blk_cell P13.out 0).trans (show _ = some (.int .i64 s) from rfl)
            have hf0 := blk_frozen P13.out 0
            have hb1 := (blk_cell P13.out 1).trans (show _ = some (.slice H1 M1.length e1) from rfl)
            have hf1 := blk_frozen P13.out 1
            have hb2 := (blk_cell P13.out 2).trans (show _ = some (.slice H2 M2.length e2) from rfl)
            have hf2 := blk_frozen P13.out 2
            have P2 := Aside0.mk (blk_far (p := ⟨b13, 1, none⟩) P2.out (show w.heap.size ≠ b13 from hn1) (.slice H3 L3.length e3))
            have P3 := Aside0.mk (blk_far (p := ⟨b13, 1, none⟩) P3.out (show b3 ≠ b13 from hn3) (.slice H3 L3.length e3))
            have P4 := Aside0.mk (blk_far (p := ⟨b13, 1, none⟩) P4.out (show b4 ≠ b13 from hn5) (.slice H3 L3.length e3))
            have P13 := Aside0.mk (blk_put (cs' := #[.int .i64 s, .slice H3 L3.length e3, .slice H2 M2.length e2]) P13.out 1 (.slice H3 L3.length e3) rfl)
            have HB := Aside0.mk (below_set (g := b13) (j := 1) (v := .slice H3 L3.length e3) HB.out (by have := G13.out; have := G.out; omega))
            have RW := Aside0.mk (Kd.R_far (p := ⟨b13, 1, none⟩) RW.out (fun k hk => Nat.ne_of_gt hk.1) (.slice H3 L3.length e3))
            have RT := Aside0.mk (Kd.R_far (p := ⟨b13, 1, none⟩) RT.out (fun k hk => Nat.ne_of_gt hk.1) (.slice H3 L3.length e3))
            have RL := Aside0.mk (Kd.R_far (p := ⟨b13, 1, none⟩) RL.out (fun k hk => Nat.ne_of_gt hk.1) (.slice H3 L3.length e3))
            have HM1W12 := Aside0.mk (show W12.heap.size ≤ (W12.setCell ⟨b13, 1, none⟩ (.slice H3 L3.length e3)).heap.size by simp)
            have hb3 : L3.length ≤ 16 := by rw [← HL3.out, ← HM1.out]; exact Nat.le_trans (List.length_filter_le _ _) (Nat.le_trans (List.length_filter_le _ _) HQ.out.1)
            have hb4 : M2.length ≤ 16 := by rw [← HM2.out]; exact Nat.le_trans (List.length_filter_le _ _) HQ.out.2
            have hwl : wrap64 ((L3.length : Int) + (M2.length : Int)) = (L3.length : Int) + (M2.length : Int) := by unfold wrap64; omega
            have hwk : IntKind.i64.wrap ((L3.length : Int) + (M2.length : Int)) = (L3.length : Int) + (M2.length : Int) := by rw [IntKind.wrap_i64]; omega
            by_cases hroom : 16 ≤ L3.length + M2.length
            · have hdr : decide ((16 : Int) ≤ (L3.length : Int) + (M2.length : Int)) = true := decide_eq_true (by omega)
              have hdn : (16 ≤ L3.length + M2.length) = True := eq_true hroom
              have HROOM := Aside0.mk hroom
              clear hroom
              go_wp2_with (((with_reducible refine gate_dst (N := 116) rfl ?_); (refine wpList_load_row rfl 29 (.tmp 2) rfl w.heap.size rfl 29 #[.int .i64 s, .slice A1 l1.length c1, .slice A2 l2.length c2] (0, 0) _ P2.out hu29 rfl (by kernel_rfl) ?_)))
              have hh := HH.out
              unfold askF at hh
              rw [if_neg (show ¬ (lockB s l1 l2 = false) by rw [HOK.out]; exact Bool.noConfusion), if_neg (show ¬ (holdB x = false ∨ x.f3 = true) by rw [HHO.out, HF3.out]; simp), if_neg HNP.out, if_neg HNQ.out] at hh
              unfold tailF at hh
              rw [HM1.out, HM2.out, HL3.out, HT3.out] at hh
              rw [if_pos HROOM.out] at hh
              simp only [Prod.mk.injEq] at hh
              obtain ⟨rfl, rfl, rfl, rfl, rfl⟩ := hh
              generalize W12.setCell ⟨b13, 1, none⟩ (.slice H3 L3.length e3) = W13 at P2 P3 P4 P13 HB RW RT RL HM1W12 ⊢
              refine (impl_lockClone.calls s A1 c1 l1 A2 c2 l2 s l1 l2 W13 (Kd.C_below HR1.out HB.out) HC1.out (Kd.C_below HR2.out HB.out) HC2.out HCL.out).mono ?_
              rintro e W14 ⟨v1, v2, rfl, q1, q2, hb⟩
              obtain ⟨B1, d1, e1_⟩ := Kd.R_slice q1
              obtain ⟨B2, d2, e2_⟩ := Kd.R_slice q2
              subst e1_ e2_
              have K4 := Aside0.mk (blk_lt P4.out)
              have K5 := Aside0.mk HB.out.size
              have Q1 := Aside0.mk q1
              have Q2 := Aside0.mk q2
              clear q1 q2
              have P2 := Aside0.mk (blk_below P2.out hb)
              have P3 := Aside0.mk (blk_below P3.out hb)
              have P4 := Aside0.mk (blk_below P4.out hb)
              have HB := Aside0.mk (below_step HB.out hb)
              clear hb
              go_wp2_with (((with_reducible refine gate_store (t := 29) (p := 4) rfl ?_); (refine wpList_store_row rfl 29 (.tmp 4) (.tmp 117) rfl b4 #[.int .i64 s, .slice B1 l1.length d1, .slice B2 l2.length d2] rfl rfl 29 #[.int .i64 0, .slice none 0 0, .slice none 0 0] P4.out (by kernel_rfl) rfl (by simp [Value.oneCell']) ?_; have P4 := Aside0.mk (setRow_heap W14 b4 _ #[.int .i64 s, .slice B1 l1.length d1, .slice B2 l2.length d2] 29 (0, 0) P4.out); have HS := Aside0.mk (below_setRow (Below.refl b4 W14) (Nat.le_refl b4) #[.int .i64 s, .slice B1 l1.length d1, .slice B2 l2.length d2]); have Q1 := Aside0.mk (R_setRow Q1.out (by have := K4.out; omega) (cs := #[.int .i64 s, .slice B1 l1.length d1, .slice B2 l2.length d2])); have Q2 := Aside0.mk (R_setRow Q2.out (by have := K4.out; omega) (cs := #[.int .i64 s, .slice B1 l1.length d1, .slice B2 l2.length d2])); generalize W14.setRow b4 #[.int .i64 s, .slice B1 l1.length d1, .slice B2 l2.length d2] = W15 at P4 HS Q1 Q2 ⊢; refine Aside0.out ?_)))
              refine Aside0.mk ?_
              iterate 12 (try go_step)
              refine bodyPost_ret (results_ctt rfl _ _ b4 29 #[.int .i64 s, .slice B1 l1.length d1, .slice B2 l2.length d2] (0, 0) _ rfl P4.out hu29 rfl (by kernel_rfl)) rfl ?_
              exact ⟨_, _, _, rfl, Kd.R_lower (Kd.R_mono Q1.out (fun k hk => ⟨hk, by simp [Value.ownBlock]⟩)) K5.out, Kd.R_lower (Kd.R_mono Q2.out (fun k hk => ⟨hk, by simp [Value.ownBlock]⟩)) K5.out, Kd.R_nil _ _ _ _ _, HB.out.trans (HS.out.mono (by have := G.out; omega))⟩
            · have hdr : decide ((16 : Int) ≤ (L3.length : Int) + (M2.length : Int)) = false := decide_eq_false (by omega)
              have hdn : (16 ≤ L3.length + M2.length) = False := eq_false hroom
              have HROOM := Aside0.mk hroom
              clear hroom
              go_wp2_with (first | ((with_reducible refine gate_dst (N := 118) rfl ?_); (refine wpList_load_row rfl 29 (.tmp 13) rfl b13 rfl 29 #[.int .i64 s, .slice H3 L3.length e3, .slice H2 M2.length e2] (0, 0) _ P13.out hu29 rfl (by kernel_rfl) ?_)) | ((with_reducible refine gate_dst (N := 119) rfl ?_); (refine wpList_load_row rfl 45 (.tmp 3) rfl b3 rfl 45 #[.int .i64 x.f0, .int .i64 x.f1, .bool x.f2, .bool x.f3] (0, 0) _ P3.out hu45 rfl (by kernel_rfl) ?_)))
              generalize W12.setCell ⟨b13, 1, none⟩ (.slice H3 L3.length e3) = W13 at P2 P3 P4 P13 HB RW RT RL HM1W12 ⊢
              have HAL : Aside0 (Asc L3) := ⟨by rw [← HL3.out, ← HM1.out]; exact (HA1.out.filter _).filter _⟩
              have HAW : Aside0 (Asc M2) := ⟨by rw [← HM2.out]; exact HA2.out.filter _⟩
              refine (may_calls s H3 e3 L3 H2 e2 M2 x W13 (Kd.R_reads' RL.out).2.2 (Kd.R_reads' RL.out).2.1 (Kd.R_reads' RW.out).2.2 (Kd.R_reads' RW.out).2.1).mono ?_
              rintro e W14 ⟨rfl, hb⟩
              have HZ4 := Aside0.mk hb.size
              have P2 := Aside0.mk (blk_below P2.out hb)
              have P3 := Aside0.mk (blk_below P3.out hb)
              have P4 := Aside0.mk (blk_below P4.out hb)
              have P13 := Aside0.mk (blk_below P13.out hb)
              have HB := Aside0.mk (below_step HB.out hb)
              have RW := Aside0.mk (Kd.R_below RW.out hb)
              have RT := Aside0.mk (Kd.R_below RT.out hb)
              have RL := Aside0.mk (Kd.R_below RL.out hb)
              clear hb
              cases hmay : mayB L3 M2 x with
              | true =>
                have HMAY := Aside0.mk hmay
                clear hmay
                have hb0 := (blk_cell P13.out 0).trans (show _ = some (.int .i64 s) from rfl)
                have hf0 := blk_frozen P13.out 0
                have hb1 := (blk_cell P13.out 1).trans (show _ = some (.slice H3 L3.length e3) from rfl)
                have hf1 := blk_frozen P13.out 1
                have hb2 := (blk_cell P13.out 2).trans (show _ = some (.slice H2 M2.length e2) from rfl)
                have hf2 := blk_frozen P13.out 2
                go_wp2_with (((with_reducible refine gate_dst (N := 123) rfl ?_); (refine wpList_load_row rfl 45 (.tmp 3) rfl b3 rfl 45 #[.int .i64 x.f0, .int .i64 x.f1, .bool x.f2, .bool x.f3] (0, 0) _ P3.out hu45 rfl (by kernel_rfl) ?_)))
                clear hb0 hb1 hb2 hf0 hf1 hf2
                refine (putBy_calls H3 e3 L3 x W14 (Kd.R_reads' RL.out).2.2 (Kd.R_reads' RL.out).2.1 HAL.out (by omega)).mono ?_
                rintro e W15 ⟨vq, rfl, q1, hb⟩
                obtain ⟨HQ5, eq5, e0⟩ := Kd.R_slice q1
                subst e0
                have K13 := Aside0.mk (blk_lt P13.out)
                have K0 := Aside0.mk HB.out.size
                have P2 := Aside0.mk (blk_below P2.out hb)
                have P3 := Aside0.mk (blk_below P3.out hb)
                have P4 := Aside0.mk (blk_below P4.out hb)
                have P13 := Aside0.mk (blk_below P13.out hb)
                have HB := Aside0.mk (below_step HB.out hb)
                have RW := Aside0.mk (Kd.R_below RW.out hb)
                have RT := Aside0.mk (Kd.R_below RT.out hb)
                have RL := Aside0.mk (Kd.R_below RL.out hb)
                have RQ := Aside0.mk (Kd.R_lower (Kd.R_mono (Kd.R_bound q1) (ok' := fun k => b13 < k ∧ W14.heap.size ≤ k ∧ k < W15.heap.size) (fun k hk => ⟨Nat.lt_of_lt_of_le K13.out hk.2.1, hk.2.1, hk.2.2.1⟩)) K0.out)
                clear q1 hb
                generalize hq_ : putOf L3 x = Q5 at RQ ⊢
                have HQ5_ := Aside0.mk hq_
                clear hq_
                have hb0 := (blk_cell P13.out 0).trans (show _ = some (.int .i64 s) from rfl)
                have hf0 := blk_frozen P13.out 0
                have hb1 := (blk_cell P13.out 1).trans (show _ = some (.slice H3 L3.length e3) from rfl)
                have hf1 := blk_frozen P13.out 1
                have hb2 := (blk_cell P13.out 2).trans (show _ = some (.slice H2 M2.length e2) from rfl)
                have hf2 := blk_frozen P13.out 2
                have P2 := Aside0.mk (blk_far (p := ⟨b13, 1, none⟩) P2.out (show w.heap.size ≠ b13 from hn1) (.slice HQ5 Q5.length eq5))
                have P3 := Aside0.mk (blk_far (p := ⟨b13, 1, none⟩) P3.out (show b3 ≠ b13 from hn3) (.slice HQ5 Q5.length eq5))
                have P4 := Aside0.mk (blk_far (p := ⟨b13, 1, none⟩) P4.out (show b4 ≠ b13 from hn5) (.slice HQ5 Q5.length eq5))
                have P13 := Aside0.mk (blk_put (cs' := #[.int .i64 s, .slice HQ5 Q5.length eq5, .slice H2 M2.length e2]) P13.out 1 (.slice HQ5 Q5.length eq5) rfl)
                have HB := Aside0.mk (below_set (g := b13) (j := 1) (v := .slice HQ5 Q5.length eq5) HB.out (by have := G13.out; have := G.out; omega))
                have RW := Aside0.mk (Kd.R_far (p := ⟨b13, 1, none⟩) RW.out (fun k hk => Nat.ne_of_gt hk.1) (.slice HQ5 Q5.length eq5))
                have RT := Aside0.mk (Kd.R_far (p := ⟨b13, 1, none⟩) RT.out (fun k hk => Nat.ne_of_gt hk.1) (.slice HQ5 Q5.length eq5))
                have RL := Aside0.mk (Kd.R_far (p := ⟨b13, 1, none⟩) RL.out (fun k hk => Nat.ne_of_gt hk.1) (.slice HQ5 Q5.length eq5))
                have RQ := Aside0.mk (Kd.R_far (p := ⟨b13, 1, none⟩) RQ.out (fun k hk => Nat.ne_of_gt hk.1) (.slice HQ5 Q5.length eq5))
                have HM1W15 := Aside0.mk (show W15.heap.size ≤ (W15.setCell ⟨b13, 1, none⟩ (.slice HQ5 Q5.length eq5)).heap.size by simp)
                go_wp2_with (first | ((with_reducible refine gate_dst (N := 126) rfl ?_); (refine wpList_load_row rfl 29 (.tmp 13) rfl b13 rfl 29 #[.int .i64 s, .slice HQ5 Q5.length eq5, .slice H2 M2.length e2] (0, 0) _ P13.out hu29 rfl (by kernel_rfl) ?_)) | ((with_reducible refine gate_store (t := 29) (p := 4) rfl ?_); (refine wpList_store_row rfl 29 (.tmp 4) (.tmp 126) rfl b4 #[.int .i64 s, .slice HQ5 Q5.length eq5, .slice H2 M2.length e2] rfl rfl 29 #[.int .i64 0, .slice none 0 0, .slice none 0 0] P4.out (by kernel_rfl) rfl (by simp [Value.oneCell']) ?_; have P4 := Aside0.mk (setRow_heap (W15.setCell ⟨b13, 1, none⟩ (.slice HQ5 Q5.length eq5)) b4 _ #[.int .i64 s, .slice HQ5 Q5.length eq5, .slice H2 M2.length e2] 29 (0, 0) P4.out); have HS := Aside0.mk (below_setRow (Below.refl b4 (W15.setCell ⟨b13, 1, none⟩ (.slice HQ5 Q5.length eq5))) (Nat.le_refl b4) #[.int .i64 s, .slice HQ5 Q5.length eq5, .slice H2 M2.length e2]); have RQ := Aside0.mk (Kd.R_mono (Kd.R_step RQ.out (fun k hk _ => setRow_other (W15.setCell ⟨b13, 1, none⟩ (.slice HQ5 Q5.length eq5)) b4 k #[.int .i64 s, .slice HQ5 Q5.length eq5, .slice H2 M2.length e2] (by have := hk.1; have := G13.out; omega))) (fun _ h_ => h_)); have RW := Aside0.mk (Kd.R_mono (Kd.R_step RW.out (fun k hk _ => setRow_other (W15.setCell ⟨b13, 1, none⟩ (.slice HQ5 Q5.length eq5)) b4 k #[.int .i64 s, .slice HQ5 Q5.length eq5, .slice H2 M2.length e2] (by have := hk.1; have := G13.out; omega))) (fun _ h_ => h_)); have RT := Aside0.mk (Kd.R_mono (Kd.R_step RT.out (fun k hk _ => setRow_other (W15.setCell ⟨b13, 1, none⟩ (.slice HQ5 Q5.length eq5)) b4 k #[.int .i64 s, .slice HQ5 Q5.length eq5, .slice H2 M2.length e2] (by have := hk.1; have := G13.out; omega))) (fun _ h_ => h_)); generalize (W15.setCell ⟨b13, 1, none⟩ (.slice HQ5 Q5.length eq5)).setRow b4 #[.int .i64 s, .slice HQ5 Q5.length eq5, .slice H2 M2.length e2] = W17 at P4 HS RQ RW RT ⊢; refine Aside0.out ?_)))
                refine Aside0.mk ?_
                iterate 12 (try go_step)
                refine bodyPost_ret (results_ctt rfl _ _ b4 29 #[.int .i64 s, .slice HQ5 Q5.length eq5, .slice H2 M2.length e2] (0, 0) _ rfl P4.out hu29 rfl (by kernel_rfl)) rfl ?_
                have hh := HH.out
                unfold askF at hh
                rw [if_neg (show ¬ (lockB s l1 l2 = false) by rw [HOK.out]; exact Bool.noConfusion), if_neg (show ¬ (holdB x = false ∨ x.f3 = true) by rw [HHO.out, HF3.out]; simp), if_neg HNP.out, if_neg HNQ.out] at hh
                unfold tailF at hh
                rw [HM1.out, HM2.out, HL3.out, HT3.out] at hh
                rw [if_neg HROOM.out, if_pos HMAY.out, HQ5_.out] at hh
                simp only [Prod.mk.injEq] at hh
                obtain ⟨rfl, rfl, rfl, rfl, rfl⟩ := hh
                exact ⟨_, _, _, rfl, R4_own RQ.out (fun k hk => ⟨fun e => by have b1 := RQ.out.1 k hk; have b2 := RW.out.1 k e.symm; have a1 := HZ2.out; have a2 := HM2W10.out; have a3 := HZ3.out; have a4 := HM1W12.out; have a5 := HZ4.out; omega, fun e => by have b1 := RQ.out.1 k hk; have b2 := RT.out.1 k e.symm; have a1 := HZ2.out; have a2 := HM2W10.out; have a3 := HZ3.out; have a4 := HM1W12.out; have a5 := HZ4.out; omega⟩), R4_own RW.out (fun k hk => ⟨fun e => by have b1 := RW.out.1 k hk; have b2 := RQ.out.1 k e.symm; have a1 := HZ2.out; have a2 := HM2W10.out; have a3 := HZ3.out; have a4 := HM1W12.out; have a5 := HZ4.out; omega, fun e => by have b1 := RW.out.1 k hk; have b2 := RT.out.1 k e.symm; have a1 := HZ2.out; have a2 := HM2W10.out; have a3 := HZ3.out; have a4 := HM1W12.out; have a5 := HZ4.out; omega⟩), R4_own RT.out (fun k hk => ⟨fun e => by have b1 := RT.out.1 k hk; have b2 := RQ.out.1 k e.symm; have a1 := HZ2.out; have a2 := HM2W10.out; have a3 := HZ3.out; have a4 := HM1W12.out; have a5 := HZ4.out; omega, fun e => by have b1 := RT.out.1 k hk; have b2 := RW.out.1 k e.symm; have a1 := HZ2.out; have a2 := HM2W10.out; have a3 := HZ3.out; have a4 := HM1W12.out; have a5 := HZ4.out; omega⟩), HB.out.trans (HS.out.mono (by have := G.out; omega))⟩
              | false =>
                have HMAY := Aside0.mk hmay
                clear hmay
                have hb0 := (blk_cell P13.out 0).trans (show _ = some (.int .i64 s) from rfl)
                have hf0 := blk_frozen P13.out 0
                have hb1 := (blk_cell P13.out 1).trans (show _ = some (.slice H3 L3.length e3) from rfl)
                have hf1 := blk_frozen P13.out 1
                have hb2 := (blk_cell P13.out 2).trans (show _ = some (.slice H2 M2.length e2) from rfl)
                have hf2 := blk_frozen P13.out 2
                go_wp2_with (((with_reducible refine gate_dst (N := 130) rfl ?_); (refine wpList_load_row rfl 45 (.tmp 3) rfl b3 rfl 45 #[.int .i64 x.f0, .int .i64 x.f1, .bool x.f2, .bool x.f3] (0, 0) _ P3.out hu45 rfl (by kernel_rfl) ?_)))
                clear hb0 hb1 hb2 hf0 hf1 hf2
                refine (putBy_calls H2 e2 M2 x W14 (Kd.R_reads' RW.out).2.2 (Kd.R_reads' RW.out).2.1 HAW.out (by omega)).mono ?_
                rintro e W15 ⟨vq, rfl, q1, hb⟩
                obtain ⟨HQ5, eq5, e0⟩ := Kd.R_slice q1
                subst e0
                have K13 := Aside0.mk (blk_lt P13.out)
                have K0 := Aside0.mk HB.out.size
                have P2 := Aside0.mk (blk_below P2.out hb)
                have P3 := Aside0.mk (blk_below P3.out hb)
                have P4 := Aside0.mk (blk_below P4.out hb)
                have P13 := Aside0.mk (blk_below P13.out hb)
                have HB := Aside0.mk (below_step HB.out hb)
                have RW := Aside0.mk (Kd.R_below RW.out hb)
                have RT := Aside0.mk (Kd.R_below RT.out hb)
                have RL := Aside0.mk (Kd.R_below RL.out hb)
                have RQ := Aside0.mk (Kd.R_lower (Kd.R_mono (Kd.R_bound q1) (ok' := fun k => b13 < k ∧ W14.heap.size ≤ k ∧ k < W15.heap.size) (fun k hk => ⟨Nat.lt_of_lt_of_le K13.out hk.2.1, hk.2.1, hk.2.2.1⟩)) K0.out)
                clear q1 hb
                generalize hq_ : putOf M2 x = Q5 at RQ ⊢
                have HQ5_ := Aside0.mk hq_
                clear hq_
                have hb0 := (blk_cell P13.out 0).trans (show _ = some (.int .i64 s) from rfl)
                have hf0 := blk_frozen P13.out 0
                have hb1 := (blk_cell P13.out 1).trans (show _ = some (.slice H3 L3.length e3) from rfl)
                have hf1 := blk_frozen P13.out 1
                have hb2 := (blk_cell P13.out 2).trans (show _ = some (.slice H2 M2.length e2) from rfl)
                have hf2 := blk_frozen P13.out 2
                have P2 := Aside0.mk (blk_far (p := ⟨b13, 2, none⟩) P2.out (show w.heap.size ≠ b13 from hn1) (.slice HQ5 Q5.length eq5))
                have P3 := Aside0.mk (blk_far (p := ⟨b13, 2, none⟩) P3.out (show b3 ≠ b13 from hn3) (.slice HQ5 Q5.length eq5))
                have P4 := Aside0.mk (blk_far (p := ⟨b13, 2, none⟩) P4.out (show b4 ≠ b13 from hn5) (.slice HQ5 Q5.length eq5))
                have P13 := Aside0.mk (blk_put (cs' := #[.int .i64 s, .slice H3 L3.length e3, .slice HQ5 Q5.length eq5]) P13.out 2 (.slice HQ5 Q5.length eq5) rfl)
                have HB := Aside0.mk (below_set (g := b13) (j := 2) (v := .slice HQ5 Q5.length eq5) HB.out (by have := G13.out; have := G.out; omega))
                have RW := Aside0.mk (Kd.R_far (p := ⟨b13, 2, none⟩) RW.out (fun k hk => Nat.ne_of_gt hk.1) (.slice HQ5 Q5.length eq5))
                have RT := Aside0.mk (Kd.R_far (p := ⟨b13, 2, none⟩) RT.out (fun k hk => Nat.ne_of_gt hk.1) (.slice HQ5 Q5.length eq5))
                have RL := Aside0.mk (Kd.R_far (p := ⟨b13, 2, none⟩) RL.out (fun k hk => Nat.ne_of_gt hk.1) (.slice HQ5 Q5.length eq5))
                have RQ := Aside0.mk (Kd.R_far (p := ⟨b13, 2, none⟩) RQ.out (fun k hk => Nat.ne_of_gt hk.1) (.slice HQ5 Q5.length eq5))
                have HM2W15 := Aside0.mk (show W15.heap.size ≤ (W15.setCell ⟨b13, 2, none⟩ (.slice HQ5 Q5.length eq5)).heap.size by simp)
                go_wp2_with (first | ((with_reducible refine gate_dst (N := 133) rfl ?_); (refine wpList_load_row rfl 29 (.tmp 13) rfl b13 rfl 29 #[.int .i64 s, .slice H3 L3.length e3, .slice HQ5 Q5.length eq5] (0, 0) _ P13.out hu29 rfl (by kernel_rfl) ?_)) | ((with_reducible refine gate_store (t := 29) (p := 4) rfl ?_); (refine wpList_store_row rfl 29 (.tmp 4) (.tmp 133) rfl b4 #[.int .i64 s, .slice H3 L3.length e3, .slice HQ5 Q5.length eq5] rfl rfl 29 #[.int .i64 0, .slice none 0 0, .slice none 0 0] P4.out (by kernel_rfl) rfl (by simp [Value.oneCell']) ?_; have P4 := Aside0.mk (setRow_heap (W15.setCell ⟨b13, 2, none⟩ (.slice HQ5 Q5.length eq5)) b4 _ #[.int .i64 s, .slice H3 L3.length e3, .slice HQ5 Q5.length eq5] 29 (0, 0) P4.out); have HS := Aside0.mk (below_setRow (Below.refl b4 (W15.setCell ⟨b13, 2, none⟩ (.slice HQ5 Q5.length eq5))) (Nat.le_refl b4) #[.int .i64 s, .slice H3 L3.length e3, .slice HQ5 Q5.length eq5]); have RL := Aside0.mk (Kd.R_mono (Kd.R_step RL.out (fun k hk _ => setRow_other (W15.setCell ⟨b13, 2, none⟩ (.slice HQ5 Q5.length eq5)) b4 k #[.int .i64 s, .slice H3 L3.length e3, .slice HQ5 Q5.length eq5] (by have := hk.1; have := G13.out; omega))) (fun _ h_ => h_)); have RQ := Aside0.mk (Kd.R_mono (Kd.R_step RQ.out (fun k hk _ => setRow_other (W15.setCell ⟨b13, 2, none⟩ (.slice HQ5 Q5.length eq5)) b4 k #[.int .i64 s, .slice H3 L3.length e3, .slice HQ5 Q5.length eq5] (by have := hk.1; have := G13.out; omega))) (fun _ h_ => h_)); have RT := Aside0.mk (Kd.R_mono (Kd.R_step RT.out (fun k hk _ => setRow_other (W15.setCell ⟨b13, 2, none⟩ (.slice HQ5 Q5.length eq5)) b4 k #[.int .i64 s, .slice H3 L3.length e3, .slice HQ5 Q5.length eq5] (by have := hk.1; have := G13.out; omega))) (fun _ h_ => h_)); generalize (W15.setCell ⟨b13, 2, none⟩ (.slice HQ5 Q5.length eq5)).setRow b4 #[.int .i64 s, .slice H3 L3.length e3, .slice HQ5 Q5.length eq5] = W17 at P4 HS RL RQ RT ⊢; refine Aside0.out ?_)))
                refine Aside0.mk ?_
                iterate 12 (try go_step)
                refine bodyPost_ret (results_ctt rfl _ _ b4 29 #[.int .i64 s, .slice H3 L3.length e3, .slice HQ5 Q5.length eq5] (0, 0) _ rfl P4.out hu29 rfl (by kernel_rfl)) rfl ?_
                have hh := HH.out
                unfold askF at hh
                rw [if_neg (show ¬ (lockB s l1 l2 = false) by rw [HOK.out]; exact Bool.noConfusion), if_neg (show ¬ (holdB x = false ∨ x.f3 = true) by rw [HHO.out, HF3.out]; simp), if_neg HNP.out, if_neg HNQ.out] at hh
                unfold tailF at hh
                rw [HM1.out, HM2.out, HL3.out, HT3.out] at hh
                rw [if_neg HROOM.out, if_neg (show ¬ (mayB L3 M2 x = true) by rw [HMAY.out]; exact Bool.noConfusion), HQ5_.out] at hh
                simp only [Prod.mk.injEq] at hh
                obtain ⟨rfl, rfl, rfl, rfl, rfl⟩ := hh
                exact ⟨_, _, _, rfl, R4_own RL.out (fun k hk => ⟨fun e => by have b1 := RL.out.1 k hk; have b2 := RQ.out.1 k e.symm; have a1 := HZ2.out; have a2 := HM2W10.out; have a3 := HZ3.out; have a4 := HM1W12.out; have a5 := HZ4.out; omega, fun e => SEP.out k e.symm hk.symm⟩), R4_own RQ.out (fun k hk => ⟨fun e => by have b1 := RQ.out.1 k hk; have b2 := RL.out.1 k e.symm; have a1 := HZ2.out; have a2 := HM2W10.out; have a3 := HZ3.out; have a4 := HM1W12.out; have a5 := HZ4.out; omega, fun e => by have b1 := RQ.out.1 k hk; have b2 := RT.out.1 k e.symm; have a1 := HZ2.out; have a2 := HM2W10.out; have a3 := HZ3.out; have a4 := HM1W12.out; have a5 := HZ4.out; omega⟩), R4_own RT.out (fun k hk => ⟨fun e => SEP.out k hk e, fun e => by have b1 := RT.out.1 k hk; have b2 := RQ.out.1 k e.symm; have a1 := HZ2.out; have a2 := HM2W10.out; have a3 := HZ3.out; have a4 := HM1W12.out; have a5 := HZ4.out; omega⟩), HB.out.trans (HS.out.mono (by have := G.out; omega))⟩
end Go.Proofs.Ytjldpnhlegbjkaa.PA
