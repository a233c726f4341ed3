/- What impl.LockFree comes to. -/
import Derived.Test.YtjldpnhlegbjkaaS2
import Derived.Deep.Cut
namespace Go.Proofs.Ytjldpnhlegbjkaa.PA
open Go.RowKit Go.Proofs.YtjldpnhlegbjkaaW.PrintWords Go.Proofs.YtjldpnhlegbjkaaW.PrintLast Go.Proofs.YtjldpnhlegbjkaaW.PrintMore
attribute [local go_sem] max2_int min2_int max_two min_two max_three min_three max_four min_four
set_option linter.unusedVariables false
set_option linter.unusedSimpArgs false
def goneB (st ty : Int) (z : S45) : Bool := decide (z.f0 = st) && decide (z.f1 ≤ ty)
def stepF (p : List S45 × List S45 × List S45) (x : S45) : List S45 × List S45 × List S45 :=
  if mayB p.1 p.2.1 x = true then (putOf p.1 x, p.2.1.filter (fun z => !decide (z.f0 = x.f0)), p.2.2 ++ [x]) else p
def freeF (s : Int) (l1 l2 : List S45) (st ty : Int) : Int × List S45 × List S45 × List S45 :=
  if lockB s l1 l2 = false then (0, [], [], [])
  else (s, (l2.filter (fun z => !goneB st ty z)).foldl stepF (l1.filter (fun z => !goneB st ty z), l2.filter (fun z => !goneB st ty z), []))
theorem has_mem {l : List S45} {t : Int} : hasOf l t = true ↔ ∃ z ∈ l, z.f0 = t := by
  unfold hasOf
  rw [List.any_eq_true]
  exact ⟨fun ⟨z, h1, h2⟩ => ⟨z, h1, of_decide_eq_true h2⟩, fun ⟨z, h1, h2⟩ => ⟨z, h1, decide_eq_true h2⟩⟩
theorem has_no {l : List S45} {t : Int} : hasOf l t = false ↔ ∀ z ∈ l, z.f0 ≠ t := by
  rw [← Bool.not_eq_true, has_mem]
  exact ⟨fun h z hz e => h ⟨z, hz, e⟩, fun h ⟨z, hz, e⟩ => h z hz e⟩
theorem take_lt {l : List S45} {t : Int} (ha : Asc l) : (∀ z ∈ l.take (placeOf l t).toNat, z.f0 < t) ∧ ∀ z ∈ l.drop (placeOf l t).toNat, t ≤ z.f0 := by
  induction l with
  | nil => exact ⟨fun z hz => by simp at hz, fun z hz => by simp at hz⟩
  | cons y m ih =>
    obtain ⟨hy, hm⟩ := List.pairwise_cons.1 ha
    have ih := ih hm
    by_cases h : y.f0 < t
    · have e : (placeOf (y :: m) t).toNat = (placeOf m t).toNat + 1 := by
        unfold placeOf; rw [List.filter_cons_of_pos (by simpa using h), List.length_cons]; omega
      rw [e, List.take_succ_cons, List.drop_succ_cons]
      exact ⟨fun z hz => (List.mem_cons.1 hz).elim (fun q => q ▸ h) (ih.1 z), ih.2⟩
    · have e : (placeOf (y :: m) t).toNat = 0 := by
        unfold placeOf
        rw [List.filter_eq_nil_iff.2 (fun z hz => ?_)]; rfl
        rcases List.mem_cons.1 hz with q | q
        · subst q; simpa using h
        · have := hy z q; simp; omega
      rw [e, List.take_zero, List.drop_zero]
      exact ⟨fun z hz => by simp at hz, fun z hz => (List.mem_cons.1 hz).elim (fun q => by subst q; omega) (fun q => by have := hy z q; omega)⟩
theorem put_mem {l : List S45} {x z : S45} : z ∈ putOf l x ↔ z = x ∨ z ∈ l := by
  unfold putOf
  rw [List.mem_append, List.mem_cons]
  have : z ∈ l ↔ z ∈ l.take (placeN l x) ∨ z ∈ l.drop (placeN l x) := by rw [← List.mem_append, List.take_append_drop]
  rw [this]
  exact ⟨fun h => h.elim (fun q => Or.inr (Or.inl q)) (fun h => h.elim Or.inl (fun q => Or.inr (Or.inr q))), fun h => h.elim (fun q => Or.inr (Or.inl q)) (fun h => h.elim Or.inl (fun q => Or.inr (Or.inr q)))⟩
theorem put_asc {l : List S45} {x : S45} (ha : Asc l) (hn : hasOf l x.f0 = false) : Asc (putOf l x) := by
  obtain ⟨h1, h2⟩ := take_lt (t := x.f0) ha
  have hn := has_no.1 hn
  unfold putOf placeN
  refine List.pairwise_append.2 ⟨ha.sublist (List.take_sublist _ _), List.pairwise_cons.2 ⟨fun z hz => ?_, ha.sublist (List.drop_sublist _ _)⟩, fun y hy z hz => ?_⟩
  · have a1 := h2 z hz
    have a2 := hn z (List.mem_of_mem_drop hz)
    omega
  · rcases List.mem_cons.1 hz with q | q
    · subst q; exact h1 y hy
    · have a1 := h1 y hy
      have a2 := h2 z q
      omega
theorem put_length (l : List S45) (x : S45) : (putOf l x).length = l.length + 1 := by
  have h2 := congrArg List.length (List.take_append_drop (placeN l x) l)
  unfold putOf
  simp only [List.length_append, List.length_cons] at h2 ⊢
  omega
/-- What is so at the head of round n. -/
def FreeInv (a b : Nat) (w0 : List S45) (n : Nat) (p : List S45 × List S45 × List S45) : Prop := Asc p.1 ∧ p.1.length ≤ a + n ∧ p.2.1.length ≤ b ∧ p.2.2.length ≤ n ∧ ∀ y ∈ w0.drop n, hasOf p.1 y.f0 = false
theorem FreeInv.step {a b n : Nat} {w0 : List S45} {p : List S45 × List S45 × List S45} (hw : Asc w0) (h : FreeInv a b w0 n p) (hn : n < w0.length) : FreeInv a b w0 (n + 1) (stepF p w0[n]) := by
  obtain ⟨h1, h2, h3, h4, h5⟩ := h
  have hd : w0.drop n = w0[n] :: w0.drop (n + 1) := List.drop_eq_getElem_cons hn
  rw [hd] at h5
  have hx := h5 _ (List.mem_cons_self)
  have hr : ∀ y ∈ w0.drop (n + 1), w0[n].f0 < y.f0 := by
    have q : Asc (w0.drop n) := hw.sublist (List.drop_sublist _ _)
    rw [hd] at q
    exact (List.pairwise_cons.1 q).1
  unfold stepF
  split
  · refine ⟨put_asc h1 hx, ?_, ?_, ?_, fun y hy => ?_⟩
    · show (putOf _ _).length ≤ _
      rw [put_length]; omega
    · exact Nat.le_trans (List.length_filter_le _ _) h3
    · simp; omega
    · have h6 := has_no.1 (h5 y (List.mem_cons_of_mem _ hy))
      refine has_no.2 (fun z hz => ?_)
      rcases put_mem.1 hz with q | q
      · subst q; have := hr y hy; omega
      · exact h6 z q
  · exact ⟨h1, by omega, h3, by omega, fun y hy => h5 y (List.mem_cons_of_mem _ hy)⟩
theorem FreeInv.start {s : Int} {l1 l2 : List S45} (q1 : S45 → Bool) (h : lockB s l1 l2 = true) : FreeInv l1.length l2.length (l2.filter q1) 0 (l1.filter q1, l2.filter q1, []) := by
  simp only [lockB, holdsB, Bool.and_eq_true, decide_eq_true_eq] at h
  obtain ⟨_, h2, ⟨_, h3⟩, ⟨_, h4⟩, _, h6⟩ := h
  refine ⟨h3.filter _, List.length_filter_le _ _, List.length_filter_le _ _, Nat.le_refl _, fun y hy => ?_⟩
  rw [List.drop_zero] at hy
  have h7 := List.all_eq_true.1 h6 y (List.mem_filter.1 hy).1
  simp only [Bool.and_eq_true, Bool.not_eq_true'] at h7
  refine has_no.2 (fun z hz => has_no.1 h7.1 z (List.mem_filter.1 hz).1)
theorem Rw.own_ {w : World} {base : Nat} {ok ok' : Nat → Prop} {v : Value} {l : List S45} (h : k45.R 45 w base ok v l) (h0 : ∀ k, v.ownBlock = some k → ok' k) : k45.R 45 w base ok' v l := R4_mk h0 (R4_open h)
/-- A row of one's own: the block that it owns lies in a range. -/
def Rw (w0 : Nat) (w : World) (lo hi : Nat) (v : Value) (l : List S45) : Prop := k45.R 45 w w0 (fun k => v.ownBlock = some k ∧ lo ≤ k ∧ k < hi) v l
theorem Rw.of {w0 lo : Nat} {w : World} {ok : Nat → Prop} {v : Value} {l : List S45} (h : k45.R 45 w lo ok v l) (h0 : w0 ≤ lo) : Rw w0 w lo w.heap.size v l :=
  Kd.R_lower (Rw.own_ (Kd.R_bound h) (fun k hk => ⟨hk, ((Kd.R_bound h).1 k hk).2.1, ((Kd.R_bound h).1 k hk).2.2.1⟩)) h0
theorem Rw.below {w0 lo hi : Nat} {w w' : World} {v : Value} {l : List S45} (h : Rw w0 w lo hi v l) (hb : Below w.heap.size w w') : Rw w0 w' lo hi v l := Kd.R_below h hb
theorem Rw.at_ {w0 lo hi k : Nat} {w : World} {v : Value} {l : List S45} (h : Rw w0 w lo hi v l) (hk : v.ownBlock = some k) : lo ≤ k ∧ k < hi := (h.1 k hk).2
theorem Rw.lt {w0 lo hi k : Nat} {w : World} {v : Value} {l : List S45} (h : Rw w0 w lo hi v l) (hk : v.ownBlock = some k) : k < w.heap.size := Kd.R_lt h k hk
theorem Rw.wide {w0 lo hi lo' hi' : Nat} {w : World} {v : Value} {l : List S45} (h : Rw w0 w lo hi v l) (h1 : lo' ≤ lo) (h2 : hi ≤ hi') : Rw w0 w lo' hi' v l := Kd.R_mono h (fun k hk => ⟨hk.1, by omega, by omega⟩)
theorem Rw.now {w0 lo hi : Nat} {w : World} {v : Value} {l : List S45} (h : Rw w0 w lo hi v l) : Rw w0 w lo w.heap.size v l := Rw.own_ h (fun k hk => ⟨hk, (h.at_ hk).1, h.lt hk⟩)
theorem Rw.row {w0 lo hi b : Nat} {w : World} {v : Value} {l : List S45} (h : Rw w0 w lo hi v l) (cs : Array Value) (hb : b < lo ∨ hi ≤ b) : Rw w0 (w.setRow b cs) lo hi v l :=
  Kd.R_mono (Kd.R_step h (fun k hk _ => setRow_other _ _ _ _ (by have := hk.2; omega))) (fun _ h_ => h_)
theorem Rw.cell {w0 lo hi b j : Nat} {w : World} {v u : Value} {l : List S45} (h : Rw w0 w lo hi v l) (hb : b < lo ∨ hi ≤ b) : Rw w0 (w.setCell ⟨b, j, none⟩ u) lo hi v l :=
  Kd.R_far (p := ⟨b, j, none⟩) h (fun k hk => by have := hk.2; show k ≠ b; omega) u
theorem Rw.slice {w0 lo hi : Nat} {w : World} {v : Value} {l : List S45} (h : Rw w0 w lo hi v l) : ∃ A c, v = .slice A l.length c := Kd.R_slice h
theorem Rw.reads {w0 lo hi n c : Nat} {w : World} {A : Option Addr} {l : List S45} (h : Rw w0 w lo hi (.slice A n c) l) : n = l.length ∧ n ≤ c ∧ Kd.C k45 w A l.length l := Kd.R_reads' h
theorem Rw.grown {w0 lo hi : Nat} {w w' : World} {v u : Value} {l : List S45} (h : Rw w0 w lo hi v l) (hg : w.grownBy w' u.ownBlock) (hne : ∀ k, v.ownBlock = some k → u.ownBlock ≠ some k) : Rw w0 w' lo hi v l :=
  Kd.R_mono (Kd.R_move (Kd.R_bound h) (fun k hk => hg.block k hk.2.2.1 (fun e => hne k hk.1.1 e.symm))) (fun k hk => hk.1)
theorem Rw.nil (w0 : Nat) (w : World) (lo hi : Nat) : Rw w0 w lo hi (.slice none 0 0) [] := Rw.own_ (Kd.R_nil _ _ _ _ (fun _ => True)) (fun k hk => by simp [Value.ownBlock] at hk)
theorem below_setRow' {B g : Nat} {w0 w : World} (hb : Below B w0 w) (hBg : B ≤ g) (cs : Array Value) : Below B w0 (w.setRow g cs) :=
  hb.trans ⟨rfl, rfl, rfl, by simp [World.setRow], fun k hk => setRow_other w g k cs (by omega)⟩
theorem lock_asc2 {s : Int} {l1 l2 : List S45} (h : lockB s l1 l2 = true) : Asc l2 ∧ l1.length + l2.length ≤ 16 := by
  simp only [lockB, holdsB, Bool.and_eq_true, decide_eq_true_eq] at h
  exact ⟨h.2.2.2.1.2, h.2.1⟩
set_option maxHeartbeats 8000000 in
set_option maxRecDepth 100000 in
theorem free_calls (s : Int) (A1 : Option Addr) (c1 : Nat) (l1 : List S45) (A2 : Option Addr) (c2 : Nat) (l2 : List S45) (st ty : Int) (r1 : Int) (r2 r3 r4 : List S45) (w : World)
    (hr1 : Kd.C k45 w A1 l1.length l1) (hc1 : l1.length ≤ c1) (hr2 : Kd.C k45 w A2 l2.length l2) (hc2 : l2.length ≤ c2) (hl1 : l1.length ≤ 1048576) (hl2 : l2.length ≤ 1048576) (h : freeF s l1 l2 st ty = (r1, r2, r3, r4)) :
    Calls Try.prog 25 #[.agg #[.int .i64 s, .slice A1 l1.length c1, .slice A2 l2.length c2], .int .i64 st, .int .i64 ty] w fun e w' => ∃ v1 v2 v3 : Value, e = .returned (.tuple #[.agg #[.int .i64 r1, v1, v2], v3]) ∧
      Kd.R k45 45 w' w.heap.size (fun k => some k ≠ v2.ownBlock ∧ some k ≠ v3.ownBlock) v1 r2 ∧ Kd.R k45 45 w' w.heap.size (fun k => some k ≠ v1.ownBlock ∧ some k ≠ v3.ownBlock) v2 r3 ∧ Kd.R k45 45 w' w.heap.size (fun k => some k ≠ v1.ownBlock ∧ some k ≠ v2.ownBlock) v3 r4 ∧ Below w.heap.size w w' := by
  have hu29 := Try.underlying29
  have hu45 := Try.underlying45
  have HR1 := Aside0.mk hr1
  have HC1 := Aside0.mk hc1
  have HR2 := Aside0.mk hr2
  have HC2 := Aside0.mk hc2
  have HL1 := Aside0.mk hl1
  have HL2 := Aside0.mk hl2
  have HLO : Aside0 (impl_LockOk.f s l1 l2 = some (lockB s l1 l2)) := ⟨by unfold impl_LockOk.f; rw [if_pos ⟨hl1, hl2⟩]⟩
  have HH := Aside0.mk h
  clear hr1 hc1 hr2 hc2 hl1 hl2 h
  have HB := Aside0.mk (below_alloc (below_alloc (below_alloc (below_alloc (Below.refl w.heap.size w) (.cells #[.int .i64 s, .slice A1 l1.length c1, .slice A2 l2.length c2] 29 (0, 0))) (.cells #[.int .i64 st] 3 (0, 0))) (.cells #[.int .i64 ty] 3 (0, 0))) (.cells #[.int .i64 0, .slice none 0 0, .slice none 0 0] 29 (0, 0)))
  have P3 := Aside0.mk (blk_alloc (blk_alloc (blk_alloc (blk_new (w) (.cells #[.int .i64 s, .slice A1 l1.length c1, .slice A2 l2.length c2] 29 (0, 0))) (.cells #[.int .i64 st] 3 (0, 0))) (.cells #[.int .i64 ty] 3 (0, 0))) (.cells #[.int .i64 0, .slice none 0 0, .slice none 0 0] 29 (0, 0)))
  have P4 := Aside0.mk (blk_alloc (blk_alloc (blk_new ((w).alloc (.cells #[.int .i64 s, .slice A1 l1.length c1, .slice A2 l2.length c2] 29 (0, 0))) (.cells #[.int .i64 st] 3 (0, 0))) (.cells #[.int .i64 ty] 3 (0, 0))) (.cells #[.int .i64 0, .slice none 0 0, .slice none 0 0] 29 (0, 0)))
  have P5 := Aside0.mk (blk_alloc (blk_new (((w).alloc (.cells #[.int .i64 s, .slice A1 l1.length c1, .slice A2 l2.length c2] 29 (0, 0))).alloc (.cells #[.int .i64 st] 3 (0, 0))) (.cells #[.int .i64 ty] 3 (0, 0))) (.cells #[.int .i64 0, .slice none 0 0, .slice none 0 0] 29 (0, 0)))
  have P6 := Aside0.mk (blk_new ((((w).alloc (.cells #[.int .i64 s, .slice A1 l1.length c1, .slice A2 l2.length c2] 29 (0, 0))).alloc (.cells #[.int .i64 st] 3 (0, 0))).alloc (.cells #[.int .i64 ty] 3 (0, 0))) (.cells #[.int .i64 0, .slice none 0 0, .slice none 0 0] 29 (0, 0)))
  have hs_ : ((w).alloc (.cells #[.int .i64 s, .slice A1 l1.length c1, .slice A2 l2.length c2] 29 (0, 0))).heap.size = w.heap.size + 1 := by simp
  rw [hs_] at P4
  clear hs_
  have hs_ : (((w).alloc (.cells #[.int .i64 s, .slice A1 l1.length c1, .slice A2 l2.length c2] 29 (0, 0))).alloc (.cells #[.int .i64 st] 3 (0, 0))).heap.size = w.heap.size + 1 + 1 := by simp
  rw [hs_] at P5
  clear hs_
  have hs_ : ((((w).alloc (.cells #[.int .i64 s, .slice A1 l1.length c1, .slice A2 l2.length c2] 29 (0, 0))).alloc (.cells #[.int .i64 st] 3 (0, 0))).alloc (.cells #[.int .i64 ty] 3 (0, 0))).heap.size = w.heap.size + 1 + 1 + 1 := by simp
  rw [hs_] at P6
  clear hs_
  go_enter Try.func25, Try.ntmps25
  go_wp2_with (fail)
  generalize ((((w).alloc (.cells #[.int .i64 s, .slice A1 l1.length c1, .slice A2 l2.length c2] 29 (0, 0))).alloc (.cells #[.int .i64 st] 3 (0, 0))).alloc (.cells #[.int .i64 ty] 3 (0, 0))).alloc (.cells #[.int .i64 0, .slice none 0 0, .slice none 0 0] 29 (0, 0)) = W1 at HB P3 P4 P5 P6 ⊢
  obtain ⟨b6, hb6⟩ : ∃ b6, b6 = w.heap.size + 1 + 1 + 1 := ⟨_, rfl⟩
  obtain ⟨b5, hb5⟩ : ∃ b5, b5 = w.heap.size + 1 + 1 := ⟨_, rfl⟩
  obtain ⟨b4, hb4⟩ : ∃ b4, b4 = w.heap.size + 1 := ⟨_, rfl⟩
  rw [← hb6] at P6 ⊢
  rw [← hb5] at P5 ⊢
  rw [← hb4] at P4 ⊢
  have G := Aside0.mk (show w.heap.size < b4 ∧ b4 < b5 ∧ b5 < b6 by omega)
  clear hb4 hb5 hb6
  go_wp2_with (((with_reducible refine gate_dst (N := 13) rfl ?_); refine wpList_load_row rfl 29 (.tmp 3) rfl w.heap.size rfl 29 #[.int .i64 s, .slice A1 l1.length c1, .slice A2 l2.length c2] (0, 0) _ P3.out hu29 rfl (by kernel_rfl) ?_))
  refine (impl_LockOk.calls s A1 c1 l1 A2 c2 l2 (lockB s l1 l2) W1 (Kd.C_below HR1.out HB.out) HC1.out (Kd.C_below HR2.out HB.out) HC2.out HLO.out).mono ?_
  rintro e W2 ⟨rfl, hb⟩
  have P3 := Aside0.mk (blk_below P3.out hb)
  have P4 := Aside0.mk (blk_below P4.out hb)
  have P5 := Aside0.mk (blk_below P5.out hb)
  have P6 := Aside0.mk (blk_below P6.out hb)
  have HB := Aside0.mk (below_step HB.out hb)
  clear hb
  cases hok : lockB s l1 l2 with
  | false =>
    have hh := HH.out
    unfold freeF at hh
    rw [if_pos hok] at hh
    simp only [Prod.mk.injEq] at hh
    obtain ⟨rfl, rfl, rfl, rfl⟩ := hh
    clear hok
    go_wp2_with (((with_reducible refine gate_store (t := 29) (p := 6) rfl ?_); (refine wpList_store_row rfl 29 (.tmp 6) (.tmp 16) rfl b6 #[.int .i64 0, .slice none 0 0, .slice none 0 0] rfl rfl 29 #[.int .i64 0, .slice none 0 0, .slice none 0 0] P6.out (by kernel_rfl) rfl (by simp [Value.oneCell']) ?_; have P6 := Aside0.mk (setRow_heap W2 b6 _ #[.int .i64 0, .slice none 0 0, .slice none 0 0] 29 (0, 0) P6.out); have HS := Aside0.mk (below_setRow' (Below.refl b6 W2) (Nat.le_refl b6) #[.int .i64 0, .slice none 0 0, .slice none 0 0]); generalize W2.setRow b6 #[.int .i64 0, .slice none 0 0, .slice none 0 0] = W3 at P6 HS ⊢)))
    refine bodyPost_ret (results_ct rfl _ _ b6 29 #[.int .i64 0, .slice none 0 0, .slice none 0 0] (0, 0) _ rfl P6.out hu29 rfl (by kernel_rfl)) rfl ?_
    exact ⟨_, _, _, rfl, Kd.R_nil _ _ _ _ _, Kd.R_nil _ _ _ _ _, Kd.R_nil _ _ _ _ _, HB.out.trans (HS.out.mono (by have := G.out; omega))⟩
  | true =>
    have HINV := Aside0.mk (FreeInv.start (fun z => !goneB st ty z) hok)
    have HAW : Aside0 (Asc (l2.filter (fun z => !goneB st ty z))) := ⟨(lock_asc2 hok).1.filter _⟩
    have HQ := Aside0.mk (lock_asc2 hok).2
    have hh := HH.out
    unfold freeF at hh
    rw [if_neg (show ¬ (lockB s l1 l2 = false) by rw [hok]; exact Bool.noConfusion)] at hh
    have HH := Aside0.mk hh
    clear hh hok
    have hmf : ∀ (fn : Fn) (first cap : Array Value) (w : World), (Instr.makeFunc fn first cap).run Try.prog w = .ok (.func fn first cap) w := fun _ _ _ _ => rfl
    have hl0 := (blk_cell P3.out 0).trans (show _ = some (.int .i64 s) from rfl)
    have hl1 := (blk_cell P3.out 1).trans (show _ = some (.slice A1 l1.length c1) from rfl)
    have hm1 : (W2.alloc (.cells #[.int .i64 s, .slice none 0 0, .slice none 0 0] 29 (0, 0))).cell? ⟨w.heap.size, 1, none⟩ = some (.slice A1 l1.length c1) := (World.cell?_alloc_lt _ _ _ (blk_lt P3.out)).trans hl1
    go_wp2_with (fail)
    clear hl0 hl1 hm1
    have G9 : Aside0 (b6 < W2.heap.size) := ⟨blk_lt P6.out⟩
    have P9 := Aside0.mk (blk_new W2 (.cells #[.int .i64 s, .slice none 0 0, .slice none 0 0] 29 (0, 0)))
    have hb := below_alloc (Below.refl W2.heap.size W2) (.cells #[.int .i64 s, .slice none 0 0, .slice none 0 0] 29 (0, 0))
    have P3 := Aside0.mk (blk_below P3.out hb)
    have P4 := Aside0.mk (blk_below P4.out hb)
    have P5 := Aside0.mk (blk_below P5.out hb)
    have P6 := Aside0.mk (blk_below P6.out hb)
    have HB := Aside0.mk (below_step HB.out hb)
    clear hb
    have GL0 := Aside0.mk (blk_lt P9.out)
    generalize W2.alloc (.cells #[.int .i64 s, .slice none 0 0, .slice none 0 0] 29 (0, 0)) = W3 at P3 P4 P5 P6 P9 HB GL0 ⊢
    generalize W2.heap.size = b9 at P9 G9 GL0 ⊢
    have hn1 : w.heap.size ≠ b9 := by have := G9.out; have := G.out; omega
    have hn2 : b9 ≠ w.heap.size := by have := G9.out; have := G.out; omega
    have hn5 : b6 ≠ b9 := by have := G9.out; omega
    have hn6 : b9 ≠ b6 := by have := G9.out; omega
    refine (split54 (.pointer (some ⟨b4, 0, none⟩)) (.pointer (some ⟨b5, 0, none⟩)) (goneB st ty) A1 c1 l1 W3 (Kd.C_below HR1.out HB.out) (HC1.out) (HL1.out) (fun z W hW => cl54 st ty z b4 b5 W ((blk_cell (blk_below P4.out hW) 0).trans rfl) ((blk_cell (blk_below P5.out hW) 0).trans rfl))).mono ?_
    rintro e W4 ⟨va, vb, rfl, q1, q2, hb⟩
    obtain ⟨O1, o1, e0⟩ := Kd.R_slice q1
    subst e0
    obtain ⟨H1, e1, e0⟩ := Kd.R_slice q2
    subst e0
    have q2 := Rw.of q2 HB.out.size
    have ZW4 := Aside0.mk hb.size
    have P3 := Aside0.mk (blk_below P3.out hb)
    have P4 := Aside0.mk (blk_below P4.out hb)
    have P5 := Aside0.mk (blk_below P5.out hb)
    have P6 := Aside0.mk (blk_below P6.out hb)
    have P9 := Aside0.mk (blk_below P9.out hb)
    have HB := Aside0.mk (below_step HB.out hb)
    clear hb
    have RH := Aside0.mk (Rw.wide q2 (Nat.le_refl W3.heap.size) (Nat.le_refl _))
    clear q1 q2
    generalize hq_ : List.filter (fun z => !goneB st ty z) l1 = M1 at RH HINV HH ⊢
    have HM1 := Aside0.mk hq_
    clear hq_
    have hl2 := (blk_cell P3.out 2).trans (show _ = some (.slice A2 l2.length c2) from rfl)
    have hb0 := (blk_cell P9.out 0).trans (show _ = some (.int .i64 s) from rfl)
    have hf0 := blk_frozen P9.out 0
    have hb1 := (blk_cell P9.out 1).trans (show _ = some (.slice none 0 0) from rfl)
    have hf1 := blk_frozen P9.out 1
    have hb2 := (blk_cell P9.out 2).trans (show _ = some (.slice none 0 0) from rfl)
    have hf2 := blk_frozen P9.out 2
    go_wp2_with (fail)
    clear hb0 hb1 hb2 hf0 hf1 hf2 hl2
    have P3 := Aside0.mk (blk_far (p := ⟨b9, 1, none⟩) P3.out (show w.heap.size ≠ b9 by have := G9.out; have := G.out; omega) (.slice H1 M1.length e1))
    have P4 := Aside0.mk (blk_far (p := ⟨b9, 1, none⟩) P4.out (show b4 ≠ b9 by have := G9.out; have := G.out; omega) (.slice H1 M1.length e1))
    have P5 := Aside0.mk (blk_far (p := ⟨b9, 1, none⟩) P5.out (show b5 ≠ b9 by have := G9.out; have := G.out; omega) (.slice H1 M1.length e1))
    have P6 := Aside0.mk (blk_far (p := ⟨b9, 1, none⟩) P6.out (show b6 ≠ b9 by have := G9.out; have := G.out; omega) (.slice H1 M1.length e1))
    have P9 := Aside0.mk (blk_put (cs' := #[.int .i64 s, .slice H1 M1.length e1, .slice none 0 0]) P9.out 1 (.slice H1 M1.length e1) rfl)
    have HB := Aside0.mk (below_set (g := b9) (j := 1) (v := .slice H1 M1.length e1) HB.out (by have := G9.out; have := G.out; omega))
    have RH := Aside0.mk (Rw.cell (b := b9) (j := 1) (u := .slice H1 M1.length e1) RH.out (Or.inl (by have := GL0.out; omega)))
    have YW5 := Aside0.mk (show W4.heap.size ≤ (W4.setCell ⟨b9, 1, none⟩ (.slice H1 M1.length e1)).heap.size by simp)
    generalize (W4.setCell ⟨b9, 1, none⟩ (.slice H1 M1.length e1)) = W5 at P3 P4 P5 P6 P9 HB RH YW5 ⊢
    refine (split54 (.pointer (some ⟨b4, 0, none⟩)) (.pointer (some ⟨b5, 0, none⟩)) (goneB st ty) A2 c2 l2 W5 (Kd.C_below HR2.out HB.out) (HC2.out) (HL2.out) (fun z W hW => cl54 st ty z b4 b5 W ((blk_cell (blk_below P4.out hW) 0).trans rfl) ((blk_cell (blk_below P5.out hW) 0).trans rfl))).mono ?_
    rintro e W6 ⟨va, vb, rfl, q1, q2, hb⟩
    obtain ⟨O2, o2, e0⟩ := Kd.R_slice q1
    subst e0
    obtain ⟨H2, e2, e0⟩ := Kd.R_slice q2
    subst e0
    have q2 := Rw.of q2 HB.out.size
    have ZW6 := Aside0.mk hb.size
    have P3 := Aside0.mk (blk_below P3.out hb)
    have P4 := Aside0.mk (blk_below P4.out hb)
    have P5 := Aside0.mk (blk_below P5.out hb)
    have P6 := Aside0.mk (blk_below P6.out hb)
    have P9 := Aside0.mk (blk_below P9.out hb)
    have RH := Aside0.mk (Rw.below RH.out hb)
    have HB := Aside0.mk (below_step HB.out hb)
    clear hb
    have RW := Aside0.mk q2
    clear q1 q2
    generalize hq_ : List.filter (fun z => !goneB st ty z) l2 = w0 at RW HINV HH HAW ⊢
    have HM2 := Aside0.mk hq_
    clear hq_
    have hb0 := (blk_cell P9.out 0).trans (show _ = some (.int .i64 s) from rfl)
    have hf0 := blk_frozen P9.out 0
    have hb1 := (blk_cell P9.out 1).trans (show _ = some (.slice H1 M1.length e1) from rfl)
    have hf1 := blk_frozen P9.out 1
    have hb2 := (blk_cell P9.out 2).trans (show _ = some (.slice none 0 0) from rfl)
    have hf2 := blk_frozen P9.out 2
    go_wp2_with (fail)
    clear hb0 hb1 hb2 hf0 hf1 hf2
    have P3 := Aside0.mk (blk_far (p := ⟨b9, 2, none⟩) P3.out (show w.heap.size ≠ b9 by have := G9.out; have := G.out; omega) (.slice H2 w0.length e2))
    have P4 := Aside0.mk (blk_far (p := ⟨b9, 2, none⟩) P4.out (show b4 ≠ b9 by have := G9.out; have := G.out; omega) (.slice H2 w0.length e2))
    have P5 := Aside0.mk (blk_far (p := ⟨b9, 2, none⟩) P5.out (show b5 ≠ b9 by have := G9.out; have := G.out; omega) (.slice H2 w0.length e2))
    have P6 := Aside0.mk (blk_far (p := ⟨b9, 2, none⟩) P6.out (show b6 ≠ b9 by have := G9.out; have := G.out; omega) (.slice H2 w0.length e2))
    have P9 := Aside0.mk (blk_put (cs' := #[.int .i64 s, .slice H1 M1.length e1, .slice H2 w0.length e2]) P9.out 2 (.slice H2 w0.length e2) rfl)
    have HB := Aside0.mk (below_set (g := b9) (j := 2) (v := .slice H2 w0.length e2) HB.out (by have := G9.out; have := G.out; omega))
    have RH := Aside0.mk (Rw.cell (b := b9) (j := 2) (u := .slice H2 w0.length e2) RH.out (Or.inl (by have := GL0.out; have := ZW4.out; have := YW5.out; omega)))
    have RW := Aside0.mk (Rw.cell (b := b9) (j := 2) (u := .slice H2 w0.length e2) RW.out (Or.inl (by have := GL0.out; have := ZW4.out; have := YW5.out; omega)))
    have YW7 := Aside0.mk (show W6.heap.size ≤ (W6.setCell ⟨b9, 2, none⟩ (.slice H2 w0.length e2)).heap.size by simp)
    generalize (W6.setCell ⟨b9, 2, none⟩ (.slice H2 w0.length e2)) = W7 at P3 P4 P5 P6 P9 HB RH RW YW7 ⊢
    have hb0 := (blk_cell P9.out 0).trans (show _ = some (.int .i64 s) from rfl)
    have hf0 := blk_frozen P9.out 0
    have hb1 := (blk_cell P9.out 1).trans (show _ = some (.slice H1 M1.length e1) from rfl)
    have hf1 := blk_frozen P9.out 1
    have hb2 := (blk_cell P9.out 2).trans (show _ = some (.slice H2 w0.length e2) from rfl)
    have hf2 := blk_frozen P9.out 2
    have hw0 : w0.length ≤ l2.length := by rw [← HM2.out]; exact List.length_filter_le _ _
    have HE : Aside0 (impl_Hold_56.f w0 = some w0) := ⟨by unfold impl_Hold_56.f; rw [if_pos (by have := HL2.out; omega)]⟩
    have HW0 := Aside0.mk hw0
    clear hw0
    refine (impl_Hold_56.calls H2 e2 w0 w0 W7 (RW.out.reads).2.2 (RW.out.reads).2.1 HE.out).mono ?_
    rintro e W8 ⟨vc, rfl, qc, hb⟩
    obtain ⟨CA, cc, e0⟩ := Kd.R_slice qc
    subst e0
    have qc := Rw.of qc HB.out.size
    have ZW8 := Aside0.mk hb.size
    clear hb0 hb1 hb2 hf0 hf1 hf2
    have P3 := Aside0.mk (blk_below P3.out hb)
    have P4 := Aside0.mk (blk_below P4.out hb)
    have P5 := Aside0.mk (blk_below P5.out hb)
    have P6 := Aside0.mk (blk_below P6.out hb)
    have P9 := Aside0.mk (blk_below P9.out hb)
    have RH := Aside0.mk (Rw.below RH.out hb)
    have RW := Aside0.mk (Rw.below RW.out hb)
    have HB := Aside0.mk (below_step HB.out hb)
    clear hb
    have RC := Aside0.mk qc
    clear qc
    go_wp2_with (fail)
    go_loopw [10, 41] (fun v10 i wr => ∃ (x : Nat) (HA : Option Addr) (hc : Nat) (WA : Option Addr) (wc : Nat), i = .int .i64 (x : Int) ∧ Aside0 (x ≤ w0.length) ∧ Aside0 (wr.heap[b9]? = some (.cells #[.int .i64 s, .slice HA (((w0.take (x)).foldl stepF (M1, w0, [])).1).length hc, .slice WA (((w0.take (x)).foldl stepF (M1, w0, [])).2.1).length wc] 29 (0, 0))) ∧ Aside0 (Rw w.heap.size wr W3.heap.size wr.heap.size (.slice HA (((w0.take (x)).foldl stepF (M1, w0, [])).1).length hc) ((w0.take (x)).foldl stepF (M1, w0, [])).1) ∧ Aside0 (Rw w.heap.size wr W3.heap.size wr.heap.size (.slice WA (((w0.take (x)).foldl stepF (M1, w0, [])).2.1).length wc) ((w0.take (x)).foldl stepF (M1, w0, [])).2.1) ∧ Aside0 (Rw w.heap.size wr W3.heap.size wr.heap.size v10 ((w0.take (x)).foldl stepF (M1, w0, [])).2.2) ∧ Aside0 (∀ k, (.slice HA (((w0.take (x)).foldl stepF (M1, w0, [])).1).length hc : Value).ownBlock = some k → (.slice WA (((w0.take (x)).foldl stepF (M1, w0, [])).2.1).length wc : Value).ownBlock ≠ some k ∧ (v10 : Value).ownBlock ≠ some k) ∧ Aside0 (∀ k, (.slice WA (((w0.take (x)).foldl stepF (M1, w0, [])).2.1).length wc : Value).ownBlock = some k → (v10 : Value).ownBlock ≠ some k) ∧ Aside0 (∀ k, (.slice CA w0.length cc : Value).ownBlock = some k → (v10 : Value).ownBlock ≠ some k) ∧ Aside0 (Rw w.heap.size wr W7.heap.size W8.heap.size (.slice CA w0.length cc) w0) ∧ Aside0 (wr.heap[b6]? = some (.cells #[.int .i64 0, .slice none 0 0, .slice none 0 0] 29 (0, 0))) ∧ Aside0 (Below w.heap.size w wr) ∧ Aside0 (FreeInv l1.length l2.length w0 (x) ((w0.take (x)).foldl stepF (M1, w0, []))) ∧ Aside0 (W8.heap.size ≤ wr.heap.size)) (fun _ i _ => w0.length - (intOf i).toNat)
    case atStart =>
      have a1 := ZW4.out
      have a2 := YW5.out
      have a3 := ZW6.out
      have a4 := YW7.out
      have a5 := ZW8.out
      exact ⟨0, H1, e1, H2, e2, rfl, ⟨Nat.zero_le _⟩, P9, ⟨RH.out.now⟩, ⟨Rw.wide RW.out.now (by omega) (Nat.le_refl _)⟩, ⟨Rw.nil _ _ _ _⟩, ⟨fun k hk => ⟨fun e => by have := RH.out.at_ hk; have := RW.out.at_ e; omega, fun e => by simp [Value.ownBlock] at e⟩⟩, ⟨fun k hk e => by simp [Value.ownBlock] at e⟩, ⟨fun k hk e => by simp [Value.ownBlock] at e⟩, RC, P6, HB, HINV, ⟨Nat.le_refl _⟩⟩
    case round =>
      clear P3 P4 P5 P6 P9 RH RW RC HB
      obtain ⟨x, HA, hc, WA, wc, rfl, HX, P9, RH, RW, RG, S1, S2, S3, RC, P6, HB, HI, HZ⟩ := hrel
      by_cases hlt : x < w0.length
      · have hdl : decide (x < w0.length) = true := decide_eq_true hlt
        have HLT := Aside0.mk hlt
        have HN := Aside0.mk (show ((w0.take (x + 1)).foldl stepF (M1, w0, [])) = stepF ((w0.take (x)).foldl stepF (M1, w0, [])) w0[x] by rw [List.take_succ_eq_append_getElem hlt, List.foldl_append]; rfl)
        have HI2 := Aside0.mk (HI.out.step HAW.out hlt)
        obtain ⟨ad, hA, hx0, hx1, hx2, hx3⟩ := at_T45 (RC.out.reads).2.2 (x : Int) (by omega) (by omega)
        subst hA
        simp only [Int.toNat_natCast] at hx0 hx1 hx2 hx3
        have hll := HL2.out
        have hlw := HW0.out
        have hw : wrap64 ((x : Int) + 1) = (x : Int) + 1 := by unfold wrap64; omega
        have hrd := rdH hlt
        rw [hrd] at hx0 hx1 hx2 hx3
        generalize w0[x] = y at hx0 hx1 hx2 hx3 HN HI2
        clear hrd
        generalize ((w0.take (x)).foldl stepF (M1, w0, [])) = p at P9 RH RW RG S1 S2 HI HN HI2
        obtain ⟨H0, W0, G0⟩ := p
        have P9 : Aside0 (wr.heap[b9]? = some (.cells #[.int .i64 s, .slice HA H0.length hc, .slice WA W0.length wc] 29 (0, 0))) := P9
        have RH : Aside0 (Rw w.heap.size wr W3.heap.size wr.heap.size (.slice HA H0.length hc) H0) := RH
        have RW : Aside0 (Rw w.heap.size wr W3.heap.size wr.heap.size (.slice WA W0.length wc) W0) := RW
        have RG : Aside0 (Rw w.heap.size wr W3.heap.size wr.heap.size u10 G0) := RG
        have S1 : Aside0 (∀ k, (Value.slice HA H0.length hc).ownBlock = some k → (Value.slice WA W0.length wc).ownBlock ≠ some k ∧ (u10 : Value).ownBlock ≠ some k) := S1
        have S2 : Aside0 (∀ k, (Value.slice WA W0.length wc).ownBlock = some k → (u10 : Value).ownBlock ≠ some k) := S2
        have HI : Aside0 (Asc H0 ∧ H0.length ≤ l1.length + x ∧ W0.length ≤ l2.length ∧ G0.length ≤ x) := ⟨HI.out.1, HI.out.2.1, HI.out.2.2.1, HI.out.2.2.2.1⟩
        have P12 := Aside0.mk (blk_new wr (.cells #[.int .i64 y.f0, .int .i64 y.f1, .bool y.f2, .bool y.f3] 45 (0, 0)))
        have P9a := Aside0.mk (blk_alloc P9.out (.cells #[.int .i64 y.f0, .int .i64 y.f1, .bool y.f2, .bool y.f3] 45 (0, 0)))
        go_wp2_with (first | ((with_reducible refine gate_dst (N := 45) rfl ?_); refine wpList_load_row rfl 29 (.tmp 9) rfl b9 rfl 29 #[.int .i64 s, .slice HA H0.length hc, .slice WA W0.length wc] (0, 0) _ P9a.out hu29 rfl (by kernel_rfl) ?_) | ((with_reducible refine gate_dst (N := 46) rfl ?_); refine wpList_load_row rfl 45 (.tmp 12) rfl wr.heap.size rfl 45 #[.int .i64 y.f0, .int .i64 y.f1, .bool y.f2, .bool y.f3] (0, 0) _ P12.out hu45 rfl (by kernel_rfl) ?_))
        clear P9a hlt
        have hb := below_alloc (Below.refl wr.heap.size wr) (.cells #[.int .i64 y.f0, .int .i64 y.f1, .bool y.f2, .bool y.f3] 45 (0, 0))
        have G12 := Aside0.mk (show b9 < wr.heap.size from blk_lt P9.out)
        have G13 := Aside0.mk (blk_lt P12.out)
        clear hx0 hx1 hx2 hx3
        have P6 := Aside0.mk (blk_below P6.out hb)
        have P9 := Aside0.mk (blk_below P9.out hb)
        have RH := Aside0.mk (Rw.below RH.out hb)
        have RW := Aside0.mk (Rw.below RW.out hb)
        have RG := Aside0.mk (Rw.below RG.out hb)
        have RC := Aside0.mk (Rw.below RC.out hb)
        have HB := Aside0.mk (below_step HB.out hb)
        clear hb
        have ZV := Aside0.mk (show wr.heap.size ≤ wr.heap.size from Nat.le_refl _)
        generalize wr.alloc (.cells #[.int .i64 y.f0, .int .i64 y.f1, .bool y.f2, .bool y.f3] 45 (0, 0)) = V1 at P6 P9 P12 RH RW RG RC HB G13 ⊢
        obtain ⟨b12, hb12⟩ : ∃ b12, b12 = wr.heap.size := ⟨_, rfl⟩
        have RH := Aside0.mk RH.out.now
        have RW := Aside0.mk RW.out.now
        have RG := Aside0.mk RG.out.now
        rw [← hb12] at P12 G12 G13 ⊢
        have ZV1 := Aside0.mk (show b12 = wr.heap.size from hb12)
        clear hb12 ZV
        have hn3 : b12 ≠ b9 := by have := G12.out; omega
        have hn4 : b9 ≠ b12 := by have := G12.out; omega
        refine (may_calls s HA hc H0 WA wc W0 y V1 (RH.out.reads).2.2 (RH.out.reads).2.1 (RW.out.reads).2.2 (RW.out.reads).2.1).mono ?_
        rintro e V2 ⟨rfl, hb⟩
        have ZV2 := Aside0.mk hb.size
        have P6 := Aside0.mk (blk_below P6.out hb)
        have P9 := Aside0.mk (blk_below P9.out hb)
        have P12 := Aside0.mk (blk_below P12.out hb)
        have RH := Aside0.mk (Rw.below RH.out hb)
        have RW := Aside0.mk (Rw.below RW.out hb)
        have RG := Aside0.mk (Rw.below RG.out hb)
        have RC := Aside0.mk (Rw.below RC.out hb)
        have HB := Aside0.mk (below_step HB.out hb)
        clear hb
        cases hm : mayB H0 W0 y with
        | false =>
          go_wp2_with (fail)
          go_roundw
          case rel =>
            have HN' : Aside0 (((w0.take (x + 1)).foldl stepF (M1, w0, [])) = (H0, W0, G0)) := ⟨by rw [HN.out]; unfold stepF; rw [if_neg (by rw [hm]; exact Bool.noConfusion)]⟩
            have hz_ := HZ.out
            exact ⟨x + 1, HA, hc, WA, wc, congrArg (Value.int .i64) (by omega), ⟨HLT.out⟩, ⟨by rw [HN'.out]; exact P9.out⟩, ⟨by rw [HN'.out]; exact RH.out.now⟩, ⟨by rw [HN'.out]; exact RW.out.now⟩, ⟨by rw [HN'.out]; exact RG.out.now⟩, ⟨by rw [HN'.out]; exact S1.out⟩, ⟨by rw [HN'.out]; exact S2.out⟩, S3, RC, P6, HB, ⟨by rw [HN.out]; exact HI2.out⟩, ⟨by have := ZV1.out; have := G13.out; have := ZV2.out; omega⟩⟩
          case measure =>
            (try rw [hw])
            show w0.length - ((x : Int) + 1).toNat < w0.length - (x : Int).toNat
            have := HLT.out
            omega
        | true =>
          have hb0 := (blk_cell P9.out 0).trans (show _ = some (.int .i64 s) from rfl)
          have hf0 := blk_frozen P9.out 0
          have hb1 := (blk_cell P9.out 1).trans (show _ = some (.slice HA H0.length hc) from rfl)
          have hf1 := blk_frozen P9.out 1
          have hb2 := (blk_cell P9.out 2).trans (show _ = some (.slice WA W0.length wc) from rfl)
          have hf2 := blk_frozen P9.out 2
          go_wp2_with (fail)
          clear hb0 hb1 hb2 hf0 hf1 hf2
          refine (split58 (.pointer (some ⟨b12, 0, none⟩)) (fun z => decide (z.f0 = y.f0)) WA wc W0 V2 (RW.out.reads).2.2 (RW.out.reads).2.1 (by have := HI.out.2.2.1; omega) (fun z W hW => cl58 y.f0 z b12 W ((blk_cell (blk_below P12.out hW) 0).trans rfl))).mono ?_
          rintro e V3 ⟨va, vb, rfl, q1, q2, hb⟩
          obtain ⟨O1, o1, e0⟩ := Kd.R_slice q1
          subst e0
          obtain ⟨WN, wn, e0⟩ := Kd.R_slice q2
          subst e0
          have q2 := Rw.of q2 HB.out.size
          have ZV3 := Aside0.mk hb.size
          clear q1
          have S1 := Aside0.mk (fun k hk => (S1.out k hk).2)
          have P6 := Aside0.mk (blk_below P6.out hb)
          have P9 := Aside0.mk (blk_below P9.out hb)
          have P12 := Aside0.mk (blk_below P12.out hb)
          have RH := Aside0.mk (Rw.below RH.out hb)
          have RG := Aside0.mk (Rw.below RG.out hb)
          have RC := Aside0.mk (Rw.below RC.out hb)
          have HB := Aside0.mk (below_step HB.out hb)
          clear hb
          have RW := Aside0.mk q2
          clear q2
          generalize hq_ : List.filter (fun z => !decide (z.f0 = y.f0)) W0 = W1_ at RW ⊢
          have HW1 := Aside0.mk hq_
          clear hq_
          have hb0 := (blk_cell P9.out 0).trans (show _ = some (.int .i64 s) from rfl)
          have hf0 := blk_frozen P9.out 0
          have hb1 := (blk_cell P9.out 1).trans (show _ = some (.slice HA H0.length hc) from rfl)
          have hf1 := blk_frozen P9.out 1
          have hb2 := (blk_cell P9.out 2).trans (show _ = some (.slice WA W0.length wc) from rfl)
          have hf2 := blk_frozen P9.out 2
          have P12s := Aside0.mk (blk_far (p := ⟨b9, 2, none⟩) P12.out (show b12 ≠ b9 from hn3) (.slice WN W1_.length wn))
          go_wp2_with (((with_reducible refine gate_dst (N := 58) rfl ?_); refine wpList_load_row rfl 45 (.tmp 12) rfl b12 rfl 45 #[.int .i64 y.f0, .int .i64 y.f1, .bool y.f2, .bool y.f3] (0, 0) _ P12s.out hu45 rfl (by kernel_rfl) ?_))
          clear P12s
          clear hb0 hb1 hb2 hf0 hf1 hf2
          have P6 := Aside0.mk (blk_far (p := ⟨b9, 2, none⟩) P6.out (show b6 ≠ b9 by have := G9.out; have := G.out; omega) (.slice WN W1_.length wn))
          have P12 := Aside0.mk (blk_far (p := ⟨b9, 2, none⟩) P12.out (show b12 ≠ b9 by have := G9.out; have := G.out; have := G12.out; omega) (.slice WN W1_.length wn))
          have P9 := Aside0.mk (blk_put (cs' := #[.int .i64 s, .slice HA H0.length hc, .slice WN W1_.length wn]) P9.out 2 (.slice WN W1_.length wn) rfl)
          have HB := Aside0.mk (below_set (g := b9) (j := 2) (v := .slice WN W1_.length wn) HB.out (by have := G9.out; have := G.out; omega))
          have RH := Aside0.mk (Rw.cell (b := b9) (j := 2) (u := .slice WN W1_.length wn) RH.out (Or.inl (by have := GL0.out; have := ZV1.out; have := G13.out; have := ZV2.out; have := GL0.out; have := HZ.out; have := ZW4.out; have := YW5.out; have := ZW6.out; have := YW7.out; have := ZW8.out; omega)))
          have RG := Aside0.mk (Rw.cell (b := b9) (j := 2) (u := .slice WN W1_.length wn) RG.out (Or.inl (by have := GL0.out; have := ZV1.out; have := G13.out; have := ZV2.out; have := GL0.out; have := HZ.out; have := ZW4.out; have := YW5.out; have := ZW6.out; have := YW7.out; have := ZW8.out; omega)))
          have RC := Aside0.mk (Rw.cell (b := b9) (j := 2) (u := .slice WN W1_.length wn) RC.out (Or.inl (by have := GL0.out; have := ZV1.out; have := G13.out; have := ZV2.out; have := GL0.out; have := HZ.out; have := ZW4.out; have := YW5.out; have := ZW6.out; have := YW7.out; have := ZW8.out; omega)))
          have RW := Aside0.mk (Rw.cell (b := b9) (j := 2) (u := .slice WN W1_.length wn) RW.out (Or.inl (by have := GL0.out; have := ZV1.out; have := G13.out; have := ZV2.out; have := GL0.out; have := HZ.out; have := ZW4.out; have := YW5.out; have := ZW6.out; have := YW7.out; have := ZW8.out; omega)))
          have YV4 := Aside0.mk (show V3.heap.size ≤ (V3.setCell ⟨b9, 2, none⟩ (.slice WN W1_.length wn)).heap.size by simp)
          generalize (V3.setCell ⟨b9, 2, none⟩ (.slice WN W1_.length wn)) = V4 at P6 P9 P12 HB RH RG RC RW YV4 ⊢
          refine (putBy_calls HA hc H0 y V4 (RH.out.reads).2.2 (RH.out.reads).2.1 HI.out.1 (by have := HI.out.2.1; have := HQ.out; have := HLT.out; have := HW0.out; omega)).mono ?_
          rintro e V5 ⟨vq, rfl, q1, hb⟩
          obtain ⟨HQ5, eq5, e0⟩ := Kd.R_slice q1
          subst e0
          have q1 := Rw.of q1 HB.out.size
          have ZV5 := Aside0.mk hb.size
          have P6 := Aside0.mk (blk_below P6.out hb)
          have P9 := Aside0.mk (blk_below P9.out hb)
          have P12 := Aside0.mk (blk_below P12.out hb)
          have RG := Aside0.mk (Rw.below RG.out hb)
          have RC := Aside0.mk (Rw.below RC.out hb)
          have RW := Aside0.mk (Rw.below RW.out hb)
          have HB := Aside0.mk (below_step HB.out hb)
          clear hb
          have RH := Aside0.mk q1
          clear q1
          generalize hq_ : putOf H0 y = H1_ at RH ⊢
          have HH1 := Aside0.mk hq_
          clear hq_
          have hb0 := (blk_cell P9.out 0).trans (show _ = some (.int .i64 s) from rfl)
          have hf0 := blk_frozen P9.out 0
          have hb1 := (blk_cell P9.out 1).trans (show _ = some (.slice HA H0.length hc) from rfl)
          have hf1 := blk_frozen P9.out 1
          have hb2 := (blk_cell P9.out 2).trans (show _ = some (.slice WN W1_.length wn) from rfl)
          have hf2 := blk_frozen P9.out 2
          have P6 := Aside0.mk (blk_far (p := ⟨b9, 1, none⟩) P6.out (show b6 ≠ b9 by have := G9.out; have := G.out; omega) (.slice HQ5 H1_.length eq5))
          have P12 := Aside0.mk (blk_far (p := ⟨b9, 1, none⟩) P12.out (show b12 ≠ b9 by have := G9.out; have := G.out; have := G12.out; omega) (.slice HQ5 H1_.length eq5))
          have P9 := Aside0.mk (blk_put (cs' := #[.int .i64 s, .slice HQ5 H1_.length eq5, .slice WN W1_.length wn]) P9.out 1 (.slice HQ5 H1_.length eq5) rfl)
          have HB := Aside0.mk (below_set (g := b9) (j := 1) (v := .slice HQ5 H1_.length eq5) HB.out (by have := G9.out; have := G.out; omega))
          have RG := Aside0.mk (Rw.cell (b := b9) (j := 1) (u := .slice HQ5 H1_.length eq5) RG.out (Or.inl (by have := GL0.out; have := ZV1.out; have := G13.out; have := ZV2.out; have := GL0.out; have := HZ.out; have := ZW4.out; have := YW5.out; have := ZW6.out; have := YW7.out; have := ZW8.out; have := ZV3.out; have := YV4.out; have := ZV5.out; omega)))
          have RC := Aside0.mk (Rw.cell (b := b9) (j := 1) (u := .slice HQ5 H1_.length eq5) RC.out (Or.inl (by have := GL0.out; have := ZV1.out; have := G13.out; have := ZV2.out; have := GL0.out; have := HZ.out; have := ZW4.out; have := YW5.out; have := ZW6.out; have := YW7.out; have := ZW8.out; have := ZV3.out; have := YV4.out; have := ZV5.out; omega)))
          have RW := Aside0.mk (Rw.cell (b := b9) (j := 1) (u := .slice HQ5 H1_.length eq5) RW.out (Or.inl (by have := GL0.out; have := ZV1.out; have := G13.out; have := ZV2.out; have := GL0.out; have := HZ.out; have := ZW4.out; have := YW5.out; have := ZW6.out; have := YW7.out; have := ZW8.out; have := ZV3.out; have := YV4.out; have := ZV5.out; omega)))
          have RH := Aside0.mk (Rw.cell (b := b9) (j := 1) (u := .slice HQ5 H1_.length eq5) RH.out (Or.inl (by have := GL0.out; have := ZV1.out; have := G13.out; have := ZV2.out; have := GL0.out; have := HZ.out; have := ZW4.out; have := YW5.out; have := ZW6.out; have := YW7.out; have := ZW8.out; have := ZV3.out; have := YV4.out; have := ZV5.out; omega)))
          have YV6 := Aside0.mk (show V5.heap.size ≤ (V5.setCell ⟨b9, 1, none⟩ (.slice HQ5 H1_.length eq5)).heap.size by simp)
          have S1 : Aside0 (∀ k, (Value.slice HQ5 H1_.length eq5).ownBlock = some k → (Value.slice WN W1_.length wn).ownBlock ≠ some k ∧ (u10 : Value).ownBlock ≠ some k) := ⟨fun k hk => ⟨fun e => by have := RH.out.at_ hk; have := RW.out.at_ e; have := YV4.out; omega, fun e => by have := RH.out.at_ hk; have := RG.out.at_ e; have := ZV1.out; have := G13.out; have := ZV2.out; have := GL0.out; have := HZ.out; have := ZW4.out; have := YW5.out; have := ZW6.out; have := YW7.out; have := ZW8.out; have := ZV3.out; have := YV4.out; omega⟩⟩
          have S2 : Aside0 (∀ k, (Value.slice WN W1_.length wn).ownBlock = some k → (u10 : Value).ownBlock ≠ some k) := ⟨fun k hk e => by have := RW.out.at_ hk; have := RG.out.at_ e; have := ZV1.out; have := G13.out; have := ZV2.out; have := GL0.out; have := HZ.out; have := ZW4.out; have := YW5.out; have := ZW6.out; have := YW7.out; have := ZW8.out; omega⟩
          go_wp2_with (first | (((with_reducible refine gate_dst (N := 62) rfl ?_); refine wpList_load_row rfl 45 (.tmp 12) rfl b12 rfl 45 #[.int .i64 y.f0, .int .i64 y.f1, .bool y.f2, .bool y.f3] (0, 0) _ P12.out hu45 rfl (by kernel_rfl) ?_); generalize (V5.setCell ⟨b9, 1, none⟩ (.slice HQ5 H1_.length eq5)) = V6 at P6 P9 P12 HB RG RC RW RH YV6 ⊢) | (at_builtin; (refine Kd.R_append k45 (w0 := w) w.heap.size rfl (.tmp 61) (.tmp 63) 27 45 (.agg #[.int .i64 0, .int .i64 0, .bool false, .bool false]) 24 rfl Try.underlying27 info45 rfl (by decide) (by omega) u10 G0 y [.int .i64 y.f0, .int .i64 y.f1, .bool y.f2, .bool y.f3] (fun k => W3.heap.size ≤ k) (fun _ => False) rfl rfl ?aP (fun _ hk => hk.elim) ?aF ?aO ?aB ?aS ?aL ?_; (case aP => exact k45_mkM _ _ _ y); (case aF => exact fun k hk => (by have := ZV1.out; have := G13.out; have := ZV2.out; have := GL0.out; have := HZ.out; have := ZW4.out; have := YW5.out; have := ZW6.out; have := YW7.out; have := ZW8.out; have := ZV3.out; have := YV4.out; have := ZV5.out; have := YV6.out; omega)); (case aO => exact Kd.R_mono RG.out (fun k hk => hk.2.1)); (case aB => exact HB.out); (case aS => exact HB.out.size); (case aL => have := HI.out.2.2.2; have := HLT.out; have := HW0.out; have := HQ.out; omega); intro v1 w7 ho hb7 hg hat; have HO7 := Aside0.mk ho; have HG7 := Aside0.mk hg; have HT7 := Aside0.mk hat; have HB7 := Aside0.mk hb7; clear ho hb7 hg hat)))
          try clear hb0 hb1 hb2 hf0 hf1 hf2
          have hlo : ∀ k, (u10 : Value).ownBlock = some k → W3.heap.size ≤ k := fun k hk => (RG.out.at_ hk).1
          have P9 := Aside0.mk ((HG7.out.block b9 (blk_lt P9.out) (fun e => by have := hlo _ e.symm; have := GL0.out; omega)).trans P9.out)
          have P6 := Aside0.mk ((HG7.out.block b6 (blk_lt P6.out) (fun e => by have := hlo _ e.symm; have := GL0.out; have := G9.out; omega)).trans P6.out)
          have T1 := Aside0.mk (show ∀ k, k < V6.heap.size → (u10 : Value).ownBlock ≠ some k → (v1 : Value).ownBlock ≠ some k from fun k hk hn e => by
            rcases HT7.out with q | ⟨b_, q1, q2⟩
            · exact hn (q ▸ e)
            · rw [q1] at e; injection e with e; omega)
          have RCn := Aside0.mk (Rw.grown RC.out HG7.out S3.out)
          have RHn := Aside0.mk (Rw.grown RH.out HG7.out (fun k hk => (S1.out k hk).2))
          have RWn := Aside0.mk (Rw.grown RW.out HG7.out S2.out)
          have S1 := Aside0.mk (fun k hk => And.intro (S1.out k hk).1 (T1.out k (RH.out.lt hk) (S1.out k hk).2))
          have S2 := Aside0.mk (fun k hk => T1.out k (RW.out.lt hk) (S2.out k hk))
          have S3 := Aside0.mk (fun k hk => T1.out k (RC.out.lt hk) (S3.out k hk))
          have ZG := Aside0.mk HG7.out.size
          have RG := Aside0.mk (show Rw w.heap.size w7 W3.heap.size w7.heap.size v1 (G0 ++ [y]) from Rw.own_ HO7.out (fun k hk => ⟨hk, HO7.out.1 k hk, Kd.R_lt HO7.out k hk⟩))
          have RC := RCn
          have RH := Aside0.mk (show Rw w.heap.size w7 W3.heap.size w7.heap.size _ _ from Rw.wide RHn.out.now (by have := ZV1.out; have := G13.out; have := ZV2.out; have := GL0.out; have := HZ.out; have := ZW4.out; have := YW5.out; have := ZW6.out; have := YW7.out; have := ZW8.out; have := ZV3.out; have := YV4.out; have := ZV5.out; omega) (Nat.le_refl _))
          have RW := Aside0.mk (show Rw w.heap.size w7 W3.heap.size w7.heap.size _ _ from Rw.wide RWn.out.now (by have := ZV1.out; have := G13.out; have := ZV2.out; have := GL0.out; have := HZ.out; have := ZW4.out; have := YW5.out; have := ZW6.out; have := YW7.out; have := ZW8.out; have := ZV3.out; have := YV4.out; have := ZV5.out; omega) (Nat.le_refl _))
          have HB := HB7
          clear hlo
          rw [← HH1.out] at P9 RH S1
          rw [← HW1.out] at P9 RW S1 S2
          go_roundw
          case rel =>
            have HN' : Aside0 (((w0.take (x + 1)).foldl stepF (M1, w0, [])) = (putOf H0 y, W0.filter (fun z => !decide (z.f0 = y.f0)), G0 ++ [y])) := ⟨by rw [HN.out]; unfold stepF; rw [if_pos hm]⟩
            have hz_ := HZ.out
            exact ⟨x + 1, HQ5, eq5, WN, wn, congrArg (Value.int .i64) (by omega), ⟨HLT.out⟩, ⟨by rw [HN'.out]; exact P9.out⟩, ⟨by rw [HN'.out]; exact RH.out.now⟩, ⟨by rw [HN'.out]; exact RW.out.now⟩, ⟨by rw [HN'.out]; exact RG.out.now⟩, ⟨by rw [HN'.out]; exact S1.out⟩, ⟨by rw [HN'.out]; exact S2.out⟩, S3, RC, P6, HB, ⟨by rw [HN.out]; exact HI2.out⟩, ⟨by have := ZV1.out; have := G13.out; have := ZV2.out; have := ZV3.out; have := YV4.out; have := ZV5.out; have := YV6.out; have := ZG.out; omega⟩⟩
          case measure =>
            (try rw [hw])
            show w0.length - ((x : Int) + 1).toNat < w0.length - (x : Int).toNat
            have := HLT.out
            omega
      · obtain rfl : x = w0.length := by have := HX.out; omega
        have hdl : decide (w0.length < w0.length) = false := decide_eq_false hlt
        clear hlt
        rw [List.take_length] at P9 RH RW RG S1 S2 HI
        have hh := HH.out
        generalize List.foldl stepF (M1, w0, []) w0 = p at P9 RH RW RG S1 S2 HI hh
        obtain ⟨H0, W0, G0⟩ := p
        simp only [Prod.mk.injEq] at hh
        obtain ⟨rfl, rfl, rfl, rfl⟩ := hh
        have P9 : Aside0 (wr.heap[b9]? = some (.cells #[.int .i64 s, .slice HA H0.length hc, .slice WA W0.length wc] 29 (0, 0))) := P9
        go_wp2_with (first | ((with_reducible refine gate_dst (N := 66) rfl ?_); refine wpList_load_row rfl 29 (.tmp 9) rfl b9 rfl 29 #[.int .i64 s, .slice HA H0.length hc, .slice WA W0.length wc] (0, 0) _ P9.out hu29 rfl (by kernel_rfl) ?_) | ((with_reducible refine gate_store (t := 29) (p := 6) rfl ?_); (refine wpList_store_row rfl 29 (.tmp 6) (.tmp 66) rfl b6 #[.int .i64 s, .slice HA H0.length hc, .slice WA W0.length wc] rfl rfl 29 #[.int .i64 0, .slice none 0 0, .slice none 0 0] P6.out (by kernel_rfl) rfl (by simp [Value.oneCell']) ?_; have P6 := Aside0.mk (setRow_heap wr b6 _ #[.int .i64 s, .slice HA H0.length hc, .slice WA W0.length wc] 29 (0, 0) P6.out); have HS := Aside0.mk (below_setRow' (Below.refl b6 wr) (Nat.le_refl b6) #[.int .i64 s, .slice HA H0.length hc, .slice WA W0.length wc]); have RH := Aside0.mk (Rw.row RH.out #[.int .i64 s, .slice HA H0.length hc, .slice WA W0.length wc] (b := b6) (Or.inl (by have := G9.out; have := GL0.out; omega))); have RW := Aside0.mk (Rw.row RW.out #[.int .i64 s, .slice HA H0.length hc, .slice WA W0.length wc] (b := b6) (Or.inl (by have := G9.out; have := GL0.out; omega))); have RG := Aside0.mk (Rw.row RG.out #[.int .i64 s, .slice HA H0.length hc, .slice WA W0.length wc] (b := b6) (Or.inl (by have := G9.out; have := GL0.out; omega))); generalize wr.setRow b6 #[.int .i64 s, .slice HA H0.length hc, .slice WA W0.length wc] = Wz at P6 HS RH RW RG ⊢)))
        refine bodyPost_ret (results_ct rfl _ _ b6 29 #[.int .i64 s, .slice HA H0.length hc, .slice WA W0.length wc] (0, 0) _ rfl P6.out hu29 rfl (by kernel_rfl)) rfl ?_
        exact ⟨_, _, _, rfl, Rw.own_ RH.out (fun k hk => ⟨fun e => (S1.out k hk).1 e.symm, fun e => (S1.out k hk).2 e.symm⟩), Rw.own_ RW.out (fun k hk => ⟨fun e => (S1.out k e.symm).1 hk, fun e => S2.out k hk e.symm⟩), Rw.own_ RG.out (fun k hk => ⟨fun e => (S1.out k e.symm).2 hk, fun e => S2.out k e.symm hk⟩), HB.out.trans (HS.out.mono (by have := G.out; omega))⟩
end Go.Proofs.Ytjldpnhlegbjkaa.PA
