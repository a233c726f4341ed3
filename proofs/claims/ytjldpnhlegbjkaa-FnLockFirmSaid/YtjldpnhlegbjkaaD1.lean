/- The draw of a lock (l72Lock): a lock of one's own, its lists short; nothing else changes but the reader. -/
import Derived.Test.YtjldpnhlegbjkaaS6
import Derived.Test.YtjldpnhlegbjkaaFirmPa
import Derived.Test.YtjldpnhlegbjkaaPick
import Derived.Test.YtjldpnhlegbjkaaPAx36
import Derived.Test.YtjldpnhlegbjkaaPAx38
import Derived.Deep.Cut
namespace Go.Proofs.Ytjldpnhlegbjkaa.PA
open Go.RowKit Go.Proofs.YtjldpnhlegbjkaaW.PrintWords Go.Proofs.YtjldpnhlegbjkaaW.PrintLast Go.Proofs.YtjldpnhlegbjkaaW.PrintMore Go.Proofs.Ytjldpnhlegbjkaa.PB
attribute [local go_sem] max2_int min2_int max_two min_two max_three min_three max_four min_four
set_option linter.unusedVariables false
set_option linter.unusedSimpArgs false
theorem Rw.keepI {w0 W W' : World} {g : Nat} {b : List Int} {p : Int} {n lo hi : Nat} {v : Value} {l : List S45} (h : Rw n W lo hi v l) (hI : IsS87 w0 W g b p) (hk : KeepBut W W' g none) : Rw n W' lo hi v l :=
 Kd.R_mono (Kd.R_keep (IsS87.apart hI h (by decide)) hk (fun _ h => h.2)) (fun _ h => h.1)
theorem blk_keepI {w0 W W' : World} {g a : Nat} {b : List Int} {p : Int} {cs : Array Value} {t : TypeId} {fr : Nat × Nat} (h : W.heap[a]? = some (.cells cs t fr)) (ht : t ≠ 87) (hi : IsS87 w0 W g b p) (hk : KeepBut W W' g none) : W'.heap[a]? = some (.cells cs t fr) :=
 hk.blk h (Ne.symm (hi.ne_blk h ht)) (by simp)
theorem pickW (g : Nat) (b : List Int) (p n : Int) (w0 w : World) (hI : IsS87 w0 w g b p) (hB : Below w0.heap.size w0 w) (hb : BytesOk b) (hp0 : 0 ≤ p) (hp : p ≤ 1000000) (hn : 1 ≤ n) (hn2 : n ≤ 1000000) :
 Calls Try.prog 67 #[.pointer (some ⟨g, 0, none⟩), .int .i64 n] w fun e w' => ∃ t : Int, 0 ≤ t ∧ t < n ∧ e = .returned (.int .i64 t) ∧ IsS87 w0 w' g b (p + 1) ∧ Below w0.heap.size w0 w' ∧ KeepBut w w' g none := by
 obtain ⟨t, h0, h1, K, hk⟩ := pick_ev b p n hb hp0 hp hn hn2
 refine (spec_l6Rd_pick.calls K g b p n t (p + 1) w0 w hI hB (hk K (Nat.le_refl _))).mono ?_
 rintro e w' ⟨rfl, hi, hb, hk⟩
 exact ⟨t, h0, h1, rfl, hi, hb, hk⟩
theorem holdW (g : Nat) (b : List Int) (p : Int) (w0 w : World) (hI : IsS87 w0 w g b p) (hB : Below w0.heap.size w0 w) (hb : BytesOk b) (hp0 : 0 ≤ p) (hp : p ≤ 900000) :
 Calls Try.prog 66 #[.pointer (some ⟨g, 0, none⟩)] w fun e w' => ∃ x : S45, x.f1 ≤ 9999 ∧ e = .returned (.agg #[.int .i64 x.f0, .int .i64 x.f1, .bool x.f2, .bool x.f3]) ∧ IsS87 w0 w' g b (p + 1 + 1 + 1) ∧ Below w0.heap.size w0 w' ∧ KeepBut w w' g none := by
 obtain ⟨t1, _, _, E1⟩ := pick_ev b p 7 hb hp0 (by omega) (by omega) (by omega)
 obtain ⟨t2, u0, u1, E2⟩ := pick_ev b (p + 1) 3 hb (by omega) (by omega) (by omega) (by omega)
 obtain ⟨t3, _, _, E3⟩ := pick_ev b (p + 1 + 1) 3 hb (by omega) (by omega) (by omega) (by omega)
 have E : Ev (fun k => spec_l72Hold.f k b p) (wrap64 (1 + t1), wrap64 (1 + t2), (t3 == 0), false, p + 1 + 1 + 1) := by
  unfold spec_l72Hold.f
  exact Ev.bind E1 (Ev.bind E2 (Ev.bind E3 (Ev.ret rfl)))
 obtain ⟨K, hk⟩ := E
 refine (spec_l72Hold.calls K g b p _ _ _ _ _ w0 w hI hB (hk K (Nat.le_refl _))).mono ?_
 rintro e w' ⟨rfl, hi, hb, hk⟩
 exact ⟨⟨_, _, _, _⟩, (by show wrap64 (1 + t2) ≤ 9999; rw [wrap_in (by omega) (by omega)]; omega), rfl, hi, hb, hk⟩
theorem IsS87.row {w0 W : World} {g a : Nat} {b : List Int} {p : Int} (h : IsS87 w0 W g b p) (hne : g ≠ a) (cs : Array Value) : IsS87 w0 (W.setRow a cs) g b p := by
 obtain ⟨A, c, h1, h2, h3⟩ := h
 exact ⟨A, c, (setRow_other W a g cs hne).trans h1, h2, h3⟩
theorem keep_setRow {w W : World} {g a : Nat} (h : KeepBut w W g none) (ha : w.heap.size ≤ a) (cs : Array Value) : KeepBut w (W.setRow a cs) g none :=
 ⟨by simpa [World.setRow] using h.1, fun i hi hg hr => (setRow_other W a i cs (by omega)).trans (h.2 i hi hg hr)⟩
theorem keep_setCell {w W : World} {g a : Nat} (h : KeepBut w W g none) (ha : w.heap.size ≤ a) (j : Nat) (u : Value) : KeepBut w (W.setCell ⟨a, j, none⟩ u) g none :=
 ⟨by simpa using h.1, fun i hi hg hr => (heap_setCell_other W ⟨a, j, none⟩ i u (show i ≠ a by omega)).trans (h.2 i hi hg hr)⟩
theorem ki {w0 W W' : World} {g : Nat} {b : List Int} {p : Int} (h : Aside0 (IsS87 w0 W g b p)) (hb : Below W.heap.size W W') : Aside0 (IsS87 w0 W' g b p) := ⟨IsS87.below h.out hb⟩
theorem kk_ {w W W' : World} {g : Nat} (h : Aside0 (KeepBut w W g none)) (hb : Below W.heap.size W W') : Aside0 (KeepBut w W' g none) := ⟨KeepBut.trans h.out (KeepBut.of_below hb g none) (.inl rfl)⟩
theorem kbI {w0 W W' : World} {g a : Nat} {b : List Int} {p : Int} {cs : Array Value} {t : TypeId} {fr : Nat × Nat} (h : Aside0 (W.heap[a]? = some (.cells cs t fr))) (hi : Aside0 (IsS87 w0 W g b p)) (hk : KeepBut W W' g none) (ht : t ≠ 87 := by decide) : Aside0 (W'.heap[a]? = some (.cells cs t fr)) := ⟨blk_keepI h.out ht hi.out hk⟩
theorem kwI {w0 W W' : World} {g : Nat} {b : List Int} {p : Int} {n lo hi : Nat} {v : Value} {l : List S45} (h : Aside0 (Rw n W lo hi v l)) (hI : Aside0 (IsS87 w0 W g b p)) (hk : KeepBut W W' g none) : Aside0 (Rw n W' lo hi v l) := ⟨Rw.keepI h.out hI.out hk⟩
theorem kkI {w W W' : World} {g : Nat} (h : Aside0 (KeepBut w W g none)) (hk : KeepBut W W' g none) : Aside0 (KeepBut w W' g none) := ⟨KeepBut.trans h.out hk (.inl rfl)⟩
theorem kid {w0 W : World} {g : Nat} {b : List Int} {p : Int} (h : Aside0 (IsS87 w0 W g b p)) : Aside0 (IsS87 w0 W.drew g b p) := ⟨IsS87.drew h.out⟩
theorem kkd {w W : World} {g : Nat} (h : Aside0 (KeepBut w W g none)) : Aside0 (KeepBut w W.drew g none) := ⟨h.out⟩
theorem kis {w0 W W' : World} {g a : Nat} {b : List Int} {p : Int} {cs : Array Value} (h : Aside0 (IsS87 w0 W g b p)) (e : W' = W.setRow a cs) (hn : g ≠ a) : Aside0 (IsS87 w0 W' g b p) := ⟨by subst e; exact IsS87.row h.out hn cs⟩
theorem kks {w W W' : World} {g a : Nat} {cs : Array Value} (h : Aside0 (KeepBut w W g none)) (e : W' = W.setRow a cs) (hn : w.heap.size ≤ a) : Aside0 (KeepBut w W' g none) := ⟨by subst e; exact keep_setRow h.out hn cs⟩
def Els (w : World) (ad : Addr) (l : List S45) : Prop := ∀ i : Int, 0 ≤ i → i < (l.length : Int) → w.cell? (ad.add (i.toNat * 4)) = some (.int .i64 (rd_T45 l i).f0) ∧ w.cell? ⟨(ad.add (i.toNat * 4)).block, (ad.add (i.toNat * 4)).off + 1, none⟩ = some (.int .i64 (rd_T45 l i).f1) ∧ w.cell? ⟨(ad.add (i.toNat * 4)).block, (ad.add (i.toNat * 4)).off + 2, none⟩ = some (.bool (rd_T45 l i).f2) ∧ w.cell? ⟨(ad.add (i.toNat * 4)).block, (ad.add (i.toNat * 4)).off + 3, none⟩ = some (.bool (rd_T45 l i).f3)
theorem els_of {w : World} {ad : Addr} {l : List S45} {n : Nat} (h : Kd.C k45 w (some ad) n l) (hn : n = l.length) : Els w ad l := fun i h0 h1 => by
 obtain ⟨ad', e, q⟩ := at_T45 h i h0 (by omega)
 obtain rfl := Option.some.inj e
 exact q
def LockPost (w0 w : World) (g : Nat) (b : List Int) (e : Ending) (w' : World) : Prop := ∃ (s : Int) (l1 l2 : List S45) (v1 v2 : Value) (q : Int), e = .returned (.agg #[.int .i64 s, v1, v2]) ∧ Kd.R k45 45 w' w.heap.size (fun k => some k ≠ v2.ownBlock) v1 l1 ∧ Kd.R k45 45 w' w.heap.size (fun k => some k ≠ v1.ownBlock) v2 l2 ∧ (l1.length ≤ 64 ∧ l2.length ≤ 64) ∧ IsS87 w0 w' g b q ∧ (0 ≤ q ∧ q ≤ 5000) ∧ Below w0.heap.size w0 w' ∧ KeepBut w w' g none
set_option maxHeartbeats 8000000 in
set_option maxRecDepth 100000 in
theorem drawLock_calls (g : Nat) (b : List Int) (q : Int) (w0 w : World) (hI : IsS87 w0 w g b q) (hB : Below w0.heap.size w0 w) (hb : BytesOk b) (hq : 0 ≤ q ∧ q ≤ 1000) :
 Calls Try.prog 65 #[.pointer (some ⟨g, 0, none⟩)] w (LockPost w0 w g b) := by
 have hu29 := Try.underlying29
 have hu45 := Try.underlying45
 have HBY := Aside0.mk hb
 have HQ := Aside0.mk hq
 have GW := Aside0.mk hI.lt
 have LE := Aside0.mk hB.size
 have I := Aside0.mk (IsS87.alloc hI (.cells #[.int .i64 0, .slice none 0 0, .slice none 0 0] 29 (0, 0)))
 have HB := Aside0.mk (below_alloc hB (.cells #[.int .i64 0, .slice none 0 0, .slice none 0 0] 29 (0, 0)))
 have HK := Aside0.mk (KeepBut.of_below (below_alloc (Below.refl w.heap.size w) (.cells #[.int .i64 0, .slice none 0 0, .slice none 0 0] 29 (0, 0))) g none)
 have P2 := Aside0.mk (blk_new w (.cells #[.int .i64 0, .slice none 0 0, .slice none 0 0] 29 (0, 0)))
 have Z1 := Aside0.mk (blk_lt P2.out)
 have ZZ := Aside0.mk (And.intro Z1.out (And.intro GW.out LE.out))
 clear hI hB hb hq
 go_enter Try.func65, Try.ntmps65
 go_wp2_with (fail)
 generalize w.alloc (.cells #[.int .i64 0, .slice none 0 0, .slice none 0 0] 29 (0, 0)) = W1 at P2 HB I HK ZZ ⊢
 refine (pickW g b _ 8 w0 W1 I.out HB.out HBY.out (by have := HQ.out; omega) (by have := HQ.out; omega) (by omega) (by omega)).mono ?_
 rintro e W2 ⟨ts, ht0_, ht1_, rfl, hi, hb, hk⟩
 have Tts := Aside0.mk (And.intro ht0_ ht1_)
 clear ht0_ ht1_
 have ZZ := Aside0.mk (And.intro ZZ.out (hk.1))
 have P2 := kbI P2 I hk
 have HK := kkI HK hk
 have HB := Aside0.mk hb
 have I := Aside0.mk hi
 clear hi hb hk
 have hb := below_alloc (Below.refl W2.heap.size W2) (.cells #[.int .i64 ts, .slice none 0 0, .slice none 0 0] 29 (0, 0))
 have ZZ := Aside0.mk (And.intro ZZ.out ((hb).size))
 have P2 := kb P2 (hb)
 have HB := kh HB (hb)
 have I := ki I (hb)
 have HK := kk_ HK (hb)
 clear hb
 have P3 := Aside0.mk (blk_new W2 (.cells #[.int .i64 ts, .slice none 0 0, .slice none 0 0] 29 (0, 0)))
 have ZZ := Aside0.mk (And.intro ZZ.out (blk_lt P3.out))
 go_wp2_with (fail)
 generalize W2.alloc (.cells #[.int .i64 ts, .slice none 0 0, .slice none 0 0] 29 (0, 0)) = W3 at ZZ P2 P3 HB I HK ⊢
 obtain ⟨b3, hq_⟩ : ∃ b3, b3 = W2.heap.size := ⟨_, rfl⟩
 rw [← hq_] at P3 ZZ ⊢
 have ZZ := Aside0.mk (And.intro ZZ.out (hq_))
 clear hq_
 refine (pickW g b _ 8 w0 W3 I.out HB.out HBY.out (by have := HQ.out; omega) (by have := HQ.out; omega) (by omega) (by omega)).mono ?_
 rintro e W4 ⟨tn, ht0_, ht1_, rfl, hi, hb, hk⟩
 have Ttn := Aside0.mk (And.intro ht0_ ht1_)
 clear ht0_ ht1_
 have ZZ := Aside0.mk (And.intro ZZ.out (hk.1))
 have P2 := kbI P2 I hk
 have P3 := kbI P3 I hk
 have HK := kkI HK hk
 have HB := Aside0.mk hb
 have I := Aside0.mk hi
 clear hi hb hk
 go_wp2_with (fail)
 have ZB : Aside0 (w.heap.size < b3 ∧ b3 < W4.heap.size ∧ g < w.heap.size ∧ w0.heap.size ≤ w.heap.size) := ⟨by have := ZZ.out; omega, by have := ZZ.out; omega, by have := ZZ.out; omega, LE.out⟩
 go_loopw [4] (fun i wr => ∃ (m q' s : Int) (l1 l2 : List S45) (A1 : Option Addr) (c1 : Nat) (A2 : Option Addr) (c2 : Nat), i = .int .i64 m ∧ Aside0 (0 ≤ m ∧ m ≤ 7) ∧ Aside0 (0 ≤ q' ∧ q' ≤ 2000 - 10 * m) ∧ Aside0 (wr.heap[b3]? = some (.cells #[.int .i64 s, .slice A1 l1.length c1, .slice A2 l2.length c2] 29 (0, 0))) ∧ Aside0 (Rw w.heap.size wr (b3 + 1) wr.heap.size (.slice A1 l1.length c1) l1) ∧ Aside0 (Rw w.heap.size wr (b3 + 1) wr.heap.size (.slice A2 l2.length c2) l2) ∧ Aside0 (∀ k, (.slice A1 l1.length c1 : Value).ownBlock = some k → (.slice A2 l2.length c2 : Value).ownBlock ≠ some k) ∧ Aside0 (l1.length ≤ 40 ∧ l2.length ≤ 40) ∧ Aside0 (IsS87 w0 wr g b q') ∧ Aside0 (Below w0.heap.size w0 wr) ∧ Aside0 (KeepBut w wr g none) ∧ Aside0 (wr.heap[w.heap.size]? = some (.cells #[.int .i64 0, .slice none 0 0, .slice none 0 0] 29 (0, 0)))) (fun i _ => (intOf i).toNat)
 case atStart => exact ⟨tn, _, ts, [], [], none, 0, none, 0, rfl, ⟨by have := Ttn.out; omega⟩, ⟨by have := Ttn.out; have := HQ.out; omega⟩, P3, ⟨Rw.nil _ _ _ _⟩, ⟨Rw.nil _ _ _ _⟩, ⟨fun k hk => by simp [Value.ownBlock] at hk⟩, ⟨by simp⟩, I, HB, HK, P2⟩
 case round =>
  repeat clear P2
  repeat clear P3
  repeat clear I
  repeat clear HB
  repeat clear HK
  repeat clear HQ
  obtain ⟨m, q, s, l1, l2, A1, c1, A2, c2, rfl, HM, HQ0, P3, R1, R2, SEP, HL, I, HB, HK, P2⟩ := hrel
  have HQ : Aside0 (0 ≤ q ∧ q ≤ 2000) := ⟨by have := HQ0.out; have := HM.out; omega⟩
  have ZZ := Aside0.mk (And.intro ZB.out (blk_lt P3.out))
  by_cases hlt : 0 < m
  ·have hdl : decide (0 < m) = true := decide_eq_true hlt
   have HLT := Aside0.mk hlt
   clear hlt
   have hw : wrap64 (m - 1) = m - 1 := by unfold wrap64; have := HM.out; omega
   go_wp2_with (fail)
   clear hdl
   refine (pickW g b _ 5 w0 wr I.out HB.out HBY.out (by have := HQ.out; omega) (by have := HQ.out; omega) (by omega) (by omega)).mono ?_
   rintro e W5 ⟨t, ht0_, ht1_, rfl, hi, hb, hk⟩
   have Tt := Aside0.mk (And.intro ht0_ ht1_)
   clear ht0_ ht1_
   have ZZ := Aside0.mk (And.intro ZZ.out (hk.1))
   have P2 := kbI P2 I hk
   have P3 := kbI P3 I hk
   have R1 := kwI R1 I hk
   have R2 := kwI R2 I hk
   have HK := kkI HK hk
   have HB := Aside0.mk hb
   have I := Aside0.mk hi
   clear hi hb hk
   by_cases c0 : t = 0
   ·have c0a : (t == 0) = true := beq_iff_eq.mpr c0
    clear c0
    by_cases hl : 0 < l1.length
    ·have HLP := Aside0.mk hl
     have hl_ : decide (0 < l1.length) = true := decide_eq_true hl
     clear hl
     obtain ⟨ad, hA, _⟩ := at_T45 (R1.out.reads).2.2 0 (by omega) (by have := HLP.out; omega)
     subst hA
     have hb1 := (blk_cell P3.out 1).trans (show _ = some (.slice (some ad) l1.length c1) from rfl)
     go_wp2_with (fail)
     clear hl_
     have P2 := kbd P2
     have P3 := kbd P3
     have R1 := kwd R1
     have R2 := kwd R2
     have HB := khd HB
     have I := kid I
     have HK := kkd HK
     have ZZ := Aside0.mk (And.intro ZZ.out (show W5.heap.size ≤ (W5.drew).heap.size from Nat.le_refl _))
     have HSS := (show (W5.drew).cell? ⟨b3, 1, none⟩ = some (.slice (some ad) l1.length c1) ∧ Els (W5.drew) ad l1 from ⟨(blk_cell P3.out 1).trans rfl, els_of (R1.out.reads).2.2 rfl⟩)
     refine start_ (n := 11) (S := fun w' => w'.cell? ⟨b3, 1, none⟩ = some (.slice (some ad) l1.length c1) ∧ Els w' ad l1) (ds := []) (bt_ 11 0) (by kernel_rfl) rfl rfl HSS (fun hHeld => ?_)
     clear HSS hb1
     generalize W5.drew = W6 at P2 P3 R1 R2 HB I HK ZZ hHeld ⊢
     refine pu_ 0 (some 32) (bt_ 11 1) (by kernel_rfl) ?_
     refine tk_ 1 (some 33) (bt_ 11 3) (by kernel_rfl) hHeld ?_
     refine pu_ 2 (some 34) (bt_ 11 7) (by kernel_rfl) ?_
     refine pu_ 3 (some 35) (bt_ 11 15) (by kernel_rfl) ?_
     refine tk_ 4 (some 36) (bt_ 11 31) (by kernel_rfl) hHeld ?_
     refine pu_ 5 (some 37) (bt_ 11 63) (by kernel_rfl) ?_
     clear hHeld
     refine two_ (i := 6) (j := 9) (Ni := some 38) (Nj := some 5) (bt_ 11 127) (bt_ 11 575) rfl rfl rfl rfl (by kernel_rfl) (by decide) (by decide) (fun K hK => ?_) (fun K hK => ?_)
     ·refine goes_ Try.func67 (by kernel_rfl) rfl #[.pointer (some ⟨g, 0, none⟩), .int .i64 (l1.length : Int)] (by rfl) rfl rfl (by simp only [List.map_toArray, List.map_cons, List.map_nil]; rfl) ?_
      refine (pickW g b _ (l1.length : Int) w0 W6 I.out HB.out HBY.out (by have := HQ.out; omega) (by have := HQ.out; omega) (by have := HLP.out; omega) (by have := HL.out; omega)).mono ?_
      rintro e W7 ⟨ti, ht0_, ht1_, rfl, hi, hb, hk⟩
      refine ⟨_, rfl, ?_⟩
      have Tti := Aside0.mk (And.intro ht0_ ht1_)
      clear ht0_ ht1_
      have ZZ := Aside0.mk (And.intro ZZ.out (hk.1))
      have P2 := kbI P2 I hk
      have P3 := kbI P3 I hk
      have R1 := kwI R1 I hk
      have R2 := kwI R2 I hk
      have HK := kkI HK hk
      have HB := Aside0.mk hb
      have I := Aside0.mk hi
      clear hi hb hk
      refine hK.out _ _ ⟨(blk_cell P3.out 1).trans rfl, els_of (R1.out.reads).2.2 rfl⟩ (fun hHeld => ?_)
      clear hK K
      refine norm_ (a' := ?_) ?_ ?_
      rotate_left
      ·show Act.put _ (some 38) _ = _
       simp only [Act.put, List.setIfInBounds_toArray, List.set_cons_zero, List.set_cons_succ, i64_w, i32_w]
       rfl
      have pi_ : (0 ≤ ti) = True := eq_true Tti.out.1
      have qi_ : (ti < (l1.length : Int)) = True := eq_true Tti.out.2
      refine pu_ 7 (some 39) (bt_ 11 255) (by kernel_rfl) ?_
      clear pi_ qi_
      refine tk_ 8 (some 40) (bt_ 11 511) (by kernel_rfl) hHeld ?_ (hr := by (intro w' h_; obtain ⟨y0, y1, y2, y3⟩ := h_.2 ti Tti.out.1 Tti.out.2; go_simp; with_reducible rfl))
      clear hHeld
      refine one_ (i := 9) (N := some 5) (bt_ 11 1023) rfl rfl (by kernel_rfl) (by decide) (fun K hK => ?_)
      refine event_step (v := .pointer (some ⟨W7.heap.size, 0, none⟩)) (w1 := W7.alloc (.cells #[.int .i64 0, .int .i64 0, .bool false, .bool false] 45 (0, 0))) rfl (by first | (go_simp; done) | (go_simp; rfl)) ?_
      have hb := below_alloc (Below.refl W7.heap.size W7) (.cells #[.int .i64 0, .int .i64 0, .bool false, .bool false] 45 (0, 0))
      have ZZ := Aside0.mk (And.intro ZZ.out ((hb).size))
      have P2 := kb P2 (hb)
      have P3 := kb P3 (hb)
      have R1 := kw R1 (hb)
      have R2 := kw R2 (hb)
      have HB := kh HB (hb)
      have I := ki I (hb)
      have HK := kk_ HK (hb)
      clear hb
      have P5 := Aside0.mk (blk_new W7 (.cells #[.int .i64 0, .int .i64 0, .bool false, .bool false] 45 (0, 0)))
      have ZZ := Aside0.mk (And.intro ZZ.out (blk_lt P5.out))
      generalize W7.alloc (.cells #[.int .i64 0, .int .i64 0, .bool false, .bool false] 45 (0, 0)) = W8 at ZZ P2 P3 P5 R1 R2 HB I HK ⊢
      obtain ⟨b5, hq_⟩ : ∃ b5, b5 = W7.heap.size := ⟨_, rfl⟩
      rw [← hq_] at P5 ZZ ⊢
      have ZZ := Aside0.mk (And.intro ZZ.out (hq_))
      clear hq_
      refine hK.out _ _ ⟨(blk_cell P3.out 1).trans rfl, els_of (R1.out.reads).2.2 rfl⟩ (fun hHeld => ?_)
      clear hK K
      refine norm_ (a' := ?_) ?_ ?_
      rotate_left
      ·show Act.put _ (some 5) _ = _
       simp only [Act.put, List.setIfInBounds_toArray, List.set_cons_zero, List.set_cons_succ, i64_w, i32_w]
       rfl
      clear hHeld
      refine one_ (i := 10) (N := none) (bt_ 11 2047) rfl rfl (by kernel_rfl) (by decide) (fun K hK => ?_)
      refine st_ rfl 45 (.tmp 5) (.tmp 40) rfl b5 #[.int .i64 (rd_T45 l1 ti).f0, .int .i64 (rd_T45 l1 ti).f1, .bool (rd_T45 l1 ti).f2, .bool (rd_T45 l1 ti).f3] rfl rfl 45 #[.int .i64 0, .int .i64 0, .bool false, .bool false] P5.out (by kernel_rfl) rfl (by simp [Value.oneCell']) ?_
      have NE_ : g ≠ b5 := (by have := ZZ.out; omega)
      obtain ⟨W9, e_⟩ : ∃ X, X = W8.setRow b5 #[.int .i64 (rd_T45 l1 ti).f0, .int .i64 (rd_T45 l1 ti).f1, .bool (rd_T45 l1 ti).f2, .bool (rd_T45 l1 ti).f3] := ⟨_, rfl⟩
      rw [← e_]
      have P2 := kbs P2 e_ (by have := ZZ.out; omega)
      have P3 := kbs P3 e_ (by have := ZZ.out; omega)
      have R1 := kws R1 e_ (by have := ZZ.out; omega)
      have R2 := kws R2 e_ (by have := ZZ.out; omega)
      have P5 := kps P5 e_
      have HB := khs HB e_ (by have := ZZ.out; omega)
      have I := kis I e_ NE_
      clear NE_
      have HK := kks HK e_ (by have := ZZ.out; omega)
      have ZZ := Aside0.mk (And.intro ZZ.out (kzs e_))
      clear e_
      refine hK.out _ _ ⟨(blk_cell P3.out 1).trans rfl, els_of (R1.out.reads).2.2 rfl⟩ (fun hHeld => ?_)
      clear hK K
      refine norm_ (a' := ?_) ?_ ?_
      rotate_left
      ·show Act.put _ none _ = _
       simp only [Act.put, List.setIfInBounds_toArray, List.set_cons_zero, List.set_cons_succ, i64_w, i32_w]
       rfl
      clear hHeld
      refine done_ (by kernel_rfl) ?_
      have hy0 := (blk_cell P5.out 0).trans (show _ = some (.int .i64 (rd_T45 l1 ti).f0) from rfl)
      have hy1 := (blk_cell P5.out 1).trans (show _ = some (.int .i64 (rd_T45 l1 ti).f1) from rfl)
      have hy2 := (blk_cell P5.out 2).trans (show _ = some (.bool (rd_T45 l1 ti).f2) from rfl)
      have hy3 := (blk_cell P5.out 3).trans (show _ = some (.bool (rd_T45 l1 ti).f3) from rfl)
      go_wp2_with (((with_reducible refine gate_dst (N := 42) rfl ?_); refine wpList_load_row rfl 29 (.tmp 3) rfl b3 rfl 29 #[.int .i64 s, .slice (some ad) l1.length c1, .slice A2 l2.length c2] (0, 0) _ P3.out hu29 rfl (by kernel_rfl) ?_))
      clear hy0 hy1 hy2 hy3
      obtain ⟨K1, k1⟩ := spec_firm_ev s l1 l2 (rd_T45 l1 ti).f0 (rd_T45 l1 ti).f1 (by have := HL.out; omega) (by have := HL.out; omega)
      have kk := k1 K1 (Nat.le_refl _)
      have hln := firm_len s l1 l2 (rd_T45 l1 ti).f0 (rd_T45 l1 ti).f1
      clear k1
      generalize firmOf s l1 l2 (rd_T45 l1 ti).f0 (rd_T45 l1 ti).f1 = FR at kk hln
      obtain ⟨r1, r2, r3, r4⟩ := FR
      simp only at hln
      have HLN := Aside0.mk hln
      clear hln
      refine (spec_LockFirm.calls K1 s (some ad) c1 l1 A2 c2 l2 (rd_T45 l1 ti).f0 (rd_T45 l1 ti).f1 r1 r2 r3 r4 W9 (R1.out.reads).2.2 (R1.out.reads).2.1 (R2.out.reads).2.2 (R2.out.reads).2.1 kk).mono ?_
      clear kk
      rintro e W10 ⟨v1, v2, rfl, q1, q2, hb⟩
      obtain ⟨D1, d1, e0⟩ := Kd.R_slice q1
      subst e0
      obtain ⟨D2, d2, e0⟩ := Kd.R_slice q2
      subst e0
      have SD := Aside0.mk (show ∀ k, (Value.slice D1 r2.length d1).ownBlock = some k → (Value.slice D2 r3.length d2).ownBlock ≠ some k from fun k hk e => (q1.1 k hk) e.symm)
      have q1 := Rw.of q1 (by show w.heap.size ≤ W9.heap.size; have := ZZ.out; omega)
      have q2 := Rw.of q2 (by show w.heap.size ≤ W9.heap.size; have := ZZ.out; omega)
      have ZZ := Aside0.mk (And.intro ZZ.out ((hb).size))
      have P2 := kb P2 (hb)
      have P3 := kb P3 (hb)
      have P5 := kb P5 (hb)
      have R1 := kw R1 (hb)
      have R2 := kw R2 (hb)
      have HB := kh HB (hb)
      have I := ki I (hb)
      have HK := kk_ HK (hb)
      clear hb
      have Q1 := Aside0.mk q1
      have Q2 := Aside0.mk q2
      clear q1 q2
      go_wp2_with (((with_reducible refine gate_store (t := 29) (p := 3) rfl ?_); refine wpList_store_row rfl 29 (.tmp 3) (.tmp 48) rfl b3 #[.int .i64 r1, .slice D1 r2.length d1, .slice D2 r3.length d2] rfl rfl 29 #[.int .i64 s, .slice (some ad) l1.length c1, .slice A2 l2.length c2] P3.out (by kernel_rfl) rfl (by simp [Value.oneCell']) ?_; refine Aside0.out ?_))
      have NE_ : g ≠ b3 := (by have := ZZ.out; omega)
      obtain ⟨W11, e_⟩ : ∃ X, X = W10.setRow b3 #[.int .i64 r1, .slice D1 r2.length d1, .slice D2 r3.length d2] := ⟨_, rfl⟩
      rw [← e_]
      have P2 := kbs P2 e_ (by have := ZZ.out; omega)
      have P5 := kbs P5 e_ (by have := ZZ.out; omega)
      have R1 := kws R1 e_ (by have := ZZ.out; omega)
      have R2 := kws R2 e_ (by have := ZZ.out; omega)
      have Q1 := kws Q1 e_ (by have := ZZ.out; omega)
      have Q2 := kws Q2 e_ (by have := ZZ.out; omega)
      have P3 := kps P3 e_
      have HB := khs HB e_ (by have := ZZ.out; omega)
      have I := kis I e_ NE_
      clear NE_
      have HK := kks HK e_ (by have := ZZ.out; omega)
      have ZZ := Aside0.mk (And.intro ZZ.out (kzs e_))
      clear e_
      refine Aside0.mk ?_
      try (go_wp2_with (fail))
      go_roundw
      case rel =>
       exact ⟨m - 1, _, r1, r2, r3, D1, d1, D2, d2, (by first | rfl | (rw [hw])), ⟨by have := HM.out; have := HLT.out; omega⟩, ⟨by have := HQ0.out; have := HM.out; omega⟩, P3, ⟨Rw.wide (Rw.now Q1.out) (by have := ZZ.out; omega) (Nat.le_refl _)⟩, ⟨Rw.wide (Rw.now Q2.out) (by have := ZZ.out; omega) (Nat.le_refl _)⟩, SD, ⟨by have := HLN.out; omega⟩, I, HB, HK, P2⟩
      case measure =>
       (try rw [hw])
       show (m - 1).toNat < m.toNat
       have := HLT.out
       omega
     ·refine event_step (v := .pointer (some ⟨W6.heap.size, 0, none⟩)) (w1 := W6.alloc (.cells #[.int .i64 0, .int .i64 0, .bool false, .bool false] 45 (0, 0))) rfl (by first | (go_simp; done) | (go_simp; rfl)) ?_
      have hb := below_alloc (Below.refl W6.heap.size W6) (.cells #[.int .i64 0, .int .i64 0, .bool false, .bool false] 45 (0, 0))
      have ZZ := Aside0.mk (And.intro ZZ.out ((hb).size))
      have P2 := kb P2 (hb)
      have P3 := kb P3 (hb)
      have R1 := kw R1 (hb)
      have R2 := kw R2 (hb)
      have HB := kh HB (hb)
      have I := ki I (hb)
      have HK := kk_ HK (hb)
      clear hb
      have P5 := Aside0.mk (blk_new W6 (.cells #[.int .i64 0, .int .i64 0, .bool false, .bool false] 45 (0, 0)))
      have ZZ := Aside0.mk (And.intro ZZ.out (blk_lt P5.out))
      generalize W6.alloc (.cells #[.int .i64 0, .int .i64 0, .bool false, .bool false] 45 (0, 0)) = W12 at ZZ P2 P3 P5 R1 R2 HB I HK ⊢
      obtain ⟨b5, hq_⟩ : ∃ b5, b5 = W6.heap.size := ⟨_, rfl⟩
      rw [← hq_] at P5 ZZ ⊢
      have ZZ := Aside0.mk (And.intro ZZ.out (hq_))
      clear hq_
      refine hK.out _ _ ⟨(blk_cell P3.out 1).trans rfl, els_of (R1.out.reads).2.2 rfl⟩ (fun hHeld => ?_)
      clear hK K
      refine norm_ (a' := ?_) ?_ ?_
      rotate_left
      ·show Act.put _ (some 5) _ = _
       simp only [Act.put, List.setIfInBounds_toArray, List.set_cons_zero, List.set_cons_succ, i64_w, i32_w]
       rfl
      clear hHeld
      refine one_ (i := 6) (N := some 38) (bt_ 11 639) rfl rfl (by kernel_rfl) (by decide) (fun K hK => ?_)
      refine goes_ Try.func67 (by kernel_rfl) rfl #[.pointer (some ⟨g, 0, none⟩), .int .i64 (l1.length : Int)] (by rfl) rfl rfl (by simp only [List.map_toArray, List.map_cons, List.map_nil]; rfl) ?_
      refine (pickW g b _ (l1.length : Int) w0 W12 I.out HB.out HBY.out (by have := HQ.out; omega) (by have := HQ.out; omega) (by have := HLP.out; omega) (by have := HL.out; omega)).mono ?_
      rintro e W13 ⟨ti, ht0_, ht1_, rfl, hi, hb, hk⟩
      refine ⟨_, rfl, ?_⟩
      have Tti := Aside0.mk (And.intro ht0_ ht1_)
      clear ht0_ ht1_
      have ZZ := Aside0.mk (And.intro ZZ.out (hk.1))
      have P2 := kbI P2 I hk
      have P3 := kbI P3 I hk
      have P5 := kbI P5 I hk
      have R1 := kwI R1 I hk
      have R2 := kwI R2 I hk
      have HK := kkI HK hk
      have HB := Aside0.mk hb
      have I := Aside0.mk hi
      clear hi hb hk
      refine hK.out _ _ ⟨(blk_cell P3.out 1).trans rfl, els_of (R1.out.reads).2.2 rfl⟩ (fun hHeld => ?_)
      clear hK K
      refine norm_ (a' := ?_) ?_ ?_
      rotate_left
      ·show Act.put _ (some 38) _ = _
       simp only [Act.put, List.setIfInBounds_toArray, List.set_cons_zero, List.set_cons_succ, i64_w, i32_w]
       rfl
      have pi_ : (0 ≤ ti) = True := eq_true Tti.out.1
      have qi_ : (ti < (l1.length : Int)) = True := eq_true Tti.out.2
      refine pu_ 7 (some 39) (bt_ 11 767) (by kernel_rfl) ?_
      clear pi_ qi_
      refine tk_ 8 (some 40) (bt_ 11 1023) (by kernel_rfl) hHeld ?_ (hr := by (intro w' h_; obtain ⟨y0, y1, y2, y3⟩ := h_.2 ti Tti.out.1 Tti.out.2; go_simp; with_reducible rfl))
      clear hHeld
      refine one_ (i := 10) (N := none) (bt_ 11 2047) rfl rfl (by kernel_rfl) (by decide) (fun K hK => ?_)
      refine st_ rfl 45 (.tmp 5) (.tmp 40) rfl b5 #[.int .i64 (rd_T45 l1 ti).f0, .int .i64 (rd_T45 l1 ti).f1, .bool (rd_T45 l1 ti).f2, .bool (rd_T45 l1 ti).f3] rfl rfl 45 #[.int .i64 0, .int .i64 0, .bool false, .bool false] P5.out (by kernel_rfl) rfl (by simp [Value.oneCell']) ?_
      have NE_ : g ≠ b5 := (by have := ZZ.out; omega)
      obtain ⟨W14, e_⟩ : ∃ X, X = W13.setRow b5 #[.int .i64 (rd_T45 l1 ti).f0, .int .i64 (rd_T45 l1 ti).f1, .bool (rd_T45 l1 ti).f2, .bool (rd_T45 l1 ti).f3] := ⟨_, rfl⟩
      rw [← e_]
      have P2 := kbs P2 e_ (by have := ZZ.out; omega)
      have P3 := kbs P3 e_ (by have := ZZ.out; omega)
      have R1 := kws R1 e_ (by have := ZZ.out; omega)
      have R2 := kws R2 e_ (by have := ZZ.out; omega)
      have P5 := kps P5 e_
      have HB := khs HB e_ (by have := ZZ.out; omega)
      have I := kis I e_ NE_
      clear NE_
      have HK := kks HK e_ (by have := ZZ.out; omega)
      have ZZ := Aside0.mk (And.intro ZZ.out (kzs e_))
      clear e_
      refine hK.out _ _ ⟨(blk_cell P3.out 1).trans rfl, els_of (R1.out.reads).2.2 rfl⟩ (fun hHeld => ?_)
      clear hK K
      refine norm_ (a' := ?_) ?_ ?_
      rotate_left
      ·show Act.put _ none _ = _
       simp only [Act.put, List.setIfInBounds_toArray, List.set_cons_zero, List.set_cons_succ, i64_w, i32_w]
       rfl
      clear hHeld
      refine done_ (by kernel_rfl) ?_
      have hy0 := (blk_cell P5.out 0).trans (show _ = some (.int .i64 (rd_T45 l1 ti).f0) from rfl)
      have hy1 := (blk_cell P5.out 1).trans (show _ = some (.int .i64 (rd_T45 l1 ti).f1) from rfl)
      have hy2 := (blk_cell P5.out 2).trans (show _ = some (.bool (rd_T45 l1 ti).f2) from rfl)
      have hy3 := (blk_cell P5.out 3).trans (show _ = some (.bool (rd_T45 l1 ti).f3) from rfl)
      go_wp2_with (((with_reducible refine gate_dst (N := 42) rfl ?_); refine wpList_load_row rfl 29 (.tmp 3) rfl b3 rfl 29 #[.int .i64 s, .slice (some ad) l1.length c1, .slice A2 l2.length c2] (0, 0) _ P3.out hu29 rfl (by kernel_rfl) ?_))
      clear hy0 hy1 hy2 hy3
      obtain ⟨K1, k1⟩ := spec_firm_ev s l1 l2 (rd_T45 l1 ti).f0 (rd_T45 l1 ti).f1 (by have := HL.out; omega) (by have := HL.out; omega)
      have kk := k1 K1 (Nat.le_refl _)
      have hln := firm_len s l1 l2 (rd_T45 l1 ti).f0 (rd_T45 l1 ti).f1
      clear k1
      generalize firmOf s l1 l2 (rd_T45 l1 ti).f0 (rd_T45 l1 ti).f1 = FR at kk hln
      obtain ⟨r1, r2, r3, r4⟩ := FR
      simp only at hln
      have HLN := Aside0.mk hln
      clear hln
      refine (spec_LockFirm.calls K1 s (some ad) c1 l1 A2 c2 l2 (rd_T45 l1 ti).f0 (rd_T45 l1 ti).f1 r1 r2 r3 r4 W14 (R1.out.reads).2.2 (R1.out.reads).2.1 (R2.out.reads).2.2 (R2.out.reads).2.1 kk).mono ?_
      clear kk
      rintro e W15 ⟨v1, v2, rfl, q1, q2, hb⟩
      obtain ⟨D1, d1, e0⟩ := Kd.R_slice q1
      subst e0
      obtain ⟨D2, d2, e0⟩ := Kd.R_slice q2
      subst e0
      have SD := Aside0.mk (show ∀ k, (Value.slice D1 r2.length d1).ownBlock = some k → (Value.slice D2 r3.length d2).ownBlock ≠ some k from fun k hk e => (q1.1 k hk) e.symm)
      have q1 := Rw.of q1 (by show w.heap.size ≤ W14.heap.size; have := ZZ.out; omega)
      have q2 := Rw.of q2 (by show w.heap.size ≤ W14.heap.size; have := ZZ.out; omega)
      have ZZ := Aside0.mk (And.intro ZZ.out ((hb).size))
      have P2 := kb P2 (hb)
      have P3 := kb P3 (hb)
      have P5 := kb P5 (hb)
      have R1 := kw R1 (hb)
      have R2 := kw R2 (hb)
      have HB := kh HB (hb)
      have I := ki I (hb)
      have HK := kk_ HK (hb)
      clear hb
      have Q1 := Aside0.mk q1
      have Q2 := Aside0.mk q2
      clear q1 q2
      go_wp2_with (((with_reducible refine gate_store (t := 29) (p := 3) rfl ?_); refine wpList_store_row rfl 29 (.tmp 3) (.tmp 48) rfl b3 #[.int .i64 r1, .slice D1 r2.length d1, .slice D2 r3.length d2] rfl rfl 29 #[.int .i64 s, .slice (some ad) l1.length c1, .slice A2 l2.length c2] P3.out (by kernel_rfl) rfl (by simp [Value.oneCell']) ?_; refine Aside0.out ?_))
      have NE_ : g ≠ b3 := (by have := ZZ.out; omega)
      obtain ⟨W16, e_⟩ : ∃ X, X = W15.setRow b3 #[.int .i64 r1, .slice D1 r2.length d1, .slice D2 r3.length d2] := ⟨_, rfl⟩
      rw [← e_]
      have P2 := kbs P2 e_ (by have := ZZ.out; omega)
      have P5 := kbs P5 e_ (by have := ZZ.out; omega)
      have R1 := kws R1 e_ (by have := ZZ.out; omega)
      have R2 := kws R2 e_ (by have := ZZ.out; omega)
      have Q1 := kws Q1 e_ (by have := ZZ.out; omega)
      have Q2 := kws Q2 e_ (by have := ZZ.out; omega)
      have P3 := kps P3 e_
      have HB := khs HB e_ (by have := ZZ.out; omega)
      have I := kis I e_ NE_
      clear NE_
      have HK := kks HK e_ (by have := ZZ.out; omega)
      have ZZ := Aside0.mk (And.intro ZZ.out (kzs e_))
      clear e_
      refine Aside0.mk ?_
      try (go_wp2_with (fail))
      go_roundw
      case rel =>
       exact ⟨m - 1, _, r1, r2, r3, D1, d1, D2, d2, (by first | rfl | (rw [hw])), ⟨by have := HM.out; have := HLT.out; omega⟩, ⟨by have := HQ0.out; have := HM.out; omega⟩, P3, ⟨Rw.wide (Rw.now Q1.out) (by have := ZZ.out; omega) (Nat.le_refl _)⟩, ⟨Rw.wide (Rw.now Q2.out) (by have := ZZ.out; omega) (Nat.le_refl _)⟩, SD, ⟨by have := HLN.out; omega⟩, I, HB, HK, P2⟩
      case measure =>
       (try rw [hw])
       show (m - 1).toNat < m.toNat
       have := HLT.out
       omega
    ·have hl_ : decide (0 < l1.length) = false := decide_eq_false hl
     clear hl
     have hb1 := (blk_cell P3.out 1).trans (show _ = some (.slice A1 l1.length c1) from rfl)
     go_wp2_with (fail)
     clear hl_ hb1
     try (go_wp2_with (fail))
     go_roundw
     case rel =>
      exact ⟨m - 1, _, s, l1, l2, A1, c1, A2, c2, (by first | rfl | (rw [hw])), ⟨by have := HM.out; have := HLT.out; omega⟩, ⟨by have := HQ0.out; have := HM.out; omega⟩, P3, ⟨Rw.wide (Rw.now R1.out) (by have := ZZ.out; omega) (Nat.le_refl _)⟩, ⟨Rw.wide (Rw.now R2.out) (by have := ZZ.out; omega) (Nat.le_refl _)⟩, SEP, HL, I, HB, HK, P2⟩
     case measure =>
      (try rw [hw])
      show (m - 1).toNat < m.toNat
      have := HLT.out
      omega
   ·have c0a : (t == 0) = false := beq_eq_false_iff_ne.mpr c0
    clear c0
    by_cases c1_ : t = 1
    ·have c1a : (t == 1) = true := beq_iff_eq.mpr c1_
     clear c1_
     go_wp2_with (fail)
     have P2 := kbd P2
     have P3 := kbd P3
     have R1 := kwd R1
     have R2 := kwd R2
     have HB := khd HB
     have I := kid I
     have HK := kkd HK
     have ZZ := Aside0.mk (And.intro ZZ.out (show W5.heap.size ≤ (W5.drew).heap.size from Nat.le_refl _))
     have HSS := (show (W5.drew).heap[b3]? = some (.cells #[.int .i64 s, .slice A1 l1.length c1, .slice A2 l2.length c2] 29 (0, 0)) from P3.out)
     refine start_ (n := 12) (S := fun w' => w'.heap[b3]? = some (.cells #[.int .i64 s, .slice A1 l1.length c1, .slice A2 l2.length c2] 29 (0, 0))) (ds := [11]) (bt_ 12 0) (by kernel_rfl) rfl rfl HSS (fun hHeld => ?_)
     clear HSS
     generalize W5.drew = W17 at P2 P3 R1 R2 HB I HK ZZ hHeld ⊢
     refine ld_ 0 (some 53) (bt_ 12 1) b3 29 (.tmp 3) #[.int .i64 s, .slice A1 l1.length c1, .slice A2 l2.length c2] _ (by kernel_rfl) hHeld (fun _ h_ => h_) hu29 rfl (by kernel_rfl) ?_
     refine pu_ 1 (some 54) (bt_ 12 3) (by kernel_rfl) ?_
     refine pu_ 4 (some 57) (bt_ 12 19) (by kernel_rfl) ?_
     clear hHeld
     refine one_ (i := 2) (N := some 55) (bt_ 12 23) rfl rfl (by kernel_rfl) (by decide) (fun K hK => ?_)
     refine goes_ Try.func67 (by kernel_rfl) rfl #[.pointer (some ⟨g, 0, none⟩), .int .i64 7] (by rfl) rfl rfl (by simp only [List.map_toArray, List.map_cons, List.map_nil]; rfl) ?_
     refine (pickW g b _ 7 w0 W17 I.out HB.out HBY.out (by have := HQ.out; omega) (by have := HQ.out; omega) (by omega) (by omega)).mono ?_
     rintro e W18 ⟨ta, ht0_, ht1_, rfl, hi, hb, hk⟩
     refine ⟨_, rfl, ?_⟩
     have Tta := Aside0.mk (And.intro ht0_ ht1_)
     clear ht0_ ht1_
     have ZZ := Aside0.mk (And.intro ZZ.out (hk.1))
     have P2 := kbI P2 I hk
     have P3 := kbI P3 I hk
     have R1 := kwI R1 I hk
     have R2 := kwI R2 I hk
     have HK := kkI HK hk
     have HB := Aside0.mk hb
     have I := Aside0.mk hi
     clear hi hb hk
     refine hK.out _ _ P3.out (fun hHeld => ?_)
     clear hK K
     refine norm_ (a' := ?_) ?_ ?_
     rotate_left
     ·show Act.put _ (some 55) _ = _
      simp only [Act.put, List.setIfInBounds_toArray, List.set_cons_zero, List.set_cons_succ, i64_w, i32_w]
      rfl
     clear hHeld
     refine pu_ 3 (some 56) (bt_ 12 31) (by kernel_rfl) ?_
     refine one_ (i := 5) (N := some 58) (bt_ 12 63) rfl rfl (by kernel_rfl) (by decide) (fun K hK => ?_)
     refine goes_ Try.func67 (by kernel_rfl) rfl #[.pointer (some ⟨g, 0, none⟩), .int .i64 3] (by rfl) rfl rfl (by simp only [List.map_toArray, List.map_cons, List.map_nil]; rfl) ?_
     refine (pickW g b _ 3 w0 W18 I.out HB.out HBY.out (by have := HQ.out; omega) (by have := HQ.out; omega) (by omega) (by omega)).mono ?_
     rintro e W19 ⟨tb, ht0_, ht1_, rfl, hi, hb, hk⟩
     refine ⟨_, rfl, ?_⟩
     have Ttb := Aside0.mk (And.intro ht0_ ht1_)
     clear ht0_ ht1_
     have ZZ := Aside0.mk (And.intro ZZ.out (hk.1))
     have P2 := kbI P2 I hk
     have P3 := kbI P3 I hk
     have R1 := kwI R1 I hk
     have R2 := kwI R2 I hk
     have HK := kkI HK hk
     have HB := Aside0.mk hb
     have I := Aside0.mk hi
     clear hi hb hk
     refine hK.out _ _ P3.out (fun hHeld => ?_)
     clear hK K
     refine norm_ (a' := ?_) ?_ ?_
     rotate_left
     ·show Act.put _ (some 58) _ = _
      simp only [Act.put, List.setIfInBounds_toArray, List.set_cons_zero, List.set_cons_succ, i64_w, i32_w]
      rfl
     clear hHeld
     refine pu_ 6 (some 59) (bt_ 12 127) (by kernel_rfl) ?_
     refine one_ (i := 7) (N := some 60) (bt_ 12 255) rfl rfl (by kernel_rfl) (by decide) (fun K hK => ?_)
     refine goes_ Try.func24 (by kernel_rfl) rfl #[.agg #[.int .i64 s, .slice A1 l1.length c1, .slice A2 l2.length c2], .int .i64 (wrap64 (1 + ta)), .int .i64 (wrap64 (1 + tb))] (by rfl) rfl rfl (by simp only [List.map_toArray, List.map_cons, List.map_nil]; rfl) ?_
     have hln := free_len s l1 l2 (wrap64 (1 + ta)) (wrap64 (1 + tb))
     generalize hF : freeF s l1 l2 (wrap64 (1 + ta)) (wrap64 (1 + tb)) = FR at hln
     obtain ⟨r1, r2, r3, r4⟩ := FR
     simp only at hln
     have HLN := Aside0.mk hln
     clear hln
     refine (sfree_calls s A1 c1 l1 A2 c2 l2 (wrap64 (1 + ta)) (wrap64 (1 + tb)) r1 r2 r3 r4 W19 (R1.out.reads).2.2 (R1.out.reads).2.1 (R2.out.reads).2.2 (R2.out.reads).2.1 (by have := HL.out; omega) (by have := HL.out; omega) hF).mono ?_
     clear hF
     rintro e W20 ⟨v1, v2, v3, rfl, q1, q2, q3, hb⟩
     refine ⟨_, rfl, ?_⟩
     obtain ⟨D1, d1, e0⟩ := Kd.R_slice q1
     subst e0
     obtain ⟨D2, d2, e0⟩ := Kd.R_slice q2
     subst e0
     obtain ⟨D3, d3, e0⟩ := Kd.R_slice q3
     subst e0
     have SD := Aside0.mk (show ∀ k, (Value.slice D1 r2.length d1).ownBlock = some k → (Value.slice D2 r3.length d2).ownBlock ≠ some k from fun k hk e => (q1.1 k hk).1 e.symm)
     have q1 := Rw.of q1 (by show w.heap.size ≤ W19.heap.size; have := ZZ.out; omega)
     have q2 := Rw.of q2 (by show w.heap.size ≤ W19.heap.size; have := ZZ.out; omega)
     clear q3
     have ZZ := Aside0.mk (And.intro ZZ.out ((hb).size))
     have P2 := kb P2 (hb)
     have P3 := kb P3 (hb)
     have R1 := kw R1 (hb)
     have R2 := kw R2 (hb)
     have HB := kh HB (hb)
     have I := ki I (hb)
     have HK := kk_ HK (hb)
     clear hb
     have Q1 := Aside0.mk q1
     have Q2 := Aside0.mk q2
     clear q1 q2
     refine hK.out _ _ P3.out (fun hHeld => ?_)
     clear hK K
     refine norm_ (a' := ?_) ?_ ?_
     rotate_left
     ·show Act.put _ (some 60) _ = _
      simp only [Act.put, List.setIfInBounds_toArray, List.set_cons_zero, List.set_cons_succ, i64_w, i32_w]
      rfl
     clear hHeld
     refine pu_ 8 (some 52) (bt_ 12 511) (by kernel_rfl) ?_
     refine pu_ 9 (some 61) (bt_ 12 1023) (by kernel_rfl) ?_
     refine pu_ 10 (some 62) (bt_ 12 2047) (by kernel_rfl) ?_
     refine last_ (i := 11) (N := none) (bt_ 12 4095) rfl rfl (by kernel_rfl) (by decide) (fun K hK => ?_)
     refine st_ rfl 29 (.tmp 3) (.tmp 61) rfl b3 #[.int .i64 r1, .slice D1 r2.length d1, .slice D2 r3.length d2] rfl rfl 29 #[.int .i64 s, .slice A1 l1.length c1, .slice A2 l2.length c2] P3.out (by kernel_rfl) rfl (by simp [Value.oneCell']) ?_
     have NE_ : g ≠ b3 := (by have := ZZ.out; omega)
     obtain ⟨W21, e_⟩ : ∃ X, X = W20.setRow b3 #[.int .i64 r1, .slice D1 r2.length d1, .slice D2 r3.length d2] := ⟨_, rfl⟩
     rw [← e_]
     have P2 := kbs P2 e_ (by have := ZZ.out; omega)
     have R1 := kws R1 e_ (by have := ZZ.out; omega)
     have R2 := kws R2 e_ (by have := ZZ.out; omega)
     have Q1 := kws Q1 e_ (by have := ZZ.out; omega)
     have Q2 := kws Q2 e_ (by have := ZZ.out; omega)
     have P3 := kps P3 e_
     have HB := khs HB e_ (by have := ZZ.out; omega)
     have I := kis I e_ NE_
     clear NE_
     have HK := kks HK e_ (by have := ZZ.out; omega)
     have ZZ := Aside0.mk (And.intro ZZ.out (kzs e_))
     clear e_
     refine hK.out _ _ ?_
     clear hK K
     refine norm_ (a' := ?_) ?_ ?_
     rotate_left
     ·show Act.put _ none _ = _
      simp only [Act.put, List.setIfInBounds_toArray, List.set_cons_zero, List.set_cons_succ, i64_w, i32_w]
      rfl
     refine done_ (by kernel_rfl) ?_
     try (go_wp2_with (fail))
     go_roundw
     case rel =>
      exact ⟨m - 1, _, r1, r2, r3, D1, d1, D2, d2, (by first | rfl | (rw [hw])), ⟨by have := HM.out; have := HLT.out; omega⟩, ⟨by have := HQ0.out; have := HM.out; omega⟩, P3, ⟨Rw.wide (Rw.now Q1.out) (by have := ZZ.out; omega) (Nat.le_refl _)⟩, ⟨Rw.wide (Rw.now Q2.out) (by have := ZZ.out; omega) (Nat.le_refl _)⟩, SD, ⟨by have := HLN.out; omega⟩, I, HB, HK, P2⟩
     case measure =>
      (try rw [hw])
      show (m - 1).toNat < m.toNat
      have := HLT.out
      omega
    ·have c1a : (t == 1) = false := beq_eq_false_iff_ne.mpr c1_
     clear c1_
     go_wp2_with (fail)
     have P2 := kbd P2
     have P3 := kbd P3
     have R1 := kwd R1
     have R2 := kwd R2
     have HB := khd HB
     have I := kid I
     have HK := kkd HK
     have ZZ := Aside0.mk (And.intro ZZ.out (show W5.heap.size ≤ (W5.drew).heap.size from Nat.le_refl _))
     have HSS := (show (W5.drew).heap[b3]? = some (.cells #[.int .i64 s, .slice A1 l1.length c1, .slice A2 l2.length c2] 29 (0, 0)) from P3.out)
     refine start_ (n := 9) (S := fun w' => w'.heap[b3]? = some (.cells #[.int .i64 s, .slice A1 l1.length c1, .slice A2 l2.length c2] 29 (0, 0))) (ds := [8]) (bt_ 9 0) (by kernel_rfl) rfl rfl HSS (fun hHeld => ?_)
     clear HSS
     generalize W5.drew = W22 at P2 P3 R1 R2 HB I HK ZZ hHeld ⊢
     refine ld_ 0 (some 19) (bt_ 9 1) b3 29 (.tmp 3) #[.int .i64 s, .slice A1 l1.length c1, .slice A2 l2.length c2] _ (by kernel_rfl) hHeld (fun _ h_ => h_) hu29 rfl (by kernel_rfl) ?_
     refine pu_ 1 (some 20) (bt_ 9 3) (by kernel_rfl) ?_
     clear hHeld
     refine one_ (i := 2) (N := some 21) (bt_ 9 7) rfl rfl (by kernel_rfl) (by decide) (fun K hK => ?_)
     refine goes_ Try.func66 (by kernel_rfl) rfl #[.pointer (some ⟨g, 0, none⟩)] (by rfl) rfl rfl (by simp only [List.map_toArray, List.map_cons, List.map_nil]; rfl) ?_
     refine (holdW g b _ w0 W22 I.out HB.out HBY.out (by have := HQ.out; omega) (by have := HQ.out; omega)).mono ?_
     rintro e W23 ⟨x, hx9, rfl, hi, hb, hk⟩
     have HX9 := Aside0.mk hx9
     clear hx9
     refine ⟨_, rfl, ?_⟩
     have ZZ := Aside0.mk (And.intro ZZ.out (hk.1))
     have P2 := kbI P2 I hk
     have P3 := kbI P3 I hk
     have R1 := kwI R1 I hk
     have R2 := kwI R2 I hk
     have HK := kkI HK hk
     have HB := Aside0.mk hb
     have I := Aside0.mk hi
     clear hi hb hk
     refine hK.out _ _ P3.out (fun hHeld => ?_)
     clear hK K
     refine norm_ (a' := ?_) ?_ ?_
     rotate_left
     ·show Act.put _ (some 21) _ = _
      simp only [Act.put, List.setIfInBounds_toArray, List.set_cons_zero, List.set_cons_succ, i64_w, i32_w]
      rfl
     clear hHeld
     refine one_ (i := 3) (N := some 22) (bt_ 9 15) rfl rfl (by kernel_rfl) (by decide) (fun K hK => ?_)
     refine goes_ Try.func29 (by kernel_rfl) rfl #[.agg #[.int .i64 s, .slice A1 l1.length c1, .slice A2 l2.length c2], .agg #[.int .i64 x.f0, .int .i64 x.f1, .bool x.f2, .bool x.f3]] (by rfl) rfl rfl (by simp only [List.map_toArray, List.map_cons, List.map_nil]; rfl) ?_
     have hln := ask_len s l1 l2 x
     generalize hF : askF s l1 l2 x = FR at hln
     obtain ⟨r1, r2, r3, r4, r5⟩ := FR
     simp only at hln
     have HLN := Aside0.mk hln
     clear hln
     refine (sask_calls s A1 c1 l1 A2 c2 l2 x r1 r2 r3 r4 r5 W23 (R1.out.reads).2.2 (R1.out.reads).2.1 (R2.out.reads).2.2 (R2.out.reads).2.1 (by have := HL.out; omega) (by have := HL.out; omega) hF).mono ?_
     clear hF
     rintro e W24 ⟨v1, v2, v3, rfl, q1, q2, q3, hb⟩
     refine ⟨_, rfl, ?_⟩
     obtain ⟨D1, d1, e0⟩ := Kd.R_slice q1
     subst e0
     obtain ⟨D2, d2, e0⟩ := Kd.R_slice q2
     subst e0
     obtain ⟨D3, d3, e0⟩ := Kd.R_slice q3
     subst e0
     have SD := Aside0.mk (show ∀ k, (Value.slice D1 r2.length d1).ownBlock = some k → (Value.slice D2 r3.length d2).ownBlock ≠ some k from fun k hk e => (q1.1 k hk).1 e.symm)
     have q1 := Rw.of q1 (by show w.heap.size ≤ W23.heap.size; have := ZZ.out; omega)
     have q2 := Rw.of q2 (by show w.heap.size ≤ W23.heap.size; have := ZZ.out; omega)
     clear q3
     have ZZ := Aside0.mk (And.intro ZZ.out ((hb).size))
     have P2 := kb P2 (hb)
     have P3 := kb P3 (hb)
     have R1 := kw R1 (hb)
     have R2 := kw R2 (hb)
     have HB := kh HB (hb)
     have I := ki I (hb)
     have HK := kk_ HK (hb)
     clear hb
     have Q1 := Aside0.mk q1
     have Q2 := Aside0.mk q2
     clear q1 q2
     refine hK.out _ _ P3.out (fun hHeld => ?_)
     clear hK K
     refine norm_ (a' := ?_) ?_ ?_
     rotate_left
     ·show Act.put _ (some 22) _ = _
      simp only [Act.put, List.setIfInBounds_toArray, List.set_cons_zero, List.set_cons_succ, i64_w, i32_w]
      rfl
     clear hHeld
     refine pu_ 4 (some 18) (bt_ 9 31) (by kernel_rfl) ?_
     refine pu_ 5 (some 23) (bt_ 9 63) (by kernel_rfl) ?_
     refine pu_ 6 (some 24) (bt_ 9 127) (by kernel_rfl) ?_
     refine pu_ 7 (some 25) (bt_ 9 255) (by kernel_rfl) ?_
     refine last_ (i := 8) (N := none) (bt_ 9 511) rfl rfl (by kernel_rfl) (by decide) (fun K hK => ?_)
     refine st_ rfl 29 (.tmp 3) (.tmp 23) rfl b3 #[.int .i64 r1, .slice D1 r2.length d1, .slice D2 r3.length d2] rfl rfl 29 #[.int .i64 s, .slice A1 l1.length c1, .slice A2 l2.length c2] P3.out (by kernel_rfl) rfl (by simp [Value.oneCell']) ?_
     have NE_ : g ≠ b3 := (by have := ZZ.out; omega)
     obtain ⟨W25, e_⟩ : ∃ X, X = W24.setRow b3 #[.int .i64 r1, .slice D1 r2.length d1, .slice D2 r3.length d2] := ⟨_, rfl⟩
     rw [← e_]
     have P2 := kbs P2 e_ (by have := ZZ.out; omega)
     have R1 := kws R1 e_ (by have := ZZ.out; omega)
     have R2 := kws R2 e_ (by have := ZZ.out; omega)
     have Q1 := kws Q1 e_ (by have := ZZ.out; omega)
     have Q2 := kws Q2 e_ (by have := ZZ.out; omega)
     have P3 := kps P3 e_
     have HB := khs HB e_ (by have := ZZ.out; omega)
     have I := kis I e_ NE_
     clear NE_
     have HK := kks HK e_ (by have := ZZ.out; omega)
     have ZZ := Aside0.mk (And.intro ZZ.out (kzs e_))
     clear e_
     refine hK.out _ _ ?_
     clear hK K
     refine norm_ (a' := ?_) ?_ ?_
     rotate_left
     ·show Act.put _ none _ = _
      simp only [Act.put, List.setIfInBounds_toArray, List.set_cons_zero, List.set_cons_succ, i64_w, i32_w]
      rfl
     refine done_ (by kernel_rfl) ?_
     try (go_wp2_with (fail))
     go_roundw
     case rel =>
      exact ⟨m - 1, _, r1, r2, r3, D1, d1, D2, d2, (by first | rfl | (rw [hw])), ⟨by have := HM.out; have := HLT.out; omega⟩, ⟨by have := HQ0.out; have := HM.out; omega⟩, P3, ⟨Rw.wide (Rw.now Q1.out) (by have := ZZ.out; omega) (Nat.le_refl _)⟩, ⟨Rw.wide (Rw.now Q2.out) (by have := ZZ.out; omega) (Nat.le_refl _)⟩, SD, ⟨by have := HLN.out; omega⟩, I, HB, HK, P2⟩
     case measure =>
      (try rw [hw])
      show (m - 1).toNat < m.toNat
      have := HLT.out
      omega
  ·have hdl : decide (0 < m) = false := decide_eq_false hlt
   clear hlt
   go_wp2_with (fail)
   clear hdl
   refine (pickW g b _ 14 w0 wr I.out HB.out HBY.out (by have := HQ.out; omega) (by have := HQ.out; omega) (by omega) (by omega)).mono ?_
   rintro e W26 ⟨t, ht0_, ht1_, rfl, hi, hb, hk⟩
   have Tt := Aside0.mk (And.intro ht0_ ht1_)
   clear ht0_ ht1_
   have ZZ := Aside0.mk (And.intro ZZ.out (hk.1))
   have P2 := kbI P2 I hk
   have P3 := kbI P3 I hk
   have R1 := kwI R1 I hk
   have R2 := kwI R2 I hk
   have HK := kkI HK hk
   have HB := Aside0.mk hb
   have I := Aside0.mk hi
   clear hi hb hk
   by_cases d0 : t = 0
   ·have d0a : (t == 0) = true := beq_iff_eq.mpr d0
    clear d0
    have hb := below_alloc (Below.refl W26.heap.size W26) (.cells #[.int .i64 (-1), .int .i64 8] 3)
    have ZZ := Aside0.mk (And.intro ZZ.out ((hb).size))
    have P2 := kb P2 (hb)
    have P3 := kb P3 (hb)
    have R1 := kw R1 (hb)
    have R2 := kw R2 (hb)
    have HB := kh HB (hb)
    have I := ki I (hb)
    have HK := kk_ HK (hb)
    clear hb
    have PA := Aside0.mk (blk_new W26 (.cells #[.int .i64 (-1), .int .i64 8] 3))
    have ZZ := Aside0.mk (And.intro ZZ.out (blk_lt PA.out))
    go_wp2_with (fail)
    generalize W26.alloc (.cells #[.int .i64 (-1), .int .i64 8] 3) = W27 at ZZ P2 P3 PA R1 R2 HB I HK ⊢
    obtain ⟨bA, hq_⟩ : ∃ bA, bA = W26.heap.size := ⟨_, rfl⟩
    rw [← hq_] at PA ZZ ⊢
    have ZZ := Aside0.mk (And.intro ZZ.out (hq_))
    clear hq_
    refine (pickW g b _ 2 w0 W27 I.out HB.out HBY.out (by have := HQ.out; omega) (by have := HQ.out; omega) (by omega) (by omega)).mono ?_
    rintro e W28 ⟨tj, ht0_, ht1_, rfl, hi, hb, hk⟩
    have Ttj := Aside0.mk (And.intro ht0_ ht1_)
    clear ht0_ ht1_
    have ZZ := Aside0.mk (And.intro ZZ.out (hk.1))
    have P2 := kbI P2 I hk
    have P3 := kbI P3 I hk
    have PA := kbI PA I hk
    have R1 := kwI R1 I hk
    have R2 := kwI R2 I hk
    have HK := kkI HK hk
    have HB := Aside0.mk hb
    have I := Aside0.mk hi
    clear hi hb hk
    obtain ⟨y, hy⟩ : ∃ y : Int, (#[Value.int .i64 (-1), .int .i64 8])[tj.toNat]? = some (.int .i64 y) := by
     have h := Ttj.out
     rcases (show tj = 0 ∨ tj = 1 by omega) with rfl | rfl
     ·exact ⟨-1, rfl⟩
     ·exact ⟨8, rfl⟩
    have hl_ : W28.cell? ⟨bA, tj.toNat, none⟩ = some (.int .i64 y) := (blk_cell PA.out tj.toNat).trans hy
    clear hy
    have pj_ : (0 ≤ tj) = True := eq_true Ttj.out.1
    have qj_ : (tj < 2) = True := eq_true Ttj.out.2
    have hb0 := (blk_cell P3.out 0).trans (show _ = some (.int .i64 s) from rfl)
    have hbf0 := blk_frozen P3.out 0
    have hb1 := (blk_cell P3.out 1).trans (show _ = some (.slice A1 l1.length c1) from rfl)
    have hbf1 := blk_frozen P3.out 1
    have hb2 := (blk_cell P3.out 2).trans (show _ = some (.slice A2 l2.length c2) from rfl)
    have hbf2 := blk_frozen P3.out 2
    have NE_ : g ≠ b3 := (by have := ZZ.out; omega)
    have P2 := Aside0.mk (blk_far (p := ⟨b3, 0, none⟩) P2.out (show w.heap.size ≠ b3 by have := ZZ.out; omega) (.int .i64 y))
    have PA := Aside0.mk (blk_far (p := ⟨b3, 0, none⟩) PA.out (show bA ≠ b3 by have := ZZ.out; omega) (.int .i64 y))
    have P3 := Aside0.mk (blk_put (cs' := #[.int .i64 y, .slice A1 l1.length c1, .slice A2 l2.length c2]) P3.out 0 (.int .i64 y) rfl)
    have R1 := Aside0.mk (Rw.cell (b := b3) (j := 0) (u := .int .i64 y) R1.out (by have := ZZ.out; omega))
    have R2 := Aside0.mk (Rw.cell (b := b3) (j := 0) (u := .int .i64 y) R2.out (by have := ZZ.out; omega))
    have HB := Aside0.mk (below_set (g := b3) (j := 0) (v := .int .i64 y) HB.out (show w0.heap.size ≤ b3 by have := ZZ.out; omega))
    have I := Aside0.mk (IsS87.far (p := ⟨b3, 0, none⟩) I.out NE_ (.int .i64 y))
    clear NE_
    have HK := Aside0.mk (keep_setCell HK.out (show w.heap.size ≤ b3 by have := ZZ.out; omega) 0 (.int .i64 y))
    have ZZ := Aside0.mk (And.intro ZZ.out (show W28.heap.size ≤ (W28.setCell ⟨b3, 0, none⟩ (.int .i64 y)).heap.size by simp))
    go_wp2_with (first | ((with_reducible refine gate_dst (N := 112) rfl ?_); refine wpList_load_row rfl 29 (.tmp 3) rfl b3 rfl 29 #[.int .i64 y, .slice A1 l1.length c1, .slice A2 l2.length c2] (0, 0) _ P3.out hu29 rfl (by kernel_rfl) ?_) | ((with_reducible refine gate_store (t := 29) (p := 2) rfl ?_); refine wpList_store_row rfl 29 (.tmp 2) (.tmp 112) rfl w.heap.size #[.int .i64 y, .slice A1 l1.length c1, .slice A2 l2.length c2] rfl rfl 29 #[.int .i64 0, .slice none 0 0, .slice none 0 0] P2.out (by kernel_rfl) rfl (by simp [Value.oneCell']) ?_; refine Aside0.out ?_))
    generalize W28.setCell ⟨b3, 0, none⟩ (.int .i64 y) = W29 at P2 P3 PA R1 R2 HB I HK ZZ ⊢
    have NE_ : g ≠ w.heap.size := (by have := ZZ.out; omega)
    obtain ⟨W30, e_⟩ : ∃ X, X = W29.setRow w.heap.size #[.int .i64 y, .slice A1 l1.length c1, .slice A2 l2.length c2] := ⟨_, rfl⟩
    rw [← e_]
    have P3 := kbs P3 e_ (by have := ZZ.out; omega)
    have PA := kbs PA e_ (by have := ZZ.out; omega)
    have R1 := kws R1 e_ (by have := ZZ.out; omega)
    have R2 := kws R2 e_ (by have := ZZ.out; omega)
    have P2 := kps P2 e_
    have HB := khs HB e_ (by have := ZZ.out; omega)
    have I := kis I e_ NE_
    clear NE_
    have HK := kks HK e_ (by have := ZZ.out; omega)
    have ZZ := Aside0.mk (And.intro ZZ.out (kzs e_))
    clear e_
    refine Aside0.mk ?_
    iterate 12 (try go_step)
    refine bodyPost_ret (results_cell_row rfl _ _ w.heap.size 29 #[.int .i64 y, .slice A1 l1.length c1, .slice A2 l2.length c2] (0, 0) _ rfl P2.out hu29 rfl (by kernel_rfl)) rfl ?_
    exact ⟨y, l1, l2, .slice A1 l1.length c1, .slice A2 l2.length c2, _, rfl, Rw.own_ R1.out (fun k hk e => SEP.out k hk e.symm), Rw.own_ R2.out (fun k hk e => SEP.out k e.symm hk), (by have := HL.out; omega), I.out, (by have := HQ.out; omega), HB.out, HK.out⟩
   ·have d0a : (t == 0) = false := beq_eq_false_iff_ne.mpr d0
    clear d0
    by_cases d1 : t = 1
    ·have d1a : (t == 1) = true := beq_iff_eq.mpr d1
     clear d1
     go_wp2_with (fail)
     have P2 := kbd P2
     have P3 := kbd P3
     have R1 := kwd R1
     have R2 := kwd R2
     have HB := khd HB
     have I := kid I
     have HK := kkd HK
     have ZZ := Aside0.mk (And.intro ZZ.out (show W26.heap.size ≤ (W26.drew).heap.size from Nat.le_refl _))
     have HSS := (show (W26.drew).cell? ⟨b3, 1, none⟩ = some (.slice A1 l1.length c1) ∧ True from ⟨(blk_cell P3.out 1).trans rfl, trivial⟩)
     refine start_ (n := 8) (S := fun w' => w'.cell? ⟨b3, 1, none⟩ = some (.slice A1 l1.length c1) ∧ True) (ds := [7]) (bt_ 8 0) (by kernel_rfl) rfl rfl HSS (fun hHeld => ?_)
     clear HSS
     generalize W26.drew = W31 at P2 P3 R1 R2 HB I HK ZZ hHeld ⊢
     refine pu_ 0 (some 75) (bt_ 8 1) (by kernel_rfl) ?_
     refine tk_ 1 (some 76) (bt_ 8 3) (by kernel_rfl) hHeld ?_
     clear hHeld
     refine pu_ 2 (some 77) (bt_ 8 7) (by kernel_rfl) ?_
     refine one_ (i := 3) (N := some 78) (bt_ 8 15) rfl rfl (by kernel_rfl) (by decide) (fun K hK => ?_)
     refine goes_ Try.func66 (by kernel_rfl) rfl #[.pointer (some ⟨g, 0, none⟩)] (by rfl) rfl rfl (by simp only [List.map_toArray, List.map_cons, List.map_nil]; rfl) ?_
     refine (holdW g b _ w0 W31 I.out HB.out HBY.out (by have := HQ.out; omega) (by have := HQ.out; omega)).mono ?_
     rintro e W32 ⟨x, hx9, rfl, hi, hb, hk⟩
     have HX9 := Aside0.mk hx9
     clear hx9
     refine ⟨_, rfl, ?_⟩
     have ZZ := Aside0.mk (And.intro ZZ.out (hk.1))
     have P2 := kbI P2 I hk
     have P3 := kbI P3 I hk
     have R1 := kwI R1 I hk
     have R2 := kwI R2 I hk
     have HK := kkI HK hk
     have HB := Aside0.mk hb
     have I := Aside0.mk hi
     clear hi hb hk
     refine hK.out _ _ ⟨(blk_cell P3.out 1).trans rfl, trivial⟩ (fun hHeld => ?_)
     clear hK K
     refine norm_ (a' := ?_) ?_ ?_
     rotate_left
     ·show Act.put _ (some 78) _ = _
      simp only [Act.put, List.setIfInBounds_toArray, List.set_cons_zero, List.set_cons_succ, i64_w, i32_w]
      rfl
     clear hHeld
     refine one_ (i := 4) (N := some 79) (bt_ 8 31) rfl rfl (by kernel_rfl) (by decide) (fun K hK => ?_)
     refine event_step (v := .slice (some ⟨W32.heap.size, 0, none⟩) 1 1) (w1 := W32.alloc (.cells #[.int .i64 x.f0, .int .i64 x.f1, .bool x.f2, .bool x.f3] 45)) rfl (by first | (go_simp; done) | (go_simp; rfl)) ?_
     refine hK.out _ _ ⟨(blk_cell (blk_alloc P3.out _) 1).trans rfl, trivial⟩ (fun hHeld => ?_)
     clear hK K hHeld
     refine norm_ (a' := ?_) ?_ ?_
     rotate_left
     ·show Act.put _ (some 79) _ = _
      simp only [Act.put, List.setIfInBounds_toArray, List.set_cons_zero, List.set_cons_succ, i64_w, i32_w]
      rfl
     refine one_ (i := 5) (N := some 80) (bt_ 8 63) rfl rfl (by kernel_rfl) (by decide) (fun K hK => ?_)
     have R7o := R1
     refine Kd.R_append_step k45 (w0 := W32) w.heap.size rfl (.tmp 76) (.tmp 79) 27 45 (.agg #[.int .i64 0, .int .i64 0, .bool false, .bool false]) 24 rfl Try.underlying27 info45 rfl (by decide) (by omega) (.slice A1 l1.length c1) l1 x [.int .i64 x.f0, .int .i64 x.f1, .bool x.f2, .bool x.f3] (fun _ => True) (fun _ => False) rfl rfl ?aP (fun _ hk => hk.elim) (fun k hk => trivial) (Kd.R_mono R1.out (fun k hk => trivial)) (Below.refl _ _) (by show w.heap.size ≤ W32.heap.size; have := ZZ.out; omega) (by have := HL.out; omega) ?_
     case aP => exact k45_mkM _ _ _ x
     intro v1 w7 ho hb7 hg hat
     obtain ⟨An, cn, e0⟩ := Kd.R_slice ho
     subst e0
     generalize hL_ : l1 ++ [x] = ln at ho hat ⊢
     have HLn : Aside0 (ln.length = l1.length + 1) := ⟨by rw [← hL_]; simp⟩
     clear hL_
     have HO7 := Aside0.mk ho
     have HG7 := Aside0.mk hg
     have HT7 := Aside0.mk hat
     have HB7 := Aside0.mk hb7
     clear ho hb7 hg hat
     have P2 := Aside0.mk ((HG7.out.block w.heap.size (blk_lt P2.out) (fun e => by have := R1.out.at_ e.symm; have := ZZ.out; omega)).trans P2.out)
     have P3 := Aside0.mk ((HG7.out.block b3 (blk_lt P3.out) (fun e => by have := R1.out.at_ e.symm; have := ZZ.out; omega)).trans P3.out)
     have ZZ := Aside0.mk (And.intro ZZ.out (HG7.out.size))
     have ON7 := Aside0.mk (show ∀ k, k < W32.heap.size → (.slice A1 l1.length c1 : Value).ownBlock ≠ some k → (Value.slice An ln.length cn).ownBlock ≠ some k from fun k hk hn e => by
      rcases HT7.out with q | ⟨b_, q1, q2⟩
      ·exact hn (q ▸ e)
      ·rw [q1] at e; injection e with e; omega)
     have SEPn := Aside0.mk (show ∀ k, (Value.slice An ln.length cn).ownBlock = some k → (.slice A2 l2.length c2 : Value).ownBlock ≠ some k from fun k hk e => ON7.out k (R2.out.lt e) (fun e2 => SEP.out k e2 e) hk)
     have R2 := Aside0.mk (Rw.grown R2.out HG7.out (fun k hk e => SEP.out k e hk))
     have I := Aside0.mk (IsS87.grown I.out HG7.out (fun e => by have := R1.out.at_ e.symm; have := ZZ.out; omega))
     have HK := Aside0.mk (KeepBut.trans HK.out (KeepBut.of_grown HG7.out g) (by
      cases hq_ : (.slice A1 l1.length c1 : Value).ownBlock with
      | none => exact .inl rfl
      | some k_ => exact .inr ⟨k_, rfl, by have := R1.out.at_ hq_; have := ZZ.out; omega⟩))
     have HB := Aside0.mk (below_weaken HB.out (by show w0.heap.size ≤ w.heap.size; exact LE.out) HB7.out)
     have R1 := Aside0.mk (show Rw w.heap.size w7 w.heap.size w7.heap.size (.slice An ln.length cn) ln from Rw.own_ HO7.out (fun k hk => ⟨hk, ((Kd.R_bound HO7.out).1 k hk).2.1, Kd.R_lt HO7.out k hk⟩))
     have R1 := Aside0.mk (show Rw w.heap.size w7 (b3 + 1) w7.heap.size (.slice An ln.length cn) ln from Rw.own_ R1.out (fun k hk => ⟨hk, by
      rcases HT7.out with q | ⟨b_, q1, q2⟩
      ·exact (R7o.out.at_ (q ▸ hk)).1
      ·rw [q1] at hk; injection hk with hk; have := ZZ.out; omega, Kd.R_lt HO7.out k hk⟩))
     refine hK.out _ _ ⟨(blk_cell P3.out 1).trans rfl, trivial⟩ (fun hHeld => ?_)
     clear hK K hHeld
     refine norm_ (a' := ?_) ?_ ?_
     rotate_left
     ·show Act.put _ (some 80) _ = _
      simp only [Act.put, List.setIfInBounds_toArray, List.set_cons_zero, List.set_cons_succ, i64_w, i32_w]
      rfl
     refine pu_ 6 (some 81) (bt_ 8 127) (by kernel_rfl) ?_
     refine last_ (i := 7) (N := none) (bt_ 8 255) rfl rfl (by kernel_rfl) (by decide) (fun K hK => ?_)
     have hb0 := (blk_cell P3.out 0).trans (show _ = some (.int .i64 s) from rfl)
     have hbf0 := blk_frozen P3.out 0
     have hb1 := (blk_cell P3.out 1).trans (show _ = some (.slice A1 l1.length c1) from rfl)
     have hbf1 := blk_frozen P3.out 1
     have hb2 := (blk_cell P3.out 2).trans (show _ = some (.slice A2 l2.length c2) from rfl)
     have hbf2 := blk_frozen P3.out 2
     refine skip_ (w1 := w7.setCell ⟨b3, 1, none⟩ (.slice An ln.length cn)) (by rfl) rfl (by first | (go_simp; done) | (go_simp; rfl)) ?_
     clear hb0 hbf0 hb1 hbf1 hb2 hbf2
     have NE_ : g ≠ b3 := (by have := ZZ.out; omega)
     have P2 := Aside0.mk (blk_far (p := ⟨b3, 1, none⟩) P2.out (show w.heap.size ≠ b3 by have := ZZ.out; omega) (.slice An ln.length cn))
     have P3 := Aside0.mk (blk_put (cs' := #[.int .i64 s, .slice An ln.length cn, .slice A2 l2.length c2]) P3.out 1 (.slice An ln.length cn) rfl)
     have R1 := Aside0.mk (Rw.cell (b := b3) (j := 1) (u := .slice An ln.length cn) R1.out (by have := ZZ.out; omega))
     have R2 := Aside0.mk (Rw.cell (b := b3) (j := 1) (u := .slice An ln.length cn) R2.out (by have := ZZ.out; omega))
     have HB := Aside0.mk (below_set (g := b3) (j := 1) (v := .slice An ln.length cn) HB.out (show w0.heap.size ≤ b3 by have := ZZ.out; omega))
     have I := Aside0.mk (IsS87.far (p := ⟨b3, 1, none⟩) I.out NE_ (.slice An ln.length cn))
     clear NE_
     have HK := Aside0.mk (keep_setCell HK.out (show w.heap.size ≤ b3 by have := ZZ.out; omega) 1 (.slice An ln.length cn))
     have ZZ := Aside0.mk (And.intro ZZ.out (show w7.heap.size ≤ (w7.setCell ⟨b3, 1, none⟩ (.slice An ln.length cn)).heap.size by simp))
     generalize w7.setCell ⟨b3, 1, none⟩ (.slice An ln.length cn) = W33 at P2 P3 R1 R2 HB I HK ZZ ⊢
     refine hK.out _ _ ?_
     clear hK K
     refine done_ (by kernel_rfl) ?_
     go_wp2_with (first | ((with_reducible refine gate_dst (N := 112) rfl ?_); refine wpList_load_row rfl 29 (.tmp 3) rfl b3 rfl 29 #[.int .i64 s, .slice An ln.length cn, .slice A2 l2.length c2] (0, 0) _ P3.out hu29 rfl (by kernel_rfl) ?_) | ((with_reducible refine gate_store (t := 29) (p := 2) rfl ?_); refine wpList_store_row rfl 29 (.tmp 2) (.tmp 112) rfl w.heap.size #[.int .i64 s, .slice An ln.length cn, .slice A2 l2.length c2] rfl rfl 29 #[.int .i64 0, .slice none 0 0, .slice none 0 0] P2.out (by kernel_rfl) rfl (by simp [Value.oneCell']) ?_; refine Aside0.out ?_))
     have NE_ : g ≠ w.heap.size := (by have := ZZ.out; omega)
     obtain ⟨W34, e_⟩ : ∃ X, X = W33.setRow w.heap.size #[.int .i64 s, .slice An ln.length cn, .slice A2 l2.length c2] := ⟨_, rfl⟩
     rw [← e_]
     have P3 := kbs P3 e_ (by have := ZZ.out; omega)
     have R1 := kws R1 e_ (by have := ZZ.out; omega)
     have R2 := kws R2 e_ (by have := ZZ.out; omega)
     have P2 := kps P2 e_
     have HB := khs HB e_ (by have := ZZ.out; omega)
     have I := kis I e_ NE_
     clear NE_
     have HK := kks HK e_ (by have := ZZ.out; omega)
     have ZZ := Aside0.mk (And.intro ZZ.out (kzs e_))
     clear e_
     refine Aside0.mk ?_
     iterate 12 (try go_step)
     refine bodyPost_ret (results_cell_row rfl _ _ w.heap.size 29 #[.int .i64 s, .slice An ln.length cn, .slice A2 l2.length c2] (0, 0) _ rfl P2.out hu29 rfl (by kernel_rfl)) rfl ?_
     exact ⟨s, ln, l2, .slice An ln.length cn, .slice A2 l2.length c2, _, rfl, Rw.own_ R1.out (fun k hk e => SEPn.out k hk e.symm), Rw.own_ R2.out (fun k hk e => SEPn.out k e.symm hk), (by have := HL.out; have := HLn.out; omega), I.out, (by have := HQ.out; omega), HB.out, HK.out⟩
    ·have d1a : (t == 1) = false := beq_eq_false_iff_ne.mpr d1
     clear d1
     by_cases d2 : t = 2
     ·have d2a : (t == 2) = true := beq_iff_eq.mpr d2
      clear d2
      go_wp2_with (fail)
      have P2 := kbd P2
      have P3 := kbd P3
      have R1 := kwd R1
      have R2 := kwd R2
      have HB := khd HB
      have I := kid I
      have HK := kkd HK
      have ZZ := Aside0.mk (And.intro ZZ.out (show W26.heap.size ≤ (W26.drew).heap.size from Nat.le_refl _))
      have HSS := (show (W26.drew).cell? ⟨b3, 2, none⟩ = some (.slice A2 l2.length c2) ∧ True from ⟨(blk_cell P3.out 2).trans rfl, trivial⟩)
      refine start_ (n := 8) (S := fun w' => w'.cell? ⟨b3, 2, none⟩ = some (.slice A2 l2.length c2) ∧ True) (ds := [7]) (bt_ 8 0) (by kernel_rfl) rfl rfl HSS (fun hHeld => ?_)
      clear HSS
      generalize W26.drew = W35 at P2 P3 R1 R2 HB I HK ZZ hHeld ⊢
      refine pu_ 0 (some 84) (bt_ 8 1) (by kernel_rfl) ?_
      refine tk_ 1 (some 85) (bt_ 8 3) (by kernel_rfl) hHeld ?_
      clear hHeld
      refine pu_ 2 (some 86) (bt_ 8 7) (by kernel_rfl) ?_
      refine one_ (i := 3) (N := some 87) (bt_ 8 15) rfl rfl (by kernel_rfl) (by decide) (fun K hK => ?_)
      refine goes_ Try.func66 (by kernel_rfl) rfl #[.pointer (some ⟨g, 0, none⟩)] (by rfl) rfl rfl (by simp only [List.map_toArray, List.map_cons, List.map_nil]; rfl) ?_
      refine (holdW g b _ w0 W35 I.out HB.out HBY.out (by have := HQ.out; omega) (by have := HQ.out; omega)).mono ?_
      rintro e W36 ⟨x, hx9, rfl, hi, hb, hk⟩
      have HX9 := Aside0.mk hx9
      clear hx9
      refine ⟨_, rfl, ?_⟩
      have ZZ := Aside0.mk (And.intro ZZ.out (hk.1))
      have P2 := kbI P2 I hk
      have P3 := kbI P3 I hk
      have R1 := kwI R1 I hk
      have R2 := kwI R2 I hk
      have HK := kkI HK hk
      have HB := Aside0.mk hb
      have I := Aside0.mk hi
      clear hi hb hk
      refine hK.out _ _ ⟨(blk_cell P3.out 2).trans rfl, trivial⟩ (fun hHeld => ?_)
      clear hK K
      refine norm_ (a' := ?_) ?_ ?_
      rotate_left
      ·show Act.put _ (some 87) _ = _
       simp only [Act.put, List.setIfInBounds_toArray, List.set_cons_zero, List.set_cons_succ, i64_w, i32_w]
       rfl
      clear hHeld
      refine one_ (i := 4) (N := some 88) (bt_ 8 31) rfl rfl (by kernel_rfl) (by decide) (fun K hK => ?_)
      refine event_step (v := .slice (some ⟨W36.heap.size, 0, none⟩) 1 1) (w1 := W36.alloc (.cells #[.int .i64 x.f0, .int .i64 x.f1, .bool x.f2, .bool x.f3] 45)) rfl (by first | (go_simp; done) | (go_simp; rfl)) ?_
      refine hK.out _ _ ⟨(blk_cell (blk_alloc P3.out _) 2).trans rfl, trivial⟩ (fun hHeld => ?_)
      clear hK K hHeld
      refine norm_ (a' := ?_) ?_ ?_
      rotate_left
      ·show Act.put _ (some 88) _ = _
       simp only [Act.put, List.setIfInBounds_toArray, List.set_cons_zero, List.set_cons_succ, i64_w, i32_w]
       rfl
      refine one_ (i := 5) (N := some 89) (bt_ 8 63) rfl rfl (by kernel_rfl) (by decide) (fun K hK => ?_)
      have R7o := R2
      refine Kd.R_append_step k45 (w0 := W36) w.heap.size rfl (.tmp 85) (.tmp 88) 27 45 (.agg #[.int .i64 0, .int .i64 0, .bool false, .bool false]) 24 rfl Try.underlying27 info45 rfl (by decide) (by omega) (.slice A2 l2.length c2) l2 x [.int .i64 x.f0, .int .i64 x.f1, .bool x.f2, .bool x.f3] (fun _ => True) (fun _ => False) rfl rfl ?aP (fun _ hk => hk.elim) (fun k hk => trivial) (Kd.R_mono R2.out (fun k hk => trivial)) (Below.refl _ _) (by show w.heap.size ≤ W36.heap.size; have := ZZ.out; omega) (by have := HL.out; omega) ?_
      case aP => exact k45_mkM _ _ _ x
      intro v1 w7 ho hb7 hg hat
      obtain ⟨An, cn, e0⟩ := Kd.R_slice ho
      subst e0
      generalize hL_ : l2 ++ [x] = ln at ho hat ⊢
      have HLn : Aside0 (ln.length = l2.length + 1) := ⟨by rw [← hL_]; simp⟩
      clear hL_
      have HO7 := Aside0.mk ho
      have HG7 := Aside0.mk hg
      have HT7 := Aside0.mk hat
      have HB7 := Aside0.mk hb7
      clear ho hb7 hg hat
      have P2 := Aside0.mk ((HG7.out.block w.heap.size (blk_lt P2.out) (fun e => by have := R2.out.at_ e.symm; have := ZZ.out; omega)).trans P2.out)
      have P3 := Aside0.mk ((HG7.out.block b3 (blk_lt P3.out) (fun e => by have := R2.out.at_ e.symm; have := ZZ.out; omega)).trans P3.out)
      have ZZ := Aside0.mk (And.intro ZZ.out (HG7.out.size))
      have ON7 := Aside0.mk (show ∀ k, k < W36.heap.size → (.slice A2 l2.length c2 : Value).ownBlock ≠ some k → (Value.slice An ln.length cn).ownBlock ≠ some k from fun k hk hn e => by
       rcases HT7.out with q | ⟨b_, q1, q2⟩
       ·exact hn (q ▸ e)
       ·rw [q1] at e; injection e with e; omega)
      have SEPn := Aside0.mk (show ∀ k, (.slice A1 l1.length c1 : Value).ownBlock = some k → (Value.slice An ln.length cn).ownBlock ≠ some k from fun k hk e => ON7.out k (R1.out.lt hk) (SEP.out k hk) e)
      have R1 := Aside0.mk (Rw.grown R1.out HG7.out (fun k hk e => SEP.out k hk e))
      have I := Aside0.mk (IsS87.grown I.out HG7.out (fun e => by have := R2.out.at_ e.symm; have := ZZ.out; omega))
      have HK := Aside0.mk (KeepBut.trans HK.out (KeepBut.of_grown HG7.out g) (by
       cases hq_ : (.slice A2 l2.length c2 : Value).ownBlock with
       | none => exact .inl rfl
       | some k_ => exact .inr ⟨k_, rfl, by have := R2.out.at_ hq_; have := ZZ.out; omega⟩))
      have HB := Aside0.mk (below_weaken HB.out (by show w0.heap.size ≤ w.heap.size; exact LE.out) HB7.out)
      have R2 := Aside0.mk (show Rw w.heap.size w7 w.heap.size w7.heap.size (.slice An ln.length cn) ln from Rw.own_ HO7.out (fun k hk => ⟨hk, ((Kd.R_bound HO7.out).1 k hk).2.1, Kd.R_lt HO7.out k hk⟩))
      have R2 := Aside0.mk (show Rw w.heap.size w7 (b3 + 1) w7.heap.size (.slice An ln.length cn) ln from Rw.own_ R2.out (fun k hk => ⟨hk, by
       rcases HT7.out with q | ⟨b_, q1, q2⟩
       ·exact (R7o.out.at_ (q ▸ hk)).1
       ·rw [q1] at hk; injection hk with hk; have := ZZ.out; omega, Kd.R_lt HO7.out k hk⟩))
      refine hK.out _ _ ⟨(blk_cell P3.out 2).trans rfl, trivial⟩ (fun hHeld => ?_)
      clear hK K hHeld
      refine norm_ (a' := ?_) ?_ ?_
      rotate_left
      ·show Act.put _ (some 89) _ = _
       simp only [Act.put, List.setIfInBounds_toArray, List.set_cons_zero, List.set_cons_succ, i64_w, i32_w]
       rfl
      refine pu_ 6 (some 90) (bt_ 8 127) (by kernel_rfl) ?_
      refine last_ (i := 7) (N := none) (bt_ 8 255) rfl rfl (by kernel_rfl) (by decide) (fun K hK => ?_)
      have hb0 := (blk_cell P3.out 0).trans (show _ = some (.int .i64 s) from rfl)
      have hbf0 := blk_frozen P3.out 0
      have hb1 := (blk_cell P3.out 1).trans (show _ = some (.slice A1 l1.length c1) from rfl)
      have hbf1 := blk_frozen P3.out 1
      have hb2 := (blk_cell P3.out 2).trans (show _ = some (.slice A2 l2.length c2) from rfl)
      have hbf2 := blk_frozen P3.out 2
      refine skip_ (w1 := w7.setCell ⟨b3, 2, none⟩ (.slice An ln.length cn)) (by rfl) rfl (by first | (go_simp; done) | (go_simp; rfl)) ?_
      clear hb0 hbf0 hb1 hbf1 hb2 hbf2
      have NE_ : g ≠ b3 := (by have := ZZ.out; omega)
      have P2 := Aside0.mk (blk_far (p := ⟨b3, 2, none⟩) P2.out (show w.heap.size ≠ b3 by have := ZZ.out; omega) (.slice An ln.length cn))
      have P3 := Aside0.mk (blk_put (cs' := #[.int .i64 s, .slice A1 l1.length c1, .slice An ln.length cn]) P3.out 2 (.slice An ln.length cn) rfl)
      have R1 := Aside0.mk (Rw.cell (b := b3) (j := 2) (u := .slice An ln.length cn) R1.out (by have := ZZ.out; omega))
      have R2 := Aside0.mk (Rw.cell (b := b3) (j := 2) (u := .slice An ln.length cn) R2.out (by have := ZZ.out; omega))
      have HB := Aside0.mk (below_set (g := b3) (j := 2) (v := .slice An ln.length cn) HB.out (show w0.heap.size ≤ b3 by have := ZZ.out; omega))
      have I := Aside0.mk (IsS87.far (p := ⟨b3, 2, none⟩) I.out NE_ (.slice An ln.length cn))
      clear NE_
      have HK := Aside0.mk (keep_setCell HK.out (show w.heap.size ≤ b3 by have := ZZ.out; omega) 2 (.slice An ln.length cn))
      have ZZ := Aside0.mk (And.intro ZZ.out (show w7.heap.size ≤ (w7.setCell ⟨b3, 2, none⟩ (.slice An ln.length cn)).heap.size by simp))
      generalize w7.setCell ⟨b3, 2, none⟩ (.slice An ln.length cn) = W37 at P2 P3 R1 R2 HB I HK ZZ ⊢
      refine hK.out _ _ ?_
      clear hK K
      refine done_ (by kernel_rfl) ?_
      go_wp2_with (first | ((with_reducible refine gate_dst (N := 112) rfl ?_); refine wpList_load_row rfl 29 (.tmp 3) rfl b3 rfl 29 #[.int .i64 s, .slice A1 l1.length c1, .slice An ln.length cn] (0, 0) _ P3.out hu29 rfl (by kernel_rfl) ?_) | ((with_reducible refine gate_store (t := 29) (p := 2) rfl ?_); refine wpList_store_row rfl 29 (.tmp 2) (.tmp 112) rfl w.heap.size #[.int .i64 s, .slice A1 l1.length c1, .slice An ln.length cn] rfl rfl 29 #[.int .i64 0, .slice none 0 0, .slice none 0 0] P2.out (by kernel_rfl) rfl (by simp [Value.oneCell']) ?_; refine Aside0.out ?_))
      have NE_ : g ≠ w.heap.size := (by have := ZZ.out; omega)
      obtain ⟨W38, e_⟩ : ∃ X, X = W37.setRow w.heap.size #[.int .i64 s, .slice A1 l1.length c1, .slice An ln.length cn] := ⟨_, rfl⟩
      rw [← e_]
      have P3 := kbs P3 e_ (by have := ZZ.out; omega)
      have R1 := kws R1 e_ (by have := ZZ.out; omega)
      have R2 := kws R2 e_ (by have := ZZ.out; omega)
      have P2 := kps P2 e_
      have HB := khs HB e_ (by have := ZZ.out; omega)
      have I := kis I e_ NE_
      clear NE_
      have HK := kks HK e_ (by have := ZZ.out; omega)
      have ZZ := Aside0.mk (And.intro ZZ.out (kzs e_))
      clear e_
      refine Aside0.mk ?_
      iterate 12 (try go_step)
      refine bodyPost_ret (results_cell_row rfl _ _ w.heap.size 29 #[.int .i64 s, .slice A1 l1.length c1, .slice An ln.length cn] (0, 0) _ rfl P2.out hu29 rfl (by kernel_rfl)) rfl ?_
      exact ⟨s, l1, ln, .slice A1 l1.length c1, .slice An ln.length cn, _, rfl, Rw.own_ R1.out (fun k hk e => SEPn.out k hk e.symm), Rw.own_ R2.out (fun k hk e => SEPn.out k e.symm hk), (by have := HL.out; have := HLn.out; omega), I.out, (by have := HQ.out; omega), HB.out, HK.out⟩
     ·have d2a : (t == 2) = false := beq_eq_false_iff_ne.mpr d2
      clear d2
      by_cases d3 : t = 3
      ·have d3a : (t == 3) = true := beq_iff_eq.mpr d3
       clear d3
       go_wp2_with (fail)
       go_loopw [6] (fun i wz => ∃ (n : Nat) (qn : Int) (l3 : List S45) (A3 : Option Addr) (c3 : Nat), i = .int .i64 (n : Int) ∧ Aside0 (n ≤ 20) ∧ Aside0 (0 ≤ qn ∧ qn ≤ 2100 + n) ∧ Aside0 (wz.heap[b3]? = some (.cells #[.int .i64 s, .slice A1 l1.length c1, .slice A3 l3.length c3] 29 (0, 0))) ∧ Aside0 (Rw w.heap.size wz (b3 + 1) wz.heap.size (.slice A1 l1.length c1) l1) ∧ Aside0 (Rw w.heap.size wz (b3 + 1) wz.heap.size (.slice A3 l3.length c3) l3) ∧ Aside0 (∀ k, (.slice A1 l1.length c1 : Value).ownBlock = some k → (Value.slice A3 l3.length c3).ownBlock ≠ some k) ∧ Aside0 (l3.length ≤ 40 + n) ∧ Aside0 (IsS87 w0 wz g b qn) ∧ Aside0 (Below w0.heap.size w0 wz) ∧ Aside0 (KeepBut w wz g none) ∧ Aside0 (wz.heap[w.heap.size]? = some (.cells #[.int .i64 0, .slice none 0 0, .slice none 0 0] 29 (0, 0)))) (fun i _ => 20 - (intOf i).toNat)
       case atStart => exact ⟨0, _, l2, A2, c2, rfl, ⟨by omega⟩, ⟨by have := HQ.out; omega⟩, P3, ⟨Rw.now R1.out⟩, ⟨Rw.now R2.out⟩, SEP, ⟨by have := HL.out; omega⟩, I, HB, HK, P2⟩
       case round =>
        have HL1 := Aside0.mk HL.out.1
        repeat clear P2
        repeat clear P3
        repeat clear I
        repeat clear HB
        repeat clear HK
        repeat clear HQ
        repeat clear HQ0
        repeat clear R1
        repeat clear R2
        repeat clear SEP
        repeat clear HL
        obtain ⟨n, qn, l2, A2, c2, rfl, HN, HQ0, P3, R1, R2, SEP, HL2, I, HB, HK, P2⟩ := hrel
        have HL : Aside0 (l1.length ≤ 40 ∧ l2.length ≤ 60) := ⟨by have := HL1.out; have := HL2.out; have := HN.out; omega⟩
        have HQ : Aside0 (0 ≤ qn ∧ qn ≤ 3000) := ⟨by have := HQ0.out; have := HN.out; omega⟩
        have ZZ := Aside0.mk (And.intro ZB.out (blk_lt P3.out))
        go_wp2_with (fail)
        have P2 := kbd P2
        have P3 := kbd P3
        have R1 := kwd R1
        have R2 := kwd R2
        have HB := khd HB
        have I := kid I
        have HK := kkd HK
        have ZZ := Aside0.mk (And.intro ZZ.out (show wr.heap.size ≤ (wr.drew).heap.size from Nat.le_refl _))
        have HSS := (show (wr.drew).cell? ⟨b3, 1, none⟩ = some (.slice A1 l1.length c1) ∧ True from ⟨(blk_cell P3.out 1).trans rfl, trivial⟩)
        refine start_ (n := 9) (S := fun w' => w'.cell? ⟨b3, 1, none⟩ = some (.slice A1 l1.length c1) ∧ True) (ds := []) (bt_ 9 0) (by kernel_rfl) rfl rfl HSS (fun hHeld => ?_)
        clear HSS
        generalize wr.drew = W39 at P2 P3 R1 R2 HB I HK ZZ hHeld ⊢
        refine pu_ 0 (some 93) (bt_ 9 1) (by kernel_rfl) ?_
        refine pu_ 1 (some 94) (bt_ 9 3) (by kernel_rfl) ?_
        refine pu_ 4 (some 97) (bt_ 9 19) (by kernel_rfl) ?_
        refine tk_ 5 (some 98) (bt_ 9 51) (by kernel_rfl) hHeld ?_
        clear hHeld
        refine pu_ 6 (some 99) (bt_ 9 115) (by kernel_rfl) ?_
        refine one_ (i := 2) (N := some 95) (bt_ 9 119) rfl rfl (by kernel_rfl) (by decide) (fun K hK => ?_)
        refine goes_ Try.func67 (by kernel_rfl) rfl #[.pointer (some ⟨g, 0, none⟩), .int .i64 2] (by rfl) rfl rfl (by simp only [List.map_toArray, List.map_cons, List.map_nil]; rfl) ?_
        refine (pickW g b _ 2 w0 W39 I.out HB.out HBY.out (by have := HQ.out; omega) (by have := HQ.out; omega) (by omega) (by omega)).mono ?_
        rintro e W40 ⟨tq, ht0_, ht1_, rfl, hi, hb, hk⟩
        refine ⟨_, rfl, ?_⟩
        have Ttq := Aside0.mk (And.intro ht0_ ht1_)
        clear ht0_ ht1_
        have ZZ := Aside0.mk (And.intro ZZ.out (hk.1))
        have P2 := kbI P2 I hk
        have P3 := kbI P3 I hk
        have R1 := kwI R1 I hk
        have R2 := kwI R2 I hk
        have HK := kkI HK hk
        have HB := Aside0.mk hb
        have I := Aside0.mk hi
        clear hi hb hk
        refine hK.out _ _ ⟨(blk_cell P3.out 1).trans rfl, trivial⟩ (fun hHeld => ?_)
        clear hK K
        refine norm_ (a' := ?_) ?_ ?_
        rotate_left
        ·show Act.put _ (some 95) _ = _
         simp only [Act.put, List.setIfInBounds_toArray, List.set_cons_zero, List.set_cons_succ, i64_w, i32_w]
         rfl
        clear hHeld
        have hw1 : wrap64 (16 + tq) = 16 + tq := by unfold wrap64; have := Ttq.out; omega
        have hw2 : wrap64 (16 + tq - (l1.length : Int)) = 16 + tq - (l1.length : Int) := by unfold wrap64; have := Ttq.out; have := HL.out; omega
        refine pu_ 3 (some 96) (bt_ 9 127) (by kernel_rfl) ?_
        refine pu_ 7 (some 100) (bt_ 9 255) (by kernel_rfl) ?_
        refine pu_ 8 (some 101) (bt_ 9 511) (by kernel_rfl) ?_
        clear hw1 hw2
        refine done_ (by kernel_rfl) ?_
        by_cases hlt : (n : Int) < 16 + tq - (l1.length : Int)
        ·have hdl : decide ((n : Int) < 16 + tq - (l1.length : Int)) = true := decide_eq_true hlt
         rw [hdl]
         clear hdl
         have HLT : Aside0 (n ≤ 17) := ⟨by have := Ttq.out; omega⟩
         clear hlt
         have hw3 : wrap64 (20 + (n : Int)) = 20 + (n : Int) := by unfold wrap64; have := HN.out; omega
         have hw4 : wrap64 ((n : Int) + 1) = (n : Int) + 1 := by unfold wrap64; have := HN.out; omega
         have R7o := R2
         have hb2 := (blk_cell P3.out 2).trans (show _ = some (.slice A2 l2.length c2) from rfl)
         go_wp2_with (((with_reducible refine gate_builtin (b := .append) (xs := #[.tmp 105, .tmp 109]) rfl ?_); at_builtin; (refine Kd.R_append k45 (w0 := W40) w.heap.size rfl (.tmp 105) (.tmp 109) 27 45 (.agg #[.int .i64 0, .int .i64 0, .bool false, .bool false]) 24 rfl Try.underlying27 info45 rfl (by decide) (by omega) (.slice A2 l2.length c2) l2 (⟨20 + (n : Int), 1, false, false⟩ : S45) [.int .i64 (20 + (n : Int)), .int .i64 1, .bool false, .bool false] (fun _ => True) (fun _ => False) rfl rfl ?aP (fun _ hk => hk.elim) ?aF ?aO ?aB ?aS ?aL ?_; (case aP => exact k45_mkM _ _ _ (⟨20 + (n : Int), 1, false, false⟩ : S45)); (case aF => exact fun k hk => trivial); (case aO => exact Kd.R_mono R2.out (fun k hk => trivial)); (case aB => exact Below.refl _ _); (case aS => show w.heap.size ≤ W40.heap.size; have := ZZ.out; omega); (case aL => have := HL.out; omega); intro v1 w7 ho hb7 hg hat; obtain ⟨An, cn, e0⟩ := Kd.R_slice ho; subst e0; generalize hL_ : l2 ++ [(⟨20 + (n : Int), 1, false, false⟩ : S45)] = ln at ho hat ⊢; have HLn : Aside0 (ln.length = l2.length + 1) := ⟨by rw [← hL_]; simp⟩; clear hL_; have HO7 := Aside0.mk ho; have HG7 := Aside0.mk hg; have HT7 := Aside0.mk hat; have HB7 := Aside0.mk hb7; clear ho hb7 hg hat; refine Aside0.out ?_)))
         clear hb2
         have P2 := Aside0.mk ((HG7.out.block w.heap.size (blk_lt P2.out) (fun e => by have := R2.out.at_ e.symm; have := ZZ.out; omega)).trans P2.out)
         have P3 := Aside0.mk ((HG7.out.block b3 (blk_lt P3.out) (fun e => by have := R2.out.at_ e.symm; have := ZZ.out; omega)).trans P3.out)
         have ZZ := Aside0.mk (And.intro ZZ.out (HG7.out.size))
         have ON7 := Aside0.mk (show ∀ k, k < W40.heap.size → (.slice A2 l2.length c2 : Value).ownBlock ≠ some k → (Value.slice An ln.length cn).ownBlock ≠ some k from fun k hk hn e => by
          rcases HT7.out with q | ⟨b_, q1, q2⟩
          ·exact hn (q ▸ e)
          ·rw [q1] at e; injection e with e; omega)
         have SEPn := Aside0.mk (show ∀ k, (.slice A1 l1.length c1 : Value).ownBlock = some k → (Value.slice An ln.length cn).ownBlock ≠ some k from fun k hk e => ON7.out k (R1.out.lt hk) (SEP.out k hk) e)
         have R1 := Aside0.mk (Rw.grown R1.out HG7.out (fun k hk e => SEP.out k hk e))
         have I := Aside0.mk (IsS87.grown I.out HG7.out (fun e => by have := R2.out.at_ e.symm; have := ZZ.out; omega))
         have HK := Aside0.mk (KeepBut.trans HK.out (KeepBut.of_grown HG7.out g) (by
          cases hq_ : (.slice A2 l2.length c2 : Value).ownBlock with
          | none => exact .inl rfl
          | some k_ => exact .inr ⟨k_, rfl, by have := R2.out.at_ hq_; have := ZZ.out; omega⟩))
         have HB := Aside0.mk (below_weaken HB.out (by show w0.heap.size ≤ w.heap.size; exact LE.out) HB7.out)
         have R2 := Aside0.mk (show Rw w.heap.size w7 w.heap.size w7.heap.size (.slice An ln.length cn) ln from Rw.own_ HO7.out (fun k hk => ⟨hk, ((Kd.R_bound HO7.out).1 k hk).2.1, Kd.R_lt HO7.out k hk⟩))
         have R2 := Aside0.mk (show Rw w.heap.size w7 (b3 + 1) w7.heap.size (.slice An ln.length cn) ln from Rw.own_ R2.out (fun k hk => ⟨hk, by
          rcases HT7.out with q | ⟨b_, q1, q2⟩
          ·exact (R7o.out.at_ (q ▸ hk)).1
          ·rw [q1] at hk; injection hk with hk; have := ZZ.out; omega, Kd.R_lt HO7.out k hk⟩))
         refine Aside0.mk ?_
         have hb0 := (blk_cell P3.out 0).trans (show _ = some (.int .i64 s) from rfl)
         have hbf0 := blk_frozen P3.out 0
         have hb1 := (blk_cell P3.out 1).trans (show _ = some (.slice A1 l1.length c1) from rfl)
         have hbf1 := blk_frozen P3.out 1
         have hb2 := (blk_cell P3.out 2).trans (show _ = some (.slice A2 l2.length c2) from rfl)
         have hbf2 := blk_frozen P3.out 2
         have NE_ : g ≠ b3 := (by have := ZZ.out; omega)
         have P2 := Aside0.mk (blk_far (p := ⟨b3, 2, none⟩) P2.out (show w.heap.size ≠ b3 by have := ZZ.out; omega) (.slice An ln.length cn))
         have P3 := Aside0.mk (blk_put (cs' := #[.int .i64 s, .slice A1 l1.length c1, .slice An ln.length cn]) P3.out 2 (.slice An ln.length cn) rfl)
         have R1 := Aside0.mk (Rw.cell (b := b3) (j := 2) (u := .slice An ln.length cn) R1.out (by have := ZZ.out; omega))
         have R2 := Aside0.mk (Rw.cell (b := b3) (j := 2) (u := .slice An ln.length cn) R2.out (by have := ZZ.out; omega))
         have HB := Aside0.mk (below_set (g := b3) (j := 2) (v := .slice An ln.length cn) HB.out (show w0.heap.size ≤ b3 by have := ZZ.out; omega))
         have I := Aside0.mk (IsS87.far (p := ⟨b3, 2, none⟩) I.out NE_ (.slice An ln.length cn))
         clear NE_
         have HK := Aside0.mk (keep_setCell HK.out (show w.heap.size ≤ b3 by have := ZZ.out; omega) 2 (.slice An ln.length cn))
         have ZZ := Aside0.mk (And.intro ZZ.out (show w7.heap.size ≤ (w7.setCell ⟨b3, 2, none⟩ (.slice An ln.length cn)).heap.size by simp))
         go_wp2_with (fail)
         clear hb0 hbf0 hb1 hbf1 hb2 hbf2
         try (go_wp2_with (fail))
         go_roundw
         case rel =>
          exact ⟨n + 1, _, ln, An, cn, (by first | rfl | exact congrArg (Value.int .i64) (by omega)), ⟨by have := HLT.out; omega⟩, ⟨by have := HQ0.out; omega⟩, P3, ⟨Rw.wide (Rw.now R1.out) (Nat.le_refl _) (Nat.le_refl _)⟩, ⟨Rw.wide (Rw.now R2.out) (Nat.le_refl _) (Nat.le_refl _)⟩, SEPn, ⟨by have := HL2.out; have := HLn.out; omega⟩, I, HB, HK, P2⟩
         case measure =>
          (try rw [hw4])
          show 20 - ((n : Int) + 1).toNat < 20 - (n : Int).toNat
          have := HLT.out
          omega
        ·have hdl : decide ((n : Int) < 16 + tq - (l1.length : Int)) = false := decide_eq_false hlt
         rw [hdl]
         clear hlt hdl
         go_wp2_with (first | ((with_reducible refine gate_dst (N := 112) rfl ?_); refine wpList_load_row rfl 29 (.tmp 3) rfl b3 rfl 29 #[.int .i64 s, .slice A1 l1.length c1, .slice A2 l2.length c2] (0, 0) _ P3.out hu29 rfl (by kernel_rfl) ?_) | ((with_reducible refine gate_store (t := 29) (p := 2) rfl ?_); refine wpList_store_row rfl 29 (.tmp 2) (.tmp 112) rfl w.heap.size #[.int .i64 s, .slice A1 l1.length c1, .slice A2 l2.length c2] rfl rfl 29 #[.int .i64 0, .slice none 0 0, .slice none 0 0] P2.out (by kernel_rfl) rfl (by simp [Value.oneCell']) ?_; refine Aside0.out ?_))
         have NE_ : g ≠ w.heap.size := (by have := ZZ.out; omega)
         obtain ⟨W42, e_⟩ : ∃ X, X = W40.setRow w.heap.size #[.int .i64 s, .slice A1 l1.length c1, .slice A2 l2.length c2] := ⟨_, rfl⟩
         rw [← e_]
         have P3 := kbs P3 e_ (by have := ZZ.out; omega)
         have R1 := kws R1 e_ (by have := ZZ.out; omega)
         have R2 := kws R2 e_ (by have := ZZ.out; omega)
         have P2 := kps P2 e_
         have HB := khs HB e_ (by have := ZZ.out; omega)
         have I := kis I e_ NE_
         clear NE_
         have HK := kks HK e_ (by have := ZZ.out; omega)
         have ZZ := Aside0.mk (And.intro ZZ.out (kzs e_))
         clear e_
         refine Aside0.mk ?_
         iterate 12 (try go_step)
         refine bodyPost_ret (results_cell_row rfl _ _ w.heap.size 29 #[.int .i64 s, .slice A1 l1.length c1, .slice A2 l2.length c2] (0, 0) _ rfl P2.out hu29 rfl (by kernel_rfl)) rfl ?_
         exact ⟨s, l1, l2, .slice A1 l1.length c1, .slice A2 l2.length c2, _, rfl, Rw.own_ R1.out (fun k hk e => SEP.out k hk e.symm), Rw.own_ R2.out (fun k hk e => SEP.out k e.symm hk), (by have := HL.out; omega), I.out, (by have := HQ.out; omega), HB.out, HK.out⟩
      ·have d3a : (t == 3) = false := beq_eq_false_iff_ne.mpr d3
       clear d3
       go_wp2_with (first | ((with_reducible refine gate_dst (N := 112) rfl ?_); refine wpList_load_row rfl 29 (.tmp 3) rfl b3 rfl 29 #[.int .i64 s, .slice A1 l1.length c1, .slice A2 l2.length c2] (0, 0) _ P3.out hu29 rfl (by kernel_rfl) ?_) | ((with_reducible refine gate_store (t := 29) (p := 2) rfl ?_); refine wpList_store_row rfl 29 (.tmp 2) (.tmp 112) rfl w.heap.size #[.int .i64 s, .slice A1 l1.length c1, .slice A2 l2.length c2] rfl rfl 29 #[.int .i64 0, .slice none 0 0, .slice none 0 0] P2.out (by kernel_rfl) rfl (by simp [Value.oneCell']) ?_; refine Aside0.out ?_))
       have NE_ : g ≠ w.heap.size := (by have := ZZ.out; omega)
       obtain ⟨W43, e_⟩ : ∃ X, X = W26.setRow w.heap.size #[.int .i64 s, .slice A1 l1.length c1, .slice A2 l2.length c2] := ⟨_, rfl⟩
       rw [← e_]
       have P3 := kbs P3 e_ (by have := ZZ.out; omega)
       have R1 := kws R1 e_ (by have := ZZ.out; omega)
       have R2 := kws R2 e_ (by have := ZZ.out; omega)
       have P2 := kps P2 e_
       have HB := khs HB e_ (by have := ZZ.out; omega)
       have I := kis I e_ NE_
       clear NE_
       have HK := kks HK e_ (by have := ZZ.out; omega)
       have ZZ := Aside0.mk (And.intro ZZ.out (kzs e_))
       clear e_
       refine Aside0.mk ?_
       iterate 12 (try go_step)
       refine bodyPost_ret (results_cell_row rfl _ _ w.heap.size 29 #[.int .i64 s, .slice A1 l1.length c1, .slice A2 l2.length c2] (0, 0) _ rfl P2.out hu29 rfl (by kernel_rfl)) rfl ?_
       exact ⟨s, l1, l2, .slice A1 l1.length c1, .slice A2 l2.length c2, _, rfl, Rw.own_ R1.out (fun k hk e => SEP.out k hk e.symm), Rw.own_ R2.out (fun k hk e => SEP.out k e.symm hk), (by have := HL.out; omega), I.out, (by have := HQ.out; omega), HB.out, HK.out⟩
end Go.Proofs.Ytjldpnhlegbjkaa.PA
