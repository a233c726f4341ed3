/- The reader under way, and what the small draws below a word do. -/
import Derived.Test.YtbjdnfgalopfiaaDrawW
import Derived.Test.YtbjdnfgalopfiaaQ1
import Derived.Test.YtbjdnfgalopfiaaPDx20
import Derived.Test.YtbjdnfgalopfiaaPDx21
import Derived.Test.YtbjdnfgalopfiaaPDx23
import Derived.Test.YtbjdnfgalopfiaaPDx31
import Derived.Test.YtbjdnfgalopfiaaPDx32
import Derived.Test.YtbjdnfgalopfiaaPDx33
import Derived.Deep.Cut
namespace Go.Proofs.Ytbjdnfgalopfiaa.PD
open Go.RowKit Go.Proofs.YtbjdnfgalopfiaaW.PrintWords Go.Proofs.YtbjdnfgalopfiaaW.PrintLast Go.Proofs.YtbjdnfgalopfiaaW.PrintMore Go.Proofs.Ytbjdnfgalopfiaa.PB
attribute [local go_sem] max2_int min2_int max_two min_two max_three min_three max_four min_four
set_option linter.unusedVariables false
set_option linter.unusedSimpArgs false
theorem st_ {P : Program} {ops : Array Oper} {o : Oper} {a : Act} {Q : Exit → Act → World → Prop} {Kc : Act → World → Prop} {W : World} (hw : Region.wanted o (yielded ops a.tmps) = true) (ty : TypeId) (x y : Operand) (ho : o.op = .store ty x y)
 (g : Nat) (cells : Array Value) (hx : a.eval x = .pointer (some ⟨g, 0, none⟩)) (hy : a.eval y = .agg cells) (t : TypeId) (old : Array Value) (hg : W.heap[g]? = some (.cells old t (0, 0))) (hi : (P.info? ty).map (·.size) = some cells.size)
 (hold : old.size = cells.size) (h1 : cells.all (·.oneCell') = true) (h : Kc (a.put o.dst undef) (W.setRow g cells)) : if Region.wanted o (yielded ops a.tmps) = true then Oper.wp P o a W Kc Q else Kc (a.put o.dst undef) W := by
 rw [if_pos hw]
 exact wp_store_row ty x y ho g cells hx hy t old hg hi hold h1 h
theorem ld_ {P : Program} {md : Region.Mode} {ops : Array Oper} {Q : Exit → Act → World → Prop} {S : World → Prop} {ds : List Nat} (i : Nat) (N : Option Tmp) (l' : Array Bool) (b : Nat) (t : TypeId) (x : Operand) (cs : Array Value) (d : TypeDesc) {oi : Oper} {fuel : Nat} {l : Array Bool} {a : Act} {w : World} (hc : takeB md ops ds l l' i = true) (hS : S w)
 (hb : ∀ w, S w → w.heap[b]? = some (.cells cs t (0, 0))) (hu : P.underlying t = some d) (hd : (match d with | .struct _ | .array _ _ => true | _ => false) = true) (hz : (P.info? t).map (·.size) = some cs.size) {a' : Act} (h : wpAnyLast P md ops Q S ds fuel l' a' w)
 (hi : ops[i]? = some oi := by rfl) (hN : oi.dst = N := by rfl) (ho : oi.op = .load t x := by rfl) (hx : a.eval x = .pointer (some ⟨b, 0, none⟩) := by rfl) (hQ : ∀ c a w, Q (.panic c) (a.put oi.dst (.agg cs)) w → Q (.panic c) a w := by exact fun _ _ _ h => h) (hw : Region.wanted oi (yielded ops a.tmps) = true := by rfl)
 (ha : a.put N (.agg cs) = a' := by (simp only [Act.put, List.setIfInBounds_toArray, List.set_cons_zero, List.set_cons_succ, i64_w, i32_w]; rfl)) : wpAnyLast P md ops Q S ds (fuel + 1) l a w :=
 take_ l' hi hN hc hQ (Or.inl ⟨hw, fun w hw' => by
  unfold execOp
  simp only [ho, hx, Instr.loadAt, Instr.sureAddr, Sem.run_bind, Sem.run_pure, Result.andThen_ok, run_loadVar_row w b t t cs (0, 0) d (hb w hw') hu hd hz]⟩) hS ha h
def RdS (w0 w W : World) (g : Nat) (b : List Int) (m : Int) : Prop := BytesOk b ∧ w0.heap.size ≤ w.heap.size ∧ ∃ q, 0 ≤ q ∧ q ≤ m ∧ IsS83 w0 W g b q ∧ Below w0.heap.size w0 W ∧ KeepBut w W g none
theorem keep_setRow {w W : World} {g a : Nat} (h : KeepBut w W g none) (ha : w.heap.size ≤ a) (cs : Array Value) : KeepBut w (W.setRow a cs) g none :=
 ⟨by simpa [World.setRow] using h.1, fun i hi hg hr => (setRow_other W a i cs (by omega)).trans (h.2 i hi hg hr)⟩
theorem keep_setCell {w W : World} {g a : Nat} (h : KeepBut w W g none) (ha : w.heap.size ≤ a) (j : Nat) (u : Value) : KeepBut w (W.setCell ⟨a, j, none⟩ u) g none :=
 ⟨by simpa using h.1, fun i hi hg hr => (heap_setCell_other W ⟨a, j, none⟩ i u (show i ≠ a by omega)).trans (h.2 i hi hg hr)⟩
theorem below_setRow' {B g : Nat} {w0 w : World} (hb : Below B w0 w) (hBg : B ≤ g) (cs : Array Value) : Below B w0 (w.setRow g cs) :=
 hb.trans ⟨rfl, rfl, rfl, by simp [World.setRow], fun k hk => setRow_other w g k cs (by omega)⟩
theorem IsS83.row {w0 W : World} {g a : Nat} {b : List Int} {p : Int} (h : IsS83 w0 W g b p) (hne : g ≠ a) (cs : Array Value) : IsS83 w0 (W.setRow a cs) g b p := by
 obtain ⟨A, c, h1, h2, h3⟩ := h
 exact ⟨A, c, (setRow_other W a g cs hne).trans h1, h2, h3⟩
theorem RdS.start {w0 w : World} {g : Nat} {b : List Int} {q m : Int} (hI : IsS83 w0 w g b q) (hB : Below w0.heap.size w0 w) (hb : BytesOk b) (h0 : 0 ≤ q) (h1 : q ≤ m) : RdS w0 w w g b m := ⟨hb, hB.size, q, h0, h1, hI, hB, KeepBut.refl w g none⟩
theorem RdS.turn {w0 w W W' : World} {g : Nat} {b : List Int} {m q : Int} {n : Int} (h : RdS w0 w W g b m) (h0 : 0 ≤ q) (h1 : q ≤ n) (hI : IsS83 w0 W' g b q) (hB : Below w0.heap.size w0 W') (hk : KeepBut W W' g none) : RdS w0 w W' g b n := by
 obtain ⟨hb, hs, q', _, _, _, _, hk'⟩ := h
 exact ⟨hb, hs, q, h0, h1, hI, hB, hk'.trans hk (.inl rfl)⟩
theorem RdS.pick {w0 w W : World} {g : Nat} {b : List Int} {m : Int} (h : RdS w0 w W g b m) (n : Int) (hm : m ≤ 900000) (h1 : 1 ≤ n) (h2 : n ≤ 900000) :
 Calls Try.prog 58 #[.pointer (some ⟨g, 0, none⟩), .int .i64 n] W fun e W' => ∃ t : Int, 0 ≤ t ∧ t < n ∧ e = .returned (.int .i64 t) ∧ RdS w0 w W' g b (m + 1) ∧ KeepBut W W' g none := by
 obtain ⟨hb, hs, q, h0, hq, hI, hB, hk⟩ := h
 obtain ⟨t, t0, t1, K, e⟩ := pick_ev b q n hb h0 (by omega) h1 (by omega)
 refine (spec_l6Rd_pick.calls K g b q n t (q + 1) w0 W hI hB (e K (Nat.le_refl _))).mono ?_
 rintro e W' ⟨rfl, hi, hb', hk'⟩
 exact ⟨t, t0, t1, rfl, ⟨hb, hs, q + 1, by omega, by omega, hi, hb', hk.trans hk' (.inl rfl)⟩, hk'⟩
theorem RdS.blk {w0 w W W' : World} {g a : Nat} {b : List Int} {m : Int} {cs : Array Value} {t : TypeId} {fr : Nat × Nat} (h : RdS w0 w W g b m) (hk : KeepBut W W' g none) (hb : W.heap[a]? = some (.cells cs t fr)) (ht : t ≠ 83) : W'.heap[a]? = some (.cells cs t fr) := by
 obtain ⟨_, _, q, _, _, hI, _, _⟩ := h
 exact hk.blk hb (Ne.symm (hI.ne_blk hb ht)) (by simp)
theorem RdS.ne {w0 w W : World} {g a : Nat} {b : List Int} {m : Int} {cs : Array Value} {t : TypeId} {fr : Nat × Nat} (h : RdS w0 w W g b m) (hb : W.heap[a]? = some (.cells cs t fr)) (ht : t ≠ 83) : g ≠ a := by
 obtain ⟨_, _, q, _, _, hI, _, _⟩ := h
 exact hI.ne_blk hb ht
theorem RdS.rows {w0 w W W' : World} {g : Nat} {b : List Int} {m : Int} {α : Type} {d : Kd α} {e : Nat} {base : Nat} {ok : Nat → Prop} {v : Value} {xs : List α} (h : RdS w0 w W g b m) (hk : KeepBut W W' g none) (ho : d.R e W base ok v xs) (ht : ∀ q, q ∈ e :: d.E → q ≠ 83) : d.R e W' base ok v xs := by
 obtain ⟨_, _, q, _, _, hI, _, _⟩ := h
 exact Kd.R_mono (Kd.R_keep (IsS83.apart hI ho ht) hk (fun _ h => h.2)) (fun _ h => h.1)
theorem RdS.below {w0 w W W' : World} {g : Nat} {b : List Int} {m : Int} (h : RdS w0 w W g b m) (hb : Below W.heap.size W W') : RdS w0 w W' g b m := by
 obtain ⟨hb', hs, q, h0, hq, hI, hB, hk⟩ := h
 exact ⟨hb', hs, q, h0, hq, hI.below hb, below_then hB hB.size hb, hk.trans (KeepBut.of_below hb g none) (.inl rfl)⟩
theorem RdS.drew {w0 w W : World} {g : Nat} {b : List Int} {m : Int} (h : RdS w0 w W g b m) : RdS w0 w W.drew g b m := h.below (below_drew (Below.refl _ _))
theorem RdS.alloc {w0 w W : World} {g : Nat} {b : List Int} {m : Int} (h : RdS w0 w W g b m) (o : Obj) : RdS w0 w (W.alloc o) g b m := h.below (below_alloc (Below.refl _ _) o)
theorem RdS.set {w0 w W : World} {g a : Nat} {b : List Int} {m : Int} {cs : Array Value} {t : TypeId} {fr : Nat × Nat} (h : RdS w0 w W g b m) (hb : W.heap[a]? = some (.cells cs t fr)) (ht : t ≠ 83) (ha : w.heap.size ≤ a) (j : Nat) (u : Value) : RdS w0 w (W.setCell ⟨a, j, none⟩ u) g b m := by
 obtain ⟨hb', hs, q, h0, hq, hI, hB, hk⟩ := h
 exact ⟨hb', hs, q, h0, hq, hI.far (p := ⟨a, j, none⟩) (hI.ne_blk hb ht) u, below_set hB (Nat.le_trans hs ha), keep_setCell hk ha j u⟩
theorem RdS.row {w0 w W : World} {g a : Nat} {b : List Int} {m : Int} {cs : Array Value} {t : TypeId} {fr : Nat × Nat} (h : RdS w0 w W g b m) (hb : W.heap[a]? = some (.cells cs t fr)) (ht : t ≠ 83) (ha : w.heap.size ≤ a) (us : Array Value) : RdS w0 w (W.setRow a us) g b m := by
 obtain ⟨hb', hs, q, h0, hq, hI, hB, hk⟩ := h
 exact ⟨hb', hs, q, h0, hq, hI.row (hI.ne_blk hb ht) us, below_setRow' hB (Nat.le_trans hs ha) us, keep_setRow hk ha us⟩
theorem RdS.more {w0 w W : World} {g : Nat} {b : List Int} {m n : Int} (h : RdS w0 w W g b m) (hn : m ≤ n) : RdS w0 w W g b n := by
 obtain ⟨hb', hs, q, h0, hq, r⟩ := h
 exact ⟨hb', hs, q, h0, Int.le_trans hq hn, r⟩
/-- A call's box: six cells. -/
def CallAt (W : World) (b : Nat) : Prop := ∃ (m0 m1 m2 : Int) (tx : ByteArray) (m4 m5 : Int), W.heap[b]? = some (.cells #[.int .i64 m0, .int .i64 m1, .int .i64 m2, .string tx, .int .i64 m4, .int .i64 m5] 31 (0, 0)) ∧ tx.size ≤ 1000000
theorem CallAt.of {W W' : World} {b : Nat} (h : CallAt W b) (hk : ∀ o, W.heap[b]? = some o → W'.heap[b]? = some o) : CallAt W' b := by
 obtain ⟨m0, m1, m2, tx, m4, m5, h, ht⟩ := h
 exact ⟨m0, m1, m2, tx, m4, m5, hk _ h, ht⟩
theorem RdS.here {w0 w W : World} {g : Nat} {b : List Int} {m : Int} (h : RdS w0 w W g b m) : RdS w0 W W g b m := by
 obtain ⟨hb', hs, q, h0, hq, hI, hB, hk⟩ := h
 exact ⟨hb', hB.size, q, h0, hq, hI, hB, KeepBut.refl W g none⟩
theorem RdS.then_ {w0 w W W' : World} {g : Nat} {b : List Int} {m n : Int} (h : RdS w0 w W g b m) (k : RdS w0 W W' g b n) : RdS w0 w W' g b n := by
 obtain ⟨hb', hs, _, _, _, _, _, hk⟩ := h
 obtain ⟨_, _, q, h0, hq, hI, hB, hk'⟩ := k
 exact ⟨hb', hs, q, h0, hq, hI, hB, hk.trans hk' (.inl rfl)⟩
theorem RdS.kept {w0 w W : World} {g : Nat} {b : List Int} {m : Int} (h : RdS w0 w W g b m) : KeepBut w W g none := by
 obtain ⟨_, _, _, _, _, _, _, hk⟩ := h
 exact hk
theorem RdS.under {w0 w W : World} {g : Nat} {b : List Int} {m : Int} (h : RdS w0 w W g b m) : Below w0.heap.size w0 W := by
 obtain ⟨_, _, _, _, _, _, hB, _⟩ := h
 exact hB
theorem RdS.cell {w0 w W : World} {g gs : Nat} {b : List Int} {m : Int} {v : Value} (h : RdS w0 w W g b m) (hs : w.cell? ⟨gs, 0, none⟩ = some v) (hn : gs ≠ g) : W.cell? ⟨gs, 0, none⟩ = some v := keep_cell h.kept hs hn
theorem kb {W W' : World} {g : Nat} {o : Obj} (h : Aside0 (W.heap[g]? = some o)) (hb : Below W.heap.size W W') : Aside0 (W'.heap[g]? = some o) := ⟨blk_below h.out hb⟩
theorem kbd {W : World} {g : Nat} {o : Obj} (h : Aside0 (W.heap[g]? = some o)) : Aside0 (W.drew.heap[g]? = some o) := ⟨blk_drew h.out⟩
theorem kbs {W W' : World} {a b : Nat} {o : Obj} {cs : Array Value} (h : Aside0 (W.heap[a]? = some o)) (e : W' = W.setRow b cs) (hn : a ≠ b) : Aside0 (W'.heap[a]? = some o) := ⟨by subst e; exact (setRow_other W b a cs hn).trans h.out⟩
theorem kps {W W' : World} {b : Nat} {t : TypeId} {cs0 cs : Array Value} (h : Aside0 (W.heap[b]? = some (.cells cs0 t (0, 0)))) (e : W' = W.setRow b cs) : Aside0 (W'.heap[b]? = some (.cells cs t (0, 0))) := ⟨by subst e; exact setRow_heap W b _ cs t (0, 0) h.out⟩
theorem kzs {W W' : World} {b : Nat} {cs : Array Value} (e : W' = W.setRow b cs) : W.heap.size ≤ W'.heap.size := by subst e; exact Nat.le_of_eq (size_setRow _ _ _).symm
theorem dealR {w0 w W : World} {g gs : Nat} {b : List Int} {m : Int} (h : RdS w0 w W g b m) (hm : m ≤ 350) (hs : W.cell? ⟨gs, 0, none⟩ = some (.pointer (some ⟨g, 0, none⟩))) (hn : gs ≠ g) :
 Calls Try.prog 69 #[.pointer (some ⟨gs, 0, none⟩)] W fun e W' => ∃ (A : Option Addr) (c : Nat) (z : List S119), e = .returned (.slice A z.length c) ∧ z.length ≤ c ∧ Kd.C k119 W' A z.length z ∧ z.length ≤ 4 ∧ RdS w0 w W' g b (m + 20) ∧ KeepBut W W' g none := by
 obtain ⟨hb, hs', q, h0, hq, hI, hB, hk⟩ := id h
 obtain ⟨z, p', ⟨K, hK⟩, z1, z2, p1, p2⟩ := dealDraw_ev b hb q h0 (by omega)
 refine (dealDraw_calls K g gs b q z p' w0 W hI hB hs hn (hK K (Nat.le_refl _))).mono ?_
 rintro e W' ⟨v, rfl, hr, hi, hb', hk'⟩
 obtain ⟨A, c, rfl, hl, hc⟩ := Kd.R_reads hr
 exact ⟨A, c, z, rfl, hl, hc, by omega, h.turn (by omega) (by omega) hi hb' hk', hk'⟩
theorem slotsR {w0 w W : World} {g : Nat} {b : List Int} {m : Int} (h : RdS w0 w W g b m) (hm : m ≤ 450) :
 Calls Try.prog 59 #[.pointer (some ⟨g, 0, none⟩)] W fun e W' => ∃ (v : Value) (z : List Int), e = .returned v ∧ Kd.R (Kd.int .i64) 3 W' W.heap.size (fun _ => True) v z ∧ z.length ≤ 64 ∧ RdS w0 w W' g b (m + 10) ∧ KeepBut W W' g none := by
 obtain ⟨hb, hs', q, h0, hq, hI, hB, hk⟩ := id h
 obtain ⟨z, p', ⟨K, hK⟩, z1, p1, p2⟩ := slots_ev b q hb h0 (by omega)
 refine (spec_l72Slots.calls K g b q z p' w0 W hI hB (hK K (Nat.le_refl _))).mono ?_
 rintro e W' ⟨v, rfl, hr, hi, hb', hk'⟩
 exact ⟨v, z, rfl, hr, by omega, h.turn (by omega) (by omega) hi hb' hk', hk'⟩
theorem pairsR {w0 w W : World} {g : Nat} {b : List Int} {m : Int} (h : RdS w0 w W g b m) (hm : m ≤ 450) :
 Calls Try.prog 60 #[.pointer (some ⟨g, 0, none⟩)] W fun e W' => ∃ (v : Value) (z : List S68), e = .returned v ∧ Kd.R k68 68 W' W.heap.size (fun _ => True) v z ∧ z.length ≤ 64 ∧ RdS w0 w W' g b (m + 100) ∧ KeepBut W W' g none := by
 obtain ⟨hb, hs', q, h0, hq, hI, hB, hk⟩ := id h
 obtain ⟨z, p', ⟨K, hK⟩, z1, p1, p2⟩ := l72Pairs_ev b q hb h0 (by omega)
 refine (spec_l72Pairs.calls K g b q z p' w0 W hI hB (hK K (Nat.le_refl _))).mono ?_
 rintro e W' ⟨v, rfl, hr, hi, hb', hk'⟩
 exact ⟨v, z, rfl, hr, by omega, h.turn (by omega) (by omega) hi hb' hk', hk'⟩
theorem writeW (A : Option Addr) (c : Nat) (z : List S119) (W : World) (hc : Kd.C k119 W A z.length z) (hl : z.length ≤ c) (hz : z.length ≤ 100) :
 Calls Try.prog 68 #[.slice A z.length c] W fun e W' => ∃ r : ByteArray, e = .returned (.string r) ∧ r.size ≤ 3000 ∧ Below W.heap.size W W' := by
 obtain ⟨r, ⟨K, hK⟩, hr⟩ := write_ev z hz
 refine (spec_DealWrite.calls K A c z r W hc hl (hK K (Nat.le_refl _))).mono ?_
 rintro e W' ⟨rfl, hb⟩
 exact ⟨r, rfl, hr, hb⟩
theorem manyW (n : Int) (h0 : 0 ≤ n) (h1 : n < 128) (W : World) :
 Calls Try.prog 62 #[.string ⟨#[120]⟩, .int .i64 n] W fun e W' => ∃ r : ByteArray, e = .returned (.string r) ∧ r.size ≤ 1000000 ∧ Below W.heap.size W W' := by
 obtain ⟨r, ⟨K, hK⟩, hr⟩ := many_ev n h0 h1
 refine (spec_l6Many.calls K _ n r W (hK K (Nat.le_refl _))).mono ?_
 rintro e W' ⟨rfl, ⟨nd, rfl⟩⟩
 exact ⟨r, rfl, hr, pw_below_drewN (Below.refl _ _) nd⟩
theorem ofR {w0 w W : World} {g : Nat} {b : List Int} {m : Int} (h : RdS w0 w W g b m) (hm : m ≤ 450) (A : Option Addr) (c : Nat) (l : List ByteArray) (hr : Kd.C Kd.string W A l.length l) (hc : l.length ≤ c) (hf : ∀ ad, A = some ad → 0 < l.length → ad.block ≠ g) (hl : 1 ≤ l.length) (hl2 : l.length ≤ 100) (hx : ∀ x ∈ l, x.size ≤ 100) :
 Calls Try.prog 66 #[.pointer (some ⟨g, 0, none⟩), .slice A l.length c] W fun e W' => ∃ r : ByteArray, e = .returned (.string r) ∧ r.size ≤ 100 ∧ RdS w0 w W' g b (m + 1) ∧ KeepBut W W' g none := by
 obtain ⟨hb, hs', q, h0, hq, hI, hB, hk⟩ := id h
 obtain ⟨r, ⟨K, hK⟩, sr⟩ := of_ev b q l hb h0 (by omega) hl hl2 hx
 refine (spec_l6Rd_of.calls K g b q A c l r (q + 1) w0 W hI hB hr hc hf (hK K (Nat.le_refl _))).mono ?_
 rintro e W' ⟨rfl, hi, hb', hk'⟩
 exact ⟨r, rfl, sr, h.turn (by omega) (by omega) hi hb' hk', hk'⟩
theorem RdS.lt {w0 w W : World} {g : Nat} {b : List Int} {m : Int} (h : RdS w0 w W g b m) : g < W.heap.size := by
 obtain ⟨_, _, q, _, _, hI, _, _⟩ := h
 exact hI.lt
theorem ints_at (l : List Int) (u : Int) (h0 : 0 ≤ u) (h1 : u < (l.length : Int)) : ∃ y : Int, ((l.map (Value.int .i64)).toArray)[u.toNat]? = some (.int .i64 y) := by
 refine ⟨l.getD u.toNat 0, ?_⟩
 rw [List.getElem?_toArray, List.getElem?_map, List.getD_eq_getElem?_getD, List.getElem?_eq_getElem (show u.toNat < l.length by omega)]
 rfl
theorem RdS.apart {w0 w W : World} {g : Nat} {b : List Int} {m : Int} {α : Type} {d : Kd α} {e : Nat} {base : Nat} {ok : Nat → Prop} {A : Option Addr} {n c : Nat} {xs : List α} (h : RdS w0 w W g b m) (ho : d.R e W base ok (.slice A n c) xs) (ht : e ≠ 83) : ∀ ad, A = some ad → 0 < xs.length → ad.block ≠ g := by
 obtain ⟨_, _, q, _, _, hI, _, _⟩ := h
 rintro ad rfl _ e1
 exact hI.own_ne ho ht (by rw [← e1]; rfl)
/-- A word's box: seventeen cells, three lists of one's own. -/
def WAt (W : World) (B b : Nat) : Prop := ∃ (n0 n1 n2 n3 n4 n5 : Int) (yes : Bool) (A7 : Option Addr) (c7 : Nat) (A8 : Option Addr) (c8 : Nat) (n9 : Int) (A10 : Option Addr) (c10 : Nat) (m0 m1 m2 : Int) (tx : ByteArray) (m4 m5 : Int) (ls : List Int) (lp : List S68) (lv : List Int),
 W.heap[b]? = some (.cells #[.int .i64 n0, .int .i64 n1, .int .i64 n2, .int .i64 n3, .int .i64 n4, .int .i64 n5, .bool yes, .slice A7 ls.length c7, .slice A8 lp.length c8, .int .i64 n9, .slice A10 lv.length c10, .int .i64 m0, .int .i64 m1, .int .i64 m2, .string tx, .int .i64 m4, .int .i64 m5] 33 (0, 0)) ∧
 Kd.R (Kd.int .i64) 3 W B (fun _ => True) (.slice A7 ls.length c7) ls ∧ Kd.R k68 68 W B (fun _ => True) (.slice A8 lp.length c8) lp ∧ Kd.R (Kd.int .i64) 3 W B (fun _ => True) (.slice A10 lv.length c10) lv ∧ (ls.length ≤ 64 ∧ lp.length ≤ 64 ∧ lv.length ≤ 64)
theorem make_len {n : Nat} {x : Int} (h : n ≤ 64) : (List.replicate n x).length ≤ 64 := by rw [List.length_replicate]; exact h
theorem rows_setRow {α : Type} {d : Kd α} {e : Nat} {w : World} {base : Nat} {ok : Nat → Prop} {v : Value} {xs : List α} {a : Nat} {t : TypeId} {cells : Array Value} (h : d.R e w base ok v xs) (hb : w.heap[a]? = some (.cells cells t (0, 0))) (ht : ∀ q, q ∈ e :: d.E → q ≠ t) (cs : Array Value) : d.R e (w.setRow a cs) base ok v xs :=
 Kd.R_mono (Kd.R_step (Kd.R_types h hb ht) (fun k hk _ => setRow_other _ _ _ _ hk.2)) (fun _ h_ => h_.1)
end Go.Proofs.Ytbjdnfgalopfiaa.PD
