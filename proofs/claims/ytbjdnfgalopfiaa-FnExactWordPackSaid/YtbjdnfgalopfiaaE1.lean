/- A pen: what is written, and (*pen).number. -/
import Derived.Test.YtbjdnfgalopfiaaPEx0
import Derived.Deep.Cut
namespace Go.Proofs.Ytbjdnfgalopfiaa.PE
open Go.RowKit Go.Proofs.YtbjdnfgalopfiaaW.PrintWords Go.Proofs.YtbjdnfgalopfiaaW.PrintLast Go.Proofs.YtbjdnfgalopfiaaW.PrintMore
attribute [local go_sem] max2_int min2_int max_two min_two max_three min_three max_four min_four
set_option linter.unusedVariables false
set_option linter.unusedSimpArgs false
/-- The number that is written: twice it, or, below 0, twice its magnitude less one. -/
def zig (n : Int) : Nat := if n < 0 then (-2 * n - 1).toNat else (2 * n).toNat
/-- Its bytes: seven bits each, the lower first. -/
def numN (m : Nat) : List Int := if m < 128 then [(m : Int)] else ((128 + m % 128 : Nat) : Int) :: numN (m / 128)
termination_by m
decreasing_by omega
def numB (n : Int) : List Int := numN (zig n)
theorem numN_lo {m : Nat} (h : m < 128) : numN m = [(m : Int)] := by rw [numN, if_pos h]
theorem numN_hi {m : Nat} (h : ¬ m < 128) : numN m = ((128 + m % 128 : Nat) : Int) :: numN (m / 128) := by rw [numN, if_neg h]
/-- Blocks of other things than bytes and pens stay. -/
def KT (w w' : World) : Prop := w.heap.size ≤ w'.heap.size ∧ ∀ (i : Nat) (cs : Array Value) (t : TypeId) (fr : Nat × Nat), w.heap[i]? = some (.cells cs t fr) → t ≠ 5 → t ≠ 69 → w'.heap[i]? = some (.cells cs t fr)
theorem KT.refl (w : World) : KT w w := ⟨Nat.le_refl _, fun _ _ _ _ h _ _ => h⟩
theorem KT.trans {w w1 w2 : World} (h : KT w w1) (k : KT w1 w2) : KT w w2 := ⟨Nat.le_trans h.1 k.1, fun i cs t fr hi h5 h69 => k.2 i cs t fr (h.2 i cs t fr hi h5 h69) h5 h69⟩
theorem KT.of_below {w w' : World} (h : Below w.heap.size w w') : KT w w' := ⟨h.size, fun i cs t fr hi _ _ => blk_below hi h⟩
theorem KT.alloc {w w' : World} (h : KT w w') (o : Obj) : KT w (w'.alloc o) := h.trans (KT.of_below (below_alloc (Below.refl _ _) o))
theorem KT.drew {w w' : World} (h : KT w w') : KT w w'.drew := h.trans (KT.of_below (below_drew (Below.refl _ _)))
theorem KT.set {w w' : World} (h : KT w w') {b : Nat} {cs : Array Value} {t : TypeId} {fr : Nat × Nat} (hb : w'.heap[b]? = some (.cells cs t fr)) (ht : t = 5 ∨ t = 69) (j : Nat) (u : Value) : KT w (w'.setCell ⟨b, j, none⟩ u) :=
  h.trans ⟨by simp, fun i cs' t' fr' hi h5 h69 => by
    have hne : i ≠ b := fun e => by
      rw [e, hb] at hi
      injection hi with hi
      injection hi with _ e2 _
      rw [e2] at ht
      rcases ht with q | q
      · exact h5 q
      · exact h69 q
    exact (heap_setCell_other w' ⟨b, j, none⟩ i u hne).trans hi⟩
/-- A row of bytes of one's own: its block is one of bytes. -/
theorem own5 {w : World} {base : Nat} {ok : Nat → Prop} {v : Value} {l : List Int} (h : Kd.R (Kd.int .u8) 5 w base ok v l) : ∀ k, v.ownBlock = some k → base ≤ k ∧ ∃ cells, w.heap[k]? = some (.cells cells 5 (0, 0)) := by
  intro k hk
  obtain ⟨_, h1, _, q, hq, cells, hc⟩ := (Kd.R_bound h).1 k hk
  have : q = 5 := by
    rcases List.mem_cons.1 hq with e | e
    · exact e
    · exact absurd e (by show ¬ q ∈ ([] : List Nat); simp)
  subst this
  exact ⟨h1, cells, hc⟩
theorem KT.grown {w W W1 : World} {base : Nat} {ok : Nat → Prop} {v : Value} {l : List Int} (h : KT w W) (ho : Kd.R (Kd.int .u8) 5 W base ok v l) (hg : W.grownBy W1 v.ownBlock) : KT w W1 :=
  h.trans ⟨hg.size, fun i cs t fr hi h5 _ => (hg.block i (blk_lt hi) (fun e => by
    obtain ⟨_, cells, hc⟩ := own5 ho i e.symm
    rw [hc] at hi
    injection hi with hi
    injection hi with _ e2 _
    exact h5 e2.symm)).trans hi⟩
/-- A pen: a box that holds a row of bytes of one's own. -/
def PenAt (w0 W : World) (bp : Nat) (l : List Int) : Prop := ∃ (A : Option Addr) (c : Nat), W.heap[bp]? = some (.cells #[.slice A l.length c] 69 (0, 0)) ∧ Kd.R (Kd.int .u8) 5 W w0.heap.size (fun _ => True) (.slice A l.length c) l ∧ Below w0.heap.size w0 W ∧ w0.heap.size ≤ bp
theorem PenAt.below {w0 W W' : World} {bp : Nat} {l : List Int} (h : PenAt w0 W bp l) (hb : Below W.heap.size W W') : PenAt w0 W' bp l := by
  obtain ⟨A, c, h1, h2, h3, h4⟩ := h
  exact ⟨A, c, blk_below h1 hb, Kd.R_below h2 hb, below_then h3 h3.size hb, h4⟩
theorem PenAt.under {w0 W : World} {bp : Nat} {l : List Int} (h : PenAt w0 W bp l) : Below w0.heap.size w0 W := by
  obtain ⟨A, c, h1, h2, h3, h4⟩ := h
  exact h3
theorem own_ne {w : World} {base bp : Nat} {ok : Nat → Prop} {v : Value} {l : List Int} {cs : Array Value} {t : TypeId} {fr : Nat × Nat} (h : Kd.R (Kd.int .u8) 5 w base ok v l) (hb : w.heap[bp]? = some (.cells cs t fr)) (ht : t ≠ 5) : some bp ≠ v.ownBlock := fun e => by
  obtain ⟨_, cells, hc⟩ := own5 h bp e.symm
  rw [hc] at hb
  injection hb with hb
  injection hb with _ e2 _
  exact ht e2.symm
theorem u64_in {x : Int} (h0 : 0 ≤ x) (h1 : x < 18446744073709551616) : IntKind.u64.wrap x = x := by
  simp [IntKind.wrap, IntKind.bits, IntKind.signed]; omega
theorem u8_in {x : Int} (h0 : 0 ≤ x) (h1 : x < 256) : IntKind.u8.wrap x = x := by
  simp [IntKind.wrap, IntKind.bits, IntKind.signed]; omega
theorem zig_neg {n : Int} (c : n < 0) (h : -1000000000 ≤ n) : IntKind.u64.wrap (IntKind.u64.wrap (IntKind.u64.wrap (wrap64 (-wrap64 (n + 1))) * 2) + 1) = ((zig n : Nat) : Int) := by
  have e1 : wrap64 (n + 1) = n + 1 := by unfold wrap64; omega
  have e2 : wrap64 (-(n + 1)) = -(n + 1) := by unfold wrap64; omega
  rw [e1, e2, u64_in (x := -(n + 1)) (by omega) (by omega), u64_in (x := -(n + 1) * 2) (by omega) (by omega), u64_in (by omega) (by omega)]
  unfold zig
  rw [if_pos c]
  omega
theorem zig_pos {n : Int} (c : 0 ≤ n) (h : n ≤ 1000000000) : IntKind.u64.wrap (IntKind.u64.wrap n * 2) = ((zig n : Nat) : Int) := by
  rw [u64_in (x := n) (by omega) (by omega), u64_in (by omega) (by omega)]
  unfold zig
  rw [if_neg (by omega)]
  omega
theorem zig_le {n : Int} (h : -1000000000 ≤ n ∧ n ≤ 1000000000) : zig n ≤ 2000000001 := by
  unfold zig
  split <;> omega
theorem and_eq (m : Nat) (h : m ≤ 4000000000) : (bits .and .u64 (m : Int) 127 + 128) % 256 = ((128 + m % 128 : Nat) : Int) := by
  have e : bits .and .u64 (m : Int) 127 = ((m % 128 : Nat) : Int) := by
    have h3 : (BitVec.ofInt IntKind.u64.bits (m : Int) &&& BitVec.ofInt IntKind.u64.bits 127).toNat = m % 128 := by
      rw [BitVec.toNat_and, BitVec.ofInt_natCast, BitVec.toNat_ofNat]
      show m % 2 ^ 64 &&& 127 = _
      rw [Nat.mod_eq_of_lt (show m < 2 ^ 64 by omega)]
      exact Nat.and_two_pow_sub_one_eq_mod m 7
    show IntKind.u64.wrap ((BitVec.ofInt IntKind.u64.bits (m : Int) &&& BitVec.ofInt IntKind.u64.bits 127).toNat : Int) = _
    rw [h3]
    exact u64_in (by omega) (by omega)
  rw [e]
  omega
theorem numN_len : ∀ (d m : Nat), m < 128 ^ (d + 1) → (numN m).length ≤ d + 1 := by
  intro d
  induction d with
  | zero => intro m h; rw [numN_lo (by simpa using h)]; exact Nat.le_refl _
  | succ d ih =>
    intro m h
    by_cases c : m < 128
    · rw [numN_lo c]; show 1 ≤ _; omega
    · rw [numN_hi c, List.length_cons]
      have := ih (m / 128) (by rw [Nat.pow_succ] at h; omega)
      omega
theorem numB_len {n : Int} (h : -1000000000 ≤ n ∧ n ≤ 1000000000) : (numB n).length ≤ 5 := by
  have := zig_le h
  exact numN_len 4 (zig n) (by show zig n < 34359738368; omega)
def okN (n : Int) : Prop := -1000000000 ≤ n ∧ n ≤ 1000000000
theorem flat_len {xs : List Int} (h : ∀ x ∈ xs, okN x) : (xs.flatMap numB).length ≤ 5 * xs.length := by
  induction xs with
  | nil => exact Nat.le_refl _
  | cons x xs ih =>
    rw [List.flatMap_cons, List.length_append, List.length_cons]
    have := numB_len (h x List.mem_cons_self)
    have := ih (fun y hy => h y (List.mem_cons_of_mem _ hy))
    omega
theorem flat_take {xs : List Int} {k : Nat} (h : k < xs.length) : (xs.take (k + 1)).flatMap numB = (xs.take k).flatMap numB ++ numB xs[k] := by
  rw [List.take_succ_eq_append_getElem h, List.flatMap_append]
  simp
theorem C_lit {W : World} {b : Nat} (xs : List Int) (hl : xs.length ≤ 1000) (h : W.heap[b]? = some (.cells ((xs.map (Value.int .i64)).toArray) 3 (0, 0))) : Kd.C (Kd.int .i64) W (some ⟨b, 0, none⟩) xs.length xs :=
  Kd.C_of_reads (d := (0 : Int)) (h1 := fun _ => rfl) (show ReadsInt W .i64 (some ⟨b, 0, none⟩) xs.length xs from ⟨rfl, by omega, fun _ => ⟨_, rfl, fun j hj => by
      rw [add_plain]
      refine (blk_cell h j).trans ?_
      rw [List.getElem?_toArray, List.getElem?_map, List.getElem?_eq_getElem hj]
      simp [List.getD_eq_getElem?_getD, List.getElem?_eq_getElem hj]⟩⟩)
theorem kb {W W' : World} {g : Nat} {o : Obj} (h : Aside0 (W.heap[g]? = some o)) (hb : Below W.heap.size W W') : Aside0 (W'.heap[g]? = some o) := ⟨blk_below h.out hb⟩
theorem kbd {W : World} {g : Nat} {o : Obj} (h : Aside0 (W.heap[g]? = some o)) : Aside0 (W.drew.heap[g]? = some o) := ⟨blk_drew h.out⟩
set_option maxHeartbeats 8000000 in
set_option maxRecDepth 100000 in
theorem numberW (bp : Nat) (l : List Int) (n : Int) (w0 w : World) (h : PenAt w0 w bp l) (hl : l.length ≤ 1000000000) (hn : -1000000000 ≤ n ∧ n ≤ 1000000000) :
    Calls Try.prog 47 #[.pointer (some ⟨bp, 0, none⟩), .int .i64 n] w fun e w' => e = .returned (.tuple #[]) ∧ PenAt w0 w' bp (l ++ numB n) ∧ KT w w' := by
  have hu69 := Try.underlying69
  have HL := Aside0.mk hl
  have HN := Aside0.mk hn
  have PA := Aside0.mk h
  have HK := Aside0.mk (KT.refl w)
  clear h hl hn
  go_enter Try.func47, Try.ntmps47
  go_upto_if 9 with (fail)
  go_cut [4] (fun v4 wc => v4 = .int .u64 ((zig n : Nat) : Int) ∧ Aside0 (PenAt w0 wc bp l) ∧ Aside0 (KT w wc))
  case first =>
    by_cases c : n < 0
    · have cd : decide (n < 0) = true := decide_eq_true c
      have CN := Aside0.mk c
      go_wp2_with (fail)
      go_meet
      case rel => exact ⟨congrArg (Value.int .u64) (zig_neg CN.out HN.out.1), PA, HK⟩
    · have cd : decide (n < 0) = false := decide_eq_false c
      have CN := Aside0.mk (show 0 ≤ n by omega)
      go_wp2_with (fail)
      go_meet
      case rel => exact ⟨congrArg (Value.int .u64) (zig_pos CN.out HN.out.2), PA, HK⟩
  case rest =>
    clear PA HK
    obtain ⟨rfl, PA, HK⟩ := hcut
    have HZ := Aside0.mk (zig_le HN.out)
    go_wp2_with (fail)
    go_loopw [4] (fun v4 wr => ∃ (m : Nat) (z : List Int), v4 = .int .u64 (m : Int) ∧ Aside0 (PenAt w0 wr bp (l ++ z)) ∧ Aside0 (KT w wr) ∧ Aside0 (numB n = z ++ numN m ∧ z.length + m ≤ 4000000000)) (fun v4 _ => (intOf v4).toNat)
    case atStart => exact ⟨zig n, [], rfl, ⟨by rw [List.append_nil]; exact PA.out⟩, HK, ⟨rfl, by have := HZ.out; simp; omega⟩⟩
    case round =>
      clear PA HK HZ
      obtain ⟨m, z, rfl, PA, HK, HZ⟩ := hrel
      generalize hl_ : l ++ z = lz at PA
      have HLZ := Aside0.mk hl_
      have HLN := Aside0.mk (show lz.length ≤ 6000000000 by rw [← hl_, List.length_append]; have := HL.out; have := HZ.out.2; omega)
      clear hl_
      by_cases c : m < 128
      · have cd : decide (128 ≤ m) = false := decide_eq_false (by omega)
        have ce : decide ((128 : Int) ≤ (m : Int)) = false := decide_eq_false (by omega)
        have HC := Aside0.mk c
        clear c
        obtain ⟨A, c0, p1, p2, p3, p4⟩ := PA.out
        have BP := Aside0.mk p1
        have HO := Aside0.mk p2
        have HB := Aside0.mk p3
        have HG := Aside0.mk p4
        clear p1 p2 p3 p4
        have hw_ : IntKind.u8.wrap (m : Int) = (m : Int) := u8_in (by omega) (by have := HC.out; omega)
        have hc_ := (blk_cell BP.out 0).trans (show _ = some (.slice A lz.length c0) from rfl)
        obtain ⟨ly, hly_⟩ : ∃ y : List Int, y = lz ++ [(m : Int)] := ⟨_, rfl⟩
        have HLY := Aside0.mk hly_
        clear hly_
        go_wp2_with (((with_reducible refine gate_builtin (b := .append) (xs := #[.tmp 34, .tmp 37]) rfl ?_); at_builtin; refine Kd.R_append (Kd.int .u8) (w0 := w0) w0.heap.size rfl (.tmp 34) (.tmp 37) 69 5 (.int .u8 0) 1 rfl Try.underlying69 info5 rfl (by decide) (by omega) (.slice A (lz).length c0) (lz) ((m : Int)) [.int .u8 ((m : Int))] (fun _ => True) (fun _ => False) rfl rfl ?aP (fun _ hk => hk.elim) ?aF ?aO ?aB ?aS ?aL ?_; (case aP => exact rfl); (case aB => exact HB.out); (case aF => exact (fun _ _ => trivial)); (case aO => exact HO.out); (case aS => exact HB.out.size); (case aL => have := HLN.out; omega); intro va WN ho hb hg hat; rw [← HLY.out] at ho; have KN := Aside0.mk (KT.grown HK.out HO.out hg); have BN := Aside0.mk ((hg.block bp (blk_lt BP.out) (own_ne HO.out BP.out (by decide))).trans BP.out); have HN_ := Aside0.mk hb; have ON := Aside0.mk ho; obtain ⟨An, cn, e0⟩ := Kd.R_slice ho; subst e0; clear ho hb hg hat; have hd_ := (blk_cell BN.out 0).trans (show _ = some (.slice A (lz).length c0) from rfl); have hf_ := blk_frozen BN.out 0))
        refine bodyPost_end (results_none rfl _ _ _) rfl ?_
        refine ⟨rfl, ?_, KN.out.set BN.out (.inr rfl) 0 _⟩
        rw [HZ.out.1, numN_lo HC.out, ← List.append_assoc, HLZ.out, ← HLY.out]
        exact ⟨An, cn, blk_put BN.out 0 _ rfl, Kd.R_set ON.out BN.out (by decide) 0 _, below_set HN_.out HG.out, HG.out⟩
      · have cd : decide (128 ≤ m) = true := decide_eq_true (by omega)
        have ce : decide ((128 : Int) ≤ (m : Int)) = true := decide_eq_true (by omega)
        have HC := Aside0.mk c
        clear c
        obtain ⟨A, c0, p1, p2, p3, p4⟩ := PA.out
        have BP := Aside0.mk p1
        have HO := Aside0.mk p2
        have HB := Aside0.mk p3
        have HG := Aside0.mk p4
        clear p1 p2 p3 p4
        have hc_ := (blk_cell BP.out 0).trans (show _ = some (.slice A lz.length c0) from rfl)
        obtain ⟨ly, hly_⟩ : ∃ y : List Int, y = lz ++ [((bits .and .u64 (m : Int) 127 + 128) % 256)] := ⟨_, rfl⟩
        have HLY := Aside0.mk hly_
        clear hly_
        go_upto_region 5 with (((with_reducible refine gate_builtin (b := .append) (xs := #[.tmp 21, .tmp 26]) rfl ?_); at_builtin; refine Kd.R_append (Kd.int .u8) (w0 := w0) w0.heap.size rfl (.tmp 21) (.tmp 26) 69 5 (.int .u8 0) 1 rfl Try.underlying69 info5 rfl (by decide) (by omega) (.slice A (lz).length c0) (lz) (((bits .and .u64 (m : Int) 127 + 128) % 256)) [.int .u8 (((bits .and .u64 (m : Int) 127 + 128) % 256))] (fun _ => True) (fun _ => False) rfl rfl ?aP (fun _ hk => hk.elim) ?aF ?aO ?aB ?aS ?aL ?_; (case aP => exact rfl); (case aB => exact HB.out); (case aF => exact (fun _ _ => trivial)); (case aO => exact HO.out); (case aS => exact HB.out.size); (case aL => have := HLN.out; omega); intro va WN ho hb hg hat; rw [← HLY.out] at ho; have KN := Aside0.mk (KT.grown HK.out HO.out hg); have BN := Aside0.mk ((hg.block bp (blk_lt BP.out) (own_ne HO.out BP.out (by decide))).trans BP.out); have HN_ := Aside0.mk hb; have ON := Aside0.mk ho; obtain ⟨An, cn, e0⟩ := Kd.R_slice ho; subst e0; clear ho hb hg hat; have hd_ := (blk_cell BN.out 0).trans (show _ = some (.slice A (lz).length c0) from rfl); have hf_ := blk_frozen BN.out 0))
        have PN := Aside0.mk (show PenAt w0 _ bp ly from ⟨An, cn, blk_put BN.out 0 _ rfl, Kd.R_set ON.out BN.out (by decide) 0 _, below_set HN_.out HG.out, HG.out⟩)
        have KF := Aside0.mk (KN.out.set BN.out (.inr rfl) 0 (.slice An ly.length cn))
        clear hd_ hf_ hc_
        go_wp2_with (fail)
        go_roundw
        case rel => exact ⟨m / 128, z ++ [((128 + m % 128 : Nat) : Int)], congrArg (Value.int .u64) (by omega), ⟨by rw [← List.append_assoc, HLZ.out, ← and_eq m (by have := HZ.out.2; omega), ← HLY.out]; exact PN.out⟩, KF, ⟨by rw [HZ.out.1, numN_hi HC.out, List.append_assoc]; rfl, by rw [List.length_append]; have := HZ.out.2; have := HC.out; simp; omega⟩⟩
        case measure =>
          have := HC.out
          show ((m : Int) / 128).toNat < ((m : Int)).toNat
          omega
end Go.Proofs.Ytbjdnfgalopfiaa.PE
