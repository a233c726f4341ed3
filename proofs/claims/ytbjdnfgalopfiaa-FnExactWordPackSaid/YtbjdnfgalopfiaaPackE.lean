/- What spec.l13Num and spec.l13Nums write. -/
import Derived.Test.YtbjdnfgalopfiaaBaseE
import Derived.Test.YtbjdnfgalopfiaaE1
import Derived.Test.YtbjdnfgalopfiaaPEx24
import Derived.Test.YtbjdnfgalopfiaaPEx25
namespace Go.Proofs.Ytbjdnfgalopfiaa.PB
open Go.RowKit Go.Proofs.Ytbjdnfgalopfiaa.PE Go.Proofs.YtbjdnfgalopfiaaW.PrintWords Go.Proofs.YtbjdnfgalopfiaaW.PrintLast Go.Proofs.YtbjdnfgalopfiaaW.PrintMore
set_option linter.unusedVariables false
set_option linter.unusedSimpArgs false
theorem num_l0 : ∀ (d m : Nat), m ≤ d → ∀ l : List Int, m ≤ 4000000000 → l.length + m ≤ 10000000000 → Ev (fun k => spec_l13Num.l0 k l (m : Int)) (l ++ numN m) := by
  intro d
  induction d with
  | zero =>
    intro m hd l hm hl
    obtain rfl : m = 0 := by omega
    refine Ev.step (fun k => by rw [spec_l13Num.l0]) ?_
    exact Ev.neg (by omega) (Ev.pos (by omega) (Ev.ret (by rw [numN_lo (by omega)]; rfl)))
  | succ d ih =>
    intro m hd l hm hl
    refine Ev.step (fun k => by rw [spec_l13Num.l0]) ?_
    by_cases c : m < 128
    · refine Ev.neg (by omega) (Ev.pos (by omega) (Ev.ret ?_))
      rw [numN_lo c, show ((m : Int)) % 256 = (m : Int) by omega]
    · refine Ev.pos (by omega) (Ev.pos (by omega) ?_)
      have e1 : Int.tmod (m : Int) 128 = ((m % 128 : Nat) : Int) := by rw [Int.tmod_eq_emod_of_nonneg (by omega)]; omega
      have e2 : Int.tdiv (m : Int) 128 = ((m / 128 : Nat) : Int) := by rw [Int.tdiv_eq_ediv_of_nonneg (by omega)]; omega
      have e3 : (wrap64 (128 + Int.tmod (m : Int) 128)) % 256 = ((128 + m % 128 : Nat) : Int) := by rw [e1, wrap_in (by omega) (by omega)]; omega
      rw [e3, e2, wrap_in (by omega) (by omega), numN_hi c]
      have h := ih (m / 128) (by omega) (l ++ [((128 + m % 128 : Nat) : Int)]) (by omega) (by simp; omega)
      rw [List.append_assoc] at h
      exact h
theorem num_ev (l : List Int) (n : Int) (hl : l.length ≤ 1000000000) (hn : okN n) : Ev (fun k => spec_l13Num.f k l n) (l ++ numB n) := by
  have hz := zig_le hn
  have key : Ev (fun k => spec_l13Num.j0 k l ((zig n : Nat) : Int)) (l ++ numB n) := Ev.step (fun k => by rw [spec_l13Num.j0]) (num_l0 (zig n) (zig n) (Nat.le_refl _) l (by omega) (by omega))
  unfold okN at hn
  unfold spec_l13Num.f
  by_cases c : n < 0
  · refine Ev.pos c ?_
    rw [show wrap64 (wrap64 (-2 * n) - 1) = ((zig n : Nat) : Int) by
      rw [wrap_in (x := -2 * n) (by omega) (by omega), wrap_in (by omega) (by omega)]
      unfold zig
      rw [if_pos c]
      omega]
    exact key
  · refine Ev.neg c ?_
    rw [show wrap64 (2 * n) = ((zig n : Nat) : Int) by
      rw [wrap_in (by omega) (by omega)]
      unfold zig
      rw [if_neg c]
      omega]
    exact key
theorem nums_ev (l xs : List Int) (hl : l.length ≤ 900000000) (hn : xs.length ≤ 1048576) (hx : ∀ x ∈ xs, okN x) : Ev (fun k => spec_l13Nums.f k l xs) (l ++ (numB xs.length ++ xs.flatMap numB)) := by
  unfold spec_l13Nums.f
  have h0 : okN (xs.length : Int) := by unfold okN; omega
  refine Ev.bind (num_ev l (xs.length : Int) (by omega) h0) ?_
  have hb := numB_len h0
  have key : ∀ i, i ≤ xs.length → ∀ t : List Int, t.length ≤ 900000010 + 5 * i → Ev (fun k => spec_l13Nums.l0 k t xs (i : Int)) (t ++ (xs.drop i).flatMap numB) := by
    refine loop_down xs.length ?_ ?_
    · intro t ht
      refine Ev.step (fun k => by rw [spec_l13Nums.l0]) ?_
      exact Ev.neg (by omega) (Ev.ret (by rw [List.drop_of_length_le (Nat.le_refl _)]; simp))
    · intro i hi ih t ht
      have hw : wrap64 ((i : Int) + 1) = ((i + 1 : Nat) : Int) := wrap_in (by omega) (by omega)
      refine Ev.step (fun k => by rw [spec_l13Nums.l0]) ?_
      refine Ev.pos (by omega) (Ev.pos (by omega) ?_)
      rw [rd_lt hi, hw]
      have hk := hx _ (List.getElem_mem hi)
      have hlen := numB_len hk
      refine Ev.bind (num_ev t (xs[i]) (by omega) hk) ?_
      have h := ih (t ++ numB xs[i]) (by rw [List.length_append]; omega)
      rw [List.drop_eq_getElem_cons hi, List.flatMap_cons, ← List.append_assoc]
      exact h
  have h := key 0 (by omega) (l ++ numB xs.length) (by rw [List.length_append]; omega)
  rw [List.append_assoc] at h
  exact h
/-- The blocks of bytes of one's own. -/
def own5P (w0 w : World) (k : Nat) : Prop := w0.heap.size ≤ k ∧ ∃ cells, w.heap[k]? = some (.cells cells 5 (0, 0))
theorem R5 {w0 w : World} {ok : Nat → Prop} {v : Value} {l : List Int} (h : Kd.R (Kd.int .u8) 5 w w0.heap.size ok v l) : Kd.R (Kd.int .u8) 5 w w0.heap.size (own5P w0 w) v l := ⟨fun k hk => own5 h k hk, (Kd.R_mono h (ok' := fun _ => True) (fun _ _ => trivial)).2.imp_ (fun _ _ hp => hp)⟩
theorem KT.of_kept {w0 w w' : World} (h : Kept w w' (own5P w0 w)) : KT w w' := ⟨h.1, fun i cs t fr hi h5 _ => (h.2 i (blk_lt hi) (fun ⟨_, cells, hc⟩ => by
  rw [hc] at hi
  injection hi with hi
  injection hi with _ e2 _
  exact h5 e2.symm)).trans hi⟩
theorem numS (A : Option Addr) (c : Nat) (l : List Int) (n : Int) (w0 w : World) (ho : Kd.R (Kd.int .u8) 5 w w0.heap.size (fun _ => True) (.slice A l.length c) l) (hB : Below w0.heap.size w0 w) (hl : l.length ≤ 1000000000) (hn : okN n) :
    Calls Try.prog 43 #[.slice A l.length c, .int .i64 n] w fun e w' => ∃ (A' : Option Addr) (c' : Nat), e = .returned (.slice A' (l ++ numB n).length c') ∧ Kd.R (Kd.int .u8) 5 w' w0.heap.size (fun _ => True) (.slice A' (l ++ numB n).length c') (l ++ numB n) ∧ Below w0.heap.size w0 w' ∧ KT w w' := by
  obtain ⟨K, hK⟩ := num_ev l n hl hn
  refine (spec_l13Num.calls K (own5P w0 w) (.slice A l.length c) l n _ w0 w hB (R5 ho) (hK K (Nat.le_refl _))).mono ?_
  rintro e w' ⟨v, rfl, hr, hb, hk⟩
  obtain ⟨A', c', rfl⟩ := Kd.R_slice hr
  exact ⟨A', c', rfl, Kd.R_mono hr (fun _ _ => trivial), hb, KT.of_kept hk⟩
theorem numsS (A : Option Addr) (c : Nat) (l : List Int) (A1 : Option Addr) (c1 : Nat) (xs : List Int) (w0 w : World) (ho : Kd.R (Kd.int .u8) 5 w w0.heap.size (fun _ => True) (.slice A l.length c) l) (hB : Below w0.heap.size w0 w) (hr : Kd.C (Kd.int .i64) w0 A1 xs.length xs) (hc : xs.length ≤ c1) (hl : l.length ≤ 900000000) (hn : xs.length ≤ 1048576) (hx : ∀ x ∈ xs, okN x) :
    Calls Try.prog 44 #[.slice A l.length c, .slice A1 xs.length c1] w fun e w' => ∃ (A' : Option Addr) (c' : Nat), e = .returned (.slice A' (l ++ (numB xs.length ++ xs.flatMap numB)).length c') ∧ Kd.R (Kd.int .u8) 5 w' w0.heap.size (fun _ => True) (.slice A' (l ++ (numB xs.length ++ xs.flatMap numB)).length c') (l ++ (numB xs.length ++ xs.flatMap numB)) ∧ Below w0.heap.size w0 w' ∧ KT w w' := by
  obtain ⟨K, hK⟩ := nums_ev l xs hl hn hx
  refine (spec_l13Nums.calls K (own5P w0 w) (.slice A l.length c) l A1 c1 xs _ w0 w hB (R5 ho) (Kd.C_kept_came (Kd.heap_int _) hr hB (fun k hk => hk.1)) hc (hK K (Nat.le_refl _))).mono ?_
  rintro e w' ⟨v, rfl, hr, hb, hk⟩
  obtain ⟨A', c', rfl⟩ := Kd.R_slice hr
  exact ⟨A', c', rfl, Kd.R_mono hr (fun _ _ => trivial), hb, KT.of_kept hk⟩
end Go.Proofs.Ytbjdnfgalopfiaa.PB
