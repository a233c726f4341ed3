/- What a draw comes to: a number from 0 to n - 1, the reader one place further. -/
import Derived.Test.YtbjdnfgalopfiaaBase
import Derived.Test.YtbjdnfgalopfiaaPDx20
import Derived.Test.YtbjdnfgalopfiaaPDx34
namespace Go.Proofs.Ytbjdnfgalopfiaa.PB
open Go.RowKit Go.Proofs.Ytbjdnfgalopfiaa.PD Go.Proofs.YtbjdnfgalopfiaaW.PrintWords Go.Proofs.YtbjdnfgalopfiaaW.PrintLast
set_option linter.unusedVariables false
def BytesOk (s : List Int) : Prop := s.length ≤ 2000 ∧ ∀ x ∈ s, 0 ≤ x ∧ x ≤ 255
theorem BytesOk.at_ {s : List Int} (h : BytesOk s) (i : Int) : 0 ≤ rd s i ∧ rd s i ≤ 255 := by
  unfold rd
  rw [List.getD_eq_getElem?_getD]
  cases hx : s[i.toNat]? with
  | none => simp
  | some x => exact h.2 x (List.mem_of_getElem? hx)
theorem open_eq (code : List Int) (h : ∀ x ∈ code, (Lit.int .u8 x).wf = true) : ∃ s, spec_l6Open.f code = some (s, 0) ∧ BytesOk s := by
  have hb : ∀ x ∈ code, 0 ≤ x ∧ x ≤ 255 := fun x hx => by
    have := h x hx
    simp [Lit.wf, IntKind.min, IntKind.max, IntKind.signed, IntKind.bits] at this
    omega
  unfold spec_l6Open.f
  by_cases hl : (code.length : Int) > 2000
  · rw [if_pos hl, if_pos (by omega)]
    exact ⟨_, rfl, by simp; omega, fun x hx => hb x (List.mem_of_mem_take hx)⟩
  · rw [if_neg hl]
    exact ⟨_, rfl, by omega, hb⟩
theorem xor_nonneg (a b : Int) (ha : 0 ≤ a) (ha' : a < 4611686018427387904) (hb : 0 ≤ b) (hb' : b < 4611686018427387904) : 0 ≤ Go.bits .xor .i64 a b := by
  obtain ⟨m, rfl⟩ := Int.eq_ofNat_of_zero_le ha
  obtain ⟨n, rfl⟩ := Int.eq_ofNat_of_zero_le hb
  have hm : m < 2 ^ 62 := by omega
  have hn : n < 2 ^ 62 := by omega
  have hx : m ^^^ n < 2 ^ 62 := Nat.xor_lt_two_pow hm hn
  have e : Go.bits .xor .i64 (m : Int) (n : Int) = ((m ^^^ n : Nat) : Int) := by
    have h1 : m % 2 ^ 64 = m := Nat.mod_eq_of_lt (by omega)
    have h2 : n % 2 ^ 64 = n := Nat.mod_eq_of_lt (by omega)
    have h3 : (BitVec.ofInt IntKind.i64.bits (m : Int) ^^^ BitVec.ofInt IntKind.i64.bits (n : Int)).toNat = m ^^^ n := by
      rw [BitVec.toNat_xor, BitVec.ofInt_natCast, BitVec.ofInt_natCast, BitVec.toNat_ofNat, BitVec.toNat_ofNat]
      show m % 2 ^ 64 ^^^ n % 2 ^ 64 = _
      rw [h1, h2]
    show IntKind.i64.wrap ((BitVec.ofInt IntKind.i64.bits (m : Int) ^^^ BitVec.ofInt IntKind.i64.bits (n : Int)).toNat : Int) = _
    rw [h3, IntKind.wrap_i64]
    omega
  rw [e]
  exact Int.natCast_nonneg _
theorem tmod_in (x n : Int) (hx : 0 ≤ x) (hn : 1 ≤ n) : 0 ≤ Int.tmod x n ∧ Int.tmod x n < n := by
  rw [Int.tmod_eq_emod_of_nonneg hx]
  exact ⟨Int.emod_nonneg _ (by omega), Int.emod_lt_of_pos _ (by omega)⟩
theorem tdiv_in (x n : Int) (hx : 0 ≤ x) (hn : 1 ≤ n) : 0 ≤ Int.tdiv x n ∧ Int.tdiv x n ≤ x := by
  rw [Int.tdiv_eq_ediv_of_nonneg hx]
  exact ⟨Int.ediv_nonneg hx (by omega), Int.ediv_le_self _ hx⟩
theorem pick_ev (s : List Int) (p n : Int) (hs : BytesOk s) (hp0 : 0 ≤ p) (hp : p ≤ 1000000) (hn : 1 ≤ n) (hn2 : n ≤ 1000000) : ∃ r, 0 ≤ r ∧ r < n ∧ Ev (fun k => spec_l6Rd_pick.f k s p n) (r, p + 1) := by
  unfold spec_l6Rd_pick.f
  rw [show wrap64 (p + 1) = p + 1 from wrap_in (by omega) (by omega)]
  by_cases h0 : s.length = 0
  · refine ⟨0, by omega, by omega, Ev.neg (by omega) (Ev.step (fun k => by simp only [spec_l6Rd_pick.j0]; rfl) (Ev.pos (by simp [h0]) (Ev.ret rfl)))⟩
  · have hw : wrap64 (p + 1 - 1) = p := by rw [show p + 1 - 1 = p by omega]; exact wrap_in (by omega) (by omega)
    by_cases hlt : p < (s.length : Int)
    · have hb := hs.at_ p
      obtain ⟨t0, t1⟩ := tmod_in (rd s p) n hb.1 hn
      refine ⟨Int.tmod (rd s p) n, t0, t1, Ev.neg (by omega) (Ev.step (fun k => by simp only [spec_l6Rd_pick.j0]; rfl) (Ev.neg (by simp [h0]) ?_))⟩
      rw [hw]
      exact Ev.pos hlt (Ev.pos hp0 (Ev.neg (by omega) (Ev.ret (by rw [wrap_in (by omega) (by omega)]))))
    · have hl1 : 1 ≤ (s.length : Int) := by omega
      obtain ⟨i0, i1⟩ := tmod_in p s.length hp0 hl1
      have hw7 : wrap64 (p * 7) = p * 7 := wrap_in (by omega) (by omega)
      have hw73 : wrap64 (p * 7 + 3) = p * 7 + 3 := wrap_in (by omega) (by omega)
      obtain ⟨j0, j1⟩ := tmod_in (p * 7 + 3) s.length (by omega) hl1
      obtain ⟨d0, d1⟩ := tdiv_in p s.length hp0 hl1
      have hA := hs.at_ (Int.tmod p s.length)
      have hB := hs.at_ (Int.tmod (p * 7 + 3) s.length)
      have hx : ∃ X : Int, 0 ≤ X ∧ X ≤ 4000000000 ∧ (wrap64 ((wrap64 ((wrap64 ((wrap64 ((wrap64 (rd s (Int.tmod p s.length))) * 131)) + (wrap64 ((wrap64 (rd s (Int.tmod (p * 7 + 3) s.length))) * 1117)))) + (wrap64 (p * 29)))) + (wrap64 ((wrap64 (Int.tdiv p s.length)) * 53)))) = X := by
        generalize rd s (Int.tmod p s.length) = A at hA
        generalize rd s (Int.tmod (p * 7 + 3) s.length) = B at hB
        generalize Int.tdiv p s.length = D at d0 d1
        refine ⟨A * 131 + B * 1117 + p * 29 + D * 53, by omega, by omega, ?_⟩
        rw [show wrap64 A = A from wrap_in (by omega) (by omega), show wrap64 B = B from wrap_in (by omega) (by omega), show wrap64 D = D from wrap_in (by omega) (by omega), show wrap64 (A * 131) = A * 131 from wrap_in (by omega) (by omega), show wrap64 (B * 1117) = B * 1117 from wrap_in (by omega) (by omega), show wrap64 (p * 29) = p * 29 from wrap_in (by omega) (by omega), show wrap64 (D * 53) = D * 53 from wrap_in (by omega) (by omega), show wrap64 (A * 131 + B * 1117) = A * 131 + B * 1117 from wrap_in (by omega) (by omega), show wrap64 (A * 131 + B * 1117 + p * 29) = A * 131 + B * 1117 + p * 29 from wrap_in (by omega) (by omega)]
        exact wrap_in (by omega) (by omega)
      obtain ⟨X, x0, x1, hX⟩ := hx
      obtain ⟨y0, y1⟩ := tdiv_in X 64 x0 (by omega)
      have hy := xor_nonneg X (Int.tdiv X 64) x0 (by omega) y0 (by omega)
      obtain ⟨t0, t1⟩ := tmod_in _ n hy hn
      refine ⟨_, t0, t1, Ev.neg (by omega) (Ev.step (fun k => by simp only [spec_l6Rd_pick.j0]; rfl) (Ev.neg (by simp [h0]) ?_))⟩
      rw [hw]
      refine Ev.neg hlt (Ev.neg (by omega) (Ev.pos i0 (Ev.pos i1 ?_)))
      rw [hw7, hw73, hX, show wrap64 (Int.tdiv X 64) = Int.tdiv X 64 from wrap_in (by omega) (by omega)]
      exact Ev.pos j0 (Ev.pos j1 (Ev.neg (by omega) (Ev.ret rfl)))
end Go.Proofs.Ytbjdnfgalopfiaa.PB
