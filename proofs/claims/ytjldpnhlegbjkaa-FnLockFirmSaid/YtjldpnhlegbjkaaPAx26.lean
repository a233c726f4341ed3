import Derived.Test.YtjldpnhlegbjkaaPAx0
import Derived.Test.YtjldpnhlegbjkaaPAx21
import Derived.Test.YtjldpnhlegbjkaaPAx22
import Derived.Test.YtjldpnhlegbjkaaPAx24
namespace Go.Proofs.Ytjldpnhlegbjkaa.PA
open Go.RowKit Go.Proofs.YtjldpnhlegbjkaaW.PrintWords Go.Proofs.YtjldpnhlegbjkaaW.PrintLast Go.Proofs.YtjldpnhlegbjkaaW.PrintMore
attribute [local go_sem] max2_int min2_int max_two min_two max_three min_three max_four min_four
set_option linter.unusedVariables false
set_option linter.unusedSimpArgs false

set_option maxHeartbeats 8000000 in
set_option maxRecDepth 100000 in
theorem idxHmeets (v1 : Value) (p : S45 → Bool) (A0 : Option Addr) (c0 : Nat) (l0 : List S45) (w : World) (hr0 : Kd.C k45 w A0 l0.length l0) (hc0 : l0.length ≤ c0)
 (hp : ∀ (x : S45) (W : World), Below w.heap.size w W → Calls Try.prog 45 #[v1, .agg #[.int .i64 x.f0, .int .i64 x.f1, .bool x.f2, .bool x.f3]] W fun e w' => e = .returned (.bool (p x)) ∧ Below W.heap.size W w') :
 Calls Try.prog 69 #[.slice A0 l0.length c0, .func (.func 45) #[v1] #[]] w fun e w' => ∃ i : Int, e = .returned (.int .i64 i) ∧ decide (0 ≤ i) = l0.any p ∧ Below w.heap.size w w' := by
 have HR := Aside0.mk hr0
 have HC := Aside0.mk hc0
 have HP := Aside0.mk hp
 have HM := Aside0.mk (show l0.length ≤ 9223372036854775807 from hr0.2.1)
 clear hr0 hc0 hp
 go_enter Try.func69, Try.ntmps69
 go_wp2_with (fail)
 go_loopw [8] (fun i wr => ∃ x : Nat, Aside0 (x ≤ l0.length) ∧ i = .int .i64 (x : Int) ∧ Aside0 (∀ j : Nat, j < x → p (rd_T45 l0 (j : Int)) = false) ∧ Aside0 (Below w.heap.size w wr)) (fun i _ => l0.length - (intOf i).toNat)
 case atStart => exact ⟨0, ⟨by omega⟩, rfl, ⟨fun j hj => absurd hj (by omega)⟩, ⟨by first | exact Below.refl _ _ | exact pw_below_drewN (Below.refl _ _) _⟩⟩
 case round =>
  obtain ⟨x, HX, rfl, HN, HB⟩ := hrel
  by_cases hlt : x < l0.length
  ·have hdl : decide (x < l0.length) = true := decide_eq_true hlt
   have HLT := Aside0.mk hlt
   obtain ⟨ad, hA, hx0, hx1, hx2, hx3⟩ := at_T45 HR.out (x : Int) (by omega) (by omega)
   subst hA
   have hy0 := (HB.out.cell (World.block_lt_of_cell? w _ hx0)).trans hx0
   have hy1 := (HB.out.cell (World.block_lt_of_cell? w _ hx1)).trans hx1
   have hy2 := (HB.out.cell (World.block_lt_of_cell? w _ hx2)).trans hx2
   have hy3 := (HB.out.cell (World.block_lt_of_cell? w _ hx3)).trans hx3
   simp only [Int.toNat_natCast] at hy0 hy1 hy2 hy3
   clear hx0 hx1 hx2 hx3
   have hw : wrap64 ((x : Int) + 1) = (x : Int) + 1 := by have := HM.out; have := HX.out; unfold wrap64; omega
   cases hz : p (rd_T45 l0 (x : Int)) with
   | true =>
    have HY := Aside0.mk (show decide ((0 : Int) ≤ (x : Int)) = l0.any p by
     rw [decide_eq_true (by omega), eq_comm, List.any_eq_true]
     exact ⟨l0[x], List.getElem_mem hlt, by rw [← rdH hlt]; exact hz⟩)
    have HZ := Aside0.mk hz
    clear hz
    generalize rd_T45 l0 (x : Int) = y at hy0 hy1 hy2 hy3 HZ
    go_wp2_with (fail)
    refine (HP.out y _ HB.out).mono ?_
    rw [HZ.out]
    rintro e w2 ⟨rfl, hb⟩
    have HB2 := Aside0.mk (below_step HB.out hb)
    clear hb
    go_wp2_with (fail)
    go_ret
    exact ⟨x, rfl, HY.out, HB2.out⟩
   | false =>
    have HN2 := Aside0.mk (show ∀ j : Nat, j < x + 1 → p (rd_T45 l0 (j : Int)) = false by
     intro j hj
     by_cases hjk : j = x
     ·rw [hjk]; exact hz
     ·exact HN.out j (by omega))
    have HZ := Aside0.mk hz
    clear hz
    generalize rd_T45 l0 (x : Int) = y at hy0 hy1 hy2 hy3 HZ
    go_wp2_with (fail)
    refine (HP.out y _ HB.out).mono ?_
    rw [HZ.out]
    rintro e w2 ⟨rfl, hb⟩
    have HB2 := Aside0.mk (below_step HB.out hb)
    clear hb
    go_wp2_with (fail)
    go_roundw
    case rel => exact ⟨x + 1, ⟨HLT.out⟩, congrArg (Value.int .i64) (by omega), HN2, HB2⟩
    case measure =>
     have := HLT.out
     rw [hw]
     show l0.length - ((x : Int) + 1).toNat < l0.length - (x : Int).toNat
     omega
  ·have hdl : decide (x < l0.length) = false := decide_eq_false hlt
   have HY := Aside0.mk (show decide ((0 : Int) ≤ -1) = l0.any p by
    rw [eq_comm, show decide ((0 : Int) ≤ -1) = false by decide, List.any_eq_false]
    intro y hy
    obtain ⟨j, hj, rfl⟩ := List.getElem_of_mem hy
    have := HN.out j (by omega)
    rw [rdH hj] at this
    simp [this])
   clear hlt
   go_wp2_with (fail)
   go_ret
   exact ⟨-1, rfl, HY.out, HB.out⟩
set_option maxHeartbeats 8000000 in
set_option maxRecDepth 100000 in
theorem hasHmeets (v1 : Value) (p : S45 → Bool) (A0 : Option Addr) (c0 : Nat) (l0 : List S45) (w : World) (hr0 : Kd.C k45 w A0 l0.length l0) (hc0 : l0.length ≤ c0)
 (hp : ∀ (x : S45) (W : World), Below w.heap.size w W → Calls Try.prog 45 #[v1, .agg #[.int .i64 x.f0, .int .i64 x.f1, .bool x.f2, .bool x.f3]] W fun e w' => e = .returned (.bool (p x)) ∧ Below W.heap.size W w') :
 Calls Try.prog 44 #[.slice A0 l0.length c0, .func (.func 45) #[v1] #[]] w fun e w' => e = .returned (.bool (l0.any p)) ∧ Below w.heap.size w w' := by
 have HR := Aside0.mk hr0
 have HC := Aside0.mk hc0
 have HP := Aside0.mk hp
 clear hr0 hc0 hp
 go_enter Try.func44, Try.ntmps44
 go_wp2_with (fail)
 refine (idxHmeets v1 p A0 c0 l0 _ HR.out HC.out HP.out).mono ?_
 rintro e w1 ⟨i, rfl, hi, hb⟩
 have HB := Aside0.mk hb
 have HI := Aside0.mk hi
 clear hi hb
 go_wp2_with (fail)
 go_ret
 exact ⟨by rw [← HI.out]; rfl, HB.out⟩
def holdB (h : S45) : Bool := decide (1 ≤ h.f0 ∧ h.f0 ≤ 9999) && decide (1 ≤ h.f1 ∧ h.f1 ≤ 9999)
def meetB (a b : S45) : Bool := decide (a.f0 ≠ b.f0) && !(a.f2 && b.f2)
def holdsB (l : List S45) : Bool := l.all holdB && decide (Asc l)
def lockB (s : Int) (h w : List S45) : Bool := decide (0 ≤ s ∧ s ≤ 7) && (decide (h.length + w.length ≤ 16) && (holdsB h && (holdsB w && (h.all (fun a => !h.any (meetB a)) && w.all (fun x => !hasOf h x.f0 && !x.f3)))))
theorem within_eqH (n a b : Int) : impl_within.f n a b = some (decide (a ≤ n ∧ n ≤ b)) := by
 unfold impl_within.f
 by_cases h : a ≤ n <;> simp [h]
theorem hold_eq (h : S45) : impl_Hold_ok.f h.f0 h.f1 h.f2 h.f3 = some (holdB h) := by
 unfold impl_Hold_ok.f impl_isStamp.f holdB
 rw [within_eqH, within_eqH]
 simp only [Option.bind_some]
 by_cases h1 : 1 ≤ h.f0 ∧ h.f0 ≤ 9999
 ·rw [decide_eq_true h1]; rfl
 ·rw [decide_eq_false h1]; rfl
theorem holds_l0 (l : List S45) (hl : l.length ≤ 16) : ∀ d i : Nat, i + d = l.length → ∀ k : Nat, d < k → ∃ b : Bool, impl_holdsOk.l0 k l l (l.length : Int) (i : Int) = some b ∧ (b = true ↔ (l.drop i).all holdB = true ∧ ∀ j : Nat, i ≤ j → j < l.length → 0 < j → (rd_T45 l ((j - 1 : Nat) : Int)).f0 < (rd_T45 l (j : Int)).f0) := by
 intro d
 induction d with
 | zero =>
  intro i hi k hk
  obtain ⟨k, rfl⟩ : ∃ m, k = m + 1 := ⟨k - 1, by omega⟩
  refine ⟨true, ?_, ?_⟩
  ·unfold impl_holdsOk.l0
   rw [if_neg (by omega)]
  ·rw [List.drop_of_length_le (by omega)]
   exact ⟨fun _ => ⟨rfl, fun j h1 h2 _ => by omega⟩, fun _ => rfl⟩
 | succ d ih =>
  intro i hi k hk
  obtain ⟨k, rfl⟩ : ∃ m, k = m + 1 := ⟨k - 1, by omega⟩
  have hlt : i < l.length := by omega
  have hw : wrap64 ((i : Int) + 1) = ((i + 1 : Nat) : Int) := by unfold wrap64; omega
  obtain ⟨c, hc, hcc⟩ := ih (i + 1) (by omega) k (by omega)
  have hd : (l.drop i).all holdB = (holdB (rd_T45 l (i : Int)) && (l.drop (i + 1)).all holdB) := by
   rw [List.drop_eq_getElem_cons hlt, rdH hlt]; rfl
  rw [hd]
  unfold impl_holdsOk.l0
  rw [if_pos (by omega), if_pos (by omega), if_pos (by omega), hold_eq, Option.bind_some, hw, hc]
  cases hb : holdB (rd_T45 l (i : Int)) with
  | false => exact ⟨false, rfl, ⟨fun h => (nomatch h), fun h => (nomatch h.1)⟩⟩
  | true =>
   rw [if_pos rfl, Bool.true_and]
   by_cases h0 : 0 < i
   ·have hw2 : wrap64 ((i : Int) - 1) = ((i - 1 : Nat) : Int) := by unfold wrap64; omega
    rw [if_pos (by omega), hw2, if_pos (by omega), if_pos (by omega)]
    by_cases hq : (rd_T45 l ((i - 1 : Nat) : Int)).f0 ≥ (rd_T45 l (i : Int)).f0
    ·rw [if_pos hq]
     exact ⟨false, rfl, ⟨fun h => (nomatch h), fun h => absurd (h.2 i (Nat.le_refl _) hlt h0) (by omega)⟩⟩
    ·rw [if_neg hq]
     refine ⟨c, rfl, hcc.trans ⟨fun h => ⟨h.1, fun j h1 h2 h3 => ?_⟩, fun h => ⟨h.1, fun j h1 h2 h3 => h.2 j (by omega) h2 h3⟩⟩⟩
     by_cases hj : j = i
     ·subst hj; omega
     ·exact h.2 j (by omega) h2 h3
   ·rw [if_neg (by omega)]
    refine ⟨c, rfl, hcc.trans ⟨fun h => ⟨h.1, fun j h1 h2 h3 => ?_⟩, fun h => ⟨h.1, fun j h1 h2 h3 => h.2 j (by omega) h2 h3⟩⟩⟩
    by_cases hj : j = i
    ·subst hj; omega
    ·exact h.2 j (by omega) h2 h3
theorem asc_of (l : List S45) : (∀ j : Nat, 0 ≤ j → j < l.length → 0 < j → (rd_T45 l ((j - 1 : Nat) : Int)).f0 < (rd_T45 l (j : Int)).f0) ↔ Asc l := by
 constructor
 ·intro h
  have key : ∀ d i : Nat, i + d + 1 < l.length → (rd_T45 l (i : Int)).f0 < (rd_T45 l ((i + d + 1 : Nat) : Int)).f0 := by
   intro d
   induction d with
   | zero => intro i hi; have := h (i + 1) (by omega) hi (by omega); simpa using this
   | succ d ih =>
    intro i hi
    have h1 := ih i (by omega)
    have h2 := h (i + (d + 1) + 1) (by omega) hi (by omega)
    have e : i + (d + 1) + 1 - 1 = i + d + 1 := by omega
    rw [e] at h2
    omega
  refine List.pairwise_iff_getElem.2 (fun i j hi hj hij => ?_)
  have := key (j - i - 1) i (by omega)
  rw [show i + (j - i - 1) + 1 = j by omega, rdH hi, rdH hj] at this
  exact this
 ·intro h j _ hj h0
  exact asc_lt h (by omega) hj
theorem holds_eq (l : List S45) (hl : l.length ≤ 16) : impl_holdsOk.f 17 l = some (holdsB l) := by
 obtain ⟨b, hb, hbb⟩ := holds_l0 l hl l.length 0 (by omega) 17 (by omega)
 unfold impl_holdsOk.f
 refine hb.trans (congrArg some ?_)
 rw [List.drop_zero] at hbb
 unfold holdsB
 rw [Bool.eq_iff_iff, hbb, Bool.and_eq_true, decide_eq_true_iff]
 exact and_congr_right (fun _ => asc_of l)
set_option maxHeartbeats 8000000 in
set_option maxRecDepth 100000 in
theorem meets_calls (a x : S45) (w : World) : Calls Try.prog 45 #[.agg #[.int .i64 a.f0, .int .i64 a.f1, .bool a.f2, .bool a.f3], .agg #[.int .i64 x.f0, .int .i64 x.f1, .bool x.f2, .bool x.f3]] w fun e w' => e = .returned (.bool (meetB a x)) ∧ Below w.heap.size w w' := by
 have hu := Try.underlying45
 have HB := Aside0.mk (Below.refl w.heap.size w)
 obtain ⟨a0, a1, a2, a3⟩ := a
 obtain ⟨x0, x1, x2, x3⟩ := x
 simp only
 by_cases h : a0 = x0
 ·subst h
  have he := Aside0.mk (show meetB ⟨a0, a1, a2, a3⟩ ⟨a0, x1, x2, x3⟩ = false by simp [meetB])
  go_enter Try.func45, Try.ntmps45
  go_wp2
  go_ret
  exact ⟨by rw [he.out]; rfl, by repeat (first | exact HB.out | apply below_alloc | apply pw_below_drewN)⟩
 ·have hq : (a0 != x0) = true := bne_iff_ne.mpr h
  have he := Aside0.mk (show meetB ⟨a0, a1, a2, a3⟩ ⟨x0, x1, x2, x3⟩ = !(a2 && x2) by simp [meetB, h])
  clear h
  cases a2 <;> cases x2
  all_goals
   go_enter Try.func45, Try.ntmps45
   go_wp2
   go_ret
   exact ⟨by rw [he.out]; rfl, by repeat (first | exact HB.out | apply below_alloc | apply pw_below_drewN)⟩
theorem newcell {W w5 : World} {c : Array Value} {t : TypeId} {fr : Nat × Nat} {j : Nat} {v : Value} (hb : Below (W.alloc (.cells c t fr)).heap.size (W.alloc (.cells c t fr)) w5) (h : c[j]? = some v) : w5.cell? ⟨W.heap.size, j, none⟩ = some v := by
 have h0 : (W.alloc (.cells c t fr)).cell? ⟨W.heap.size, j, none⟩ = some v := (World.cell?_alloc_mark W c t fr j).trans h
 exact (hb.cell (World.block_lt_of_cell? _ _ h0)).trans h0
def impl_LockOk.f (a0_0 : Int) (l0_1 : List S45) (l0_2 : List S45) : Option Bool := if l0_1.length ≤ 1048576 ∧ l0_2.length ≤ 1048576 then some (lockB a0_0 l0_1 l0_2) else none
set_option maxHeartbeats 8000000 in
set_option maxRecDepth 100000 in
theorem impl_LockOk.calls (a0_0 : Int) (A0_1 : Option Addr) (c0_1 : Nat) (l0_1 : List S45) (A0_2 : Option Addr) (c0_2 : Nat) (l0_2 : List S45) (r : Bool) (w : World) (hr0_1 : Kd.C k45 w A0_1 l0_1.length l0_1) (hc0_1 : l0_1.length ≤ c0_1) (hr0_2 : Kd.C k45 w A0_2 l0_2.length l0_2) (hc0_2 : l0_2.length ≤ c0_2) (h : impl_LockOk.f a0_0 l0_1 l0_2 = some r) :
 Calls Try.prog 18 #[.agg #[.int .i64 a0_0, .slice A0_1 l0_1.length c0_1, .slice A0_2 l0_2.length c0_2]] w fun e w' => e = .returned (.bool r) ∧ Below w.heap.size w w' := by
 unfold impl_LockOk.f at h
 by_cases hb : l0_1.length ≤ 1048576 ∧ l0_2.length ≤ 1048576
 case neg => rw [if_neg hb] at h; cases h
 rw [if_pos hb] at h
 obtain rfl := Option.some.inj h
 have HL := Aside0.mk hb
 have hu29 := Try.underlying29
 have hu45 := Try.underlying45
 have HR1 := Aside0.mk hr0_1
 have HC1 := Aside0.mk hc0_1
 have HR2 := Aside0.mk hr0_2
 have HC2 := Aside0.mk hc0_2
 have hm1 := Aside0.mk (show l0_1.length ≤ 9223372036854775807 from hr0_1.2.1)
 have hm2 := Aside0.mk (show l0_2.length ≤ 9223372036854775807 from hr0_2.2.1)
 have hmf : ∀ (fn : Fn) (first cap : Array Value) (w : World), (Instr.makeFunc fn first cap).run Try.prog w = .ok (.func fn first cap) w := fun _ _ _ _ => rfl
 clear h hb hr0_1 hc0_1 hr0_2 hc0_2
 have hs : impl_isSlot.f a0_0 = some (decide (0 ≤ a0_0 ∧ a0_0 ≤ 7)) := by
  unfold impl_isSlot.f
  rw [within_eqH]; rfl
 have HS := Aside0.mk hs
 clear hs
 cases h1 : decide (0 ≤ a0_0 ∧ a0_0 ≤ 7) with
 | false =>
  have HS := Aside0.mk (h1 ▸ HS.out)
  have he := Aside0.mk (show lockB a0_0 l0_1 l0_2 = false by unfold lockB; rw [h1]; rfl)
  clear h1
  rw [he.out]
  go_enter Try.func18, Try.ntmps18
  go_wp2_with (fail)
  refine (impl_isSlot.calls a0_0 false _ HS.out).mono ?_
  rintro e w1 ⟨rfl, ⟨nd, rfl⟩⟩
  go_wp2_with (fail)
  go_ret
  exact ⟨rfl, pw_below_drewN (below_alloc (Below.refl _ _) _) _⟩
 | true =>
  have HS := Aside0.mk (h1 ▸ HS.out)
  have HL1 := Aside0.mk h1
  clear h1
  by_cases h2 : l0_1.length + l0_2.length ≤ 16
  case neg =>
   have he := Aside0.mk (show lockB a0_0 l0_1 l0_2 = false by unfold lockB; rw [HL1.out, decide_eq_false h2]; rfl)
   have hw : wrap64 ((l0_1.length : Int) + (l0_2.length : Int)) = (l0_1.length : Int) + l0_2.length := by have := HL.out; unfold wrap64; omega
   have hd : decide ((16 : Int) < (l0_1.length : Int) + (l0_2.length : Int)) = true := decide_eq_true (by omega)
   clear h2
   rw [he.out]
   go_enter Try.func18, Try.ntmps18
   go_wp2_with (fail)
   refine (impl_isSlot.calls a0_0 true _ HS.out).mono ?_
   rintro e w1 ⟨rfl, ⟨nd, rfl⟩⟩
   go_wp2_with (fail)
   go_ret
   exact ⟨rfl, pw_below_drewN (below_alloc (Below.refl _ _) _) _⟩
  have HL2 := Aside0.mk h2
  have hw : wrap64 ((l0_1.length : Int) + (l0_2.length : Int)) = (l0_1.length : Int) + l0_2.length := by have := HL.out; unfold wrap64; omega
  have hd : decide ((16 : Int) < (l0_1.length : Int) + (l0_2.length : Int)) = false := decide_eq_false (by omega)
  have E1 := Aside0.mk (holds_eq l0_1 (by omega))
  have E2 := Aside0.mk (holds_eq l0_2 (by omega))
  clear h2
  cases h3 : holdsB l0_1 with
  | false =>
   have E1 := Aside0.mk (h3 ▸ E1.out)
   have he := Aside0.mk (show lockB a0_0 l0_1 l0_2 = false by unfold lockB; rw [HL1.out, decide_eq_true HL2.out, h3]; rfl)
   clear h3
   rw [he.out]
   go_enter Try.func18, Try.ntmps18
   go_wp2_with (fail)
   refine (impl_isSlot.calls a0_0 true _ HS.out).mono ?_
   rintro e w1 ⟨rfl, ⟨nd, rfl⟩⟩
   have HB := Aside0.mk (pw_below_drewN (below_alloc (Below.refl w.heap.size w) (.cells #[.int .i64 a0_0, .slice A0_1 l0_1.length c0_1, .slice A0_2 l0_2.length c0_2] 29 (0, 0))) nd)
   go_wp2_with (fail)
   refine (impl_holdsOk.calls 17 A0_1 c0_1 l0_1 false _ (Kd.C_below HR1.out HB.out) HC1.out E1.out).mono ?_
   rintro e w2 ⟨rfl, hb⟩
   have HB2 := Aside0.mk (below_step HB.out hb)
   clear hb
   go_wp2_with (fail)
   go_ret
   exact ⟨rfl, HB2.out⟩
  | true =>
   have E1 := Aside0.mk (h3 ▸ E1.out)
   have HL3 := Aside0.mk h3
   clear h3
   have hgo : Below w.heap.size w ((w.alloc (.cells #[.int .i64 a0_0, .slice A0_1 l0_1.length c0_1, .slice A0_2 l0_2.length c0_2] 29 (0, 0)))) := below_alloc (Below.refl w.heap.size w) _
   have hx0 : (w.alloc (.cells #[.int .i64 a0_0, .slice A0_1 l0_1.length c0_1, .slice A0_2 l0_2.length c0_2] 29 (0, 0))).cell? ⟨w.heap.size, 0, none⟩ = some (.int .i64 a0_0) := by rw [World.cell?_alloc_new]; rfl
   have hx1 : (w.alloc (.cells #[.int .i64 a0_0, .slice A0_1 l0_1.length c0_1, .slice A0_2 l0_2.length c0_2] 29 (0, 0))).cell? ⟨w.heap.size, 1, none⟩ = some (.slice A0_1 l0_1.length c0_1) := by rw [World.cell?_alloc_new]; rfl
   have hx2 : (w.alloc (.cells #[.int .i64 a0_0, .slice A0_1 l0_1.length c0_1, .slice A0_2 l0_2.length c0_2] 29 (0, 0))).cell? ⟨w.heap.size, 2, none⟩ = some (.slice A0_2 l0_2.length c0_2) := by rw [World.cell?_alloc_new]; rfl
   have hbs : w.heap.size < (w.alloc (.cells #[.int .i64 a0_0, .slice A0_1 l0_1.length c0_1, .slice A0_2 l0_2.length c0_2] 29 (0, 0))).heap.size := World.block_lt_of_cell? _ _ hx0
   go_enter Try.func18, Try.ntmps18
   go_wp2_with (fail)
   generalize (w.alloc (.cells #[.int .i64 a0_0, .slice A0_1 l0_1.length c0_1, .slice A0_2 l0_2.length c0_2] 29 (0, 0))) = WB at hx0 hx1 hx2 hbs hgo ⊢
   refine (impl_isSlot.calls a0_0 true _ HS.out).mono ?_
   rintro e w1 ⟨rfl, ⟨nd, rfl⟩⟩
   have HG := Aside0.mk hgo
   have HX1 := Aside0.mk hx1
   have HX2 := Aside0.mk hx2
   have HB := Aside0.mk (pw_below_drewN (Below.refl WB.heap.size WB) nd)
   have HBS := Aside0.mk hbs
   clear hbs hgo
   go_wp2_with (fail)
   refine (impl_holdsOk.calls 17 A0_1 c0_1 l0_1 true _ (Kd.C_below (Kd.C_below HR1.out HG.out) HB.out) HC1.out E1.out).mono ?_
   rintro e w2 ⟨rfl, hb⟩
   have HB2 := Aside0.mk (below_step HB.out hb)
   clear hb hx0
   have hx1 := (HB2.out.cell (World.block_lt_of_cell? _ _ HX1.out)).trans HX1.out
   have hx2 := (HB2.out.cell (World.block_lt_of_cell? _ _ HX2.out)).trans HX2.out
   cases h4 : holdsB l0_2 with
   | false =>
    have E2 := Aside0.mk (h4 ▸ E2.out)
    have he := Aside0.mk (show lockB a0_0 l0_1 l0_2 = false by unfold lockB; rw [HL1.out, decide_eq_true HL2.out, HL3.out, h4]; rfl)
    clear h4
    go_wp2_with (fail)
    refine (impl_holdsOk.calls 17 A0_2 c0_2 l0_2 false _ (Kd.C_below (Kd.C_below HR2.out HG.out) HB2.out) HC2.out E2.out).mono ?_
    rintro e w3 ⟨rfl, hb⟩
    have HB3 := Aside0.mk (below_step HB2.out hb)
    clear hb
    go_wp2_with (fail)
    go_ret
    exact ⟨by rw [he.out]; rfl, below_step HG.out HB3.out⟩
   | true =>
    have E2 := Aside0.mk (h4 ▸ E2.out)
    have HL4 := Aside0.mk h4
    clear h4
    go_wp2_with (fail)
    refine (impl_holdsOk.calls 17 A0_2 c0_2 l0_2 true _ (Kd.C_below (Kd.C_below HR2.out HG.out) HB2.out) HC2.out E2.out).mono ?_
    rintro e w3 ⟨rfl, hb⟩
    have HB3 := Aside0.mk (below_step HB2.out hb)
    clear hb hx1 hx2
    have hx1 := (HB3.out.cell (World.block_lt_of_cell? _ _ HX1.out)).trans HX1.out
    have hx2 := (HB3.out.cell (World.block_lt_of_cell? _ _ HX2.out)).trans HX2.out
    go_wp2_with (fail)
    go_loopw [38] (fun v wr => ∃ x : Nat, v = .int .i64 (x : Int) ∧ Aside0 (x ≤ l0_1.length) ∧ Aside0 (∀ j : Nat, j < x → l0_1.any (meetB (rd_T45 l0_1 (j : Int))) = false) ∧ Aside0 (Below WB.heap.size WB wr)) (fun v _ => l0_1.length - (intOf v).toNat)
    case atStart => exact ⟨0, rfl, ⟨by omega⟩, ⟨fun j hj => absurd hj (by omega)⟩, HB3⟩
    case round =>
     clear hx1 hx2 HB3 HB2 HB
     obtain ⟨x, rfl, HX, HN, HB⟩ := hrel
     have hz1 := (HB.out.cell (World.block_lt_of_cell? _ _ HX1.out)).trans HX1.out
     have hz2 := (HB.out.cell (World.block_lt_of_cell? _ _ HX2.out)).trans HX2.out
     have hzs : w.heap.size < wr.heap.size := Nat.lt_of_lt_of_le HBS.out HB.out.size
     by_cases hlt : x < l0_1.length
     ·have hdl : decide (x < l0_1.length) = true := decide_eq_true hlt
      have HLT := Aside0.mk hlt
      obtain ⟨ad, hA, hy0, hy1, hy2, hy3⟩ := at_T45 (Kd.C_below (Kd.C_below HR1.out HG.out) HB.out) (x : Int) (by omega) (by omega)
      subst hA
      simp only [Int.toNat_natCast] at hy0 hy1 hy2 hy3
      have hw : wrap64 ((x : Int) + 1) = (x : Int) + 1 := by have := HL2.out; unfold wrap64; omega
      cases hz : l0_1.any (meetB (rd_T45 l0_1 (x : Int))) with
      | true =>
       have he := Aside0.mk (show lockB a0_0 l0_1 l0_2 = false by
        have hn : l0_1.all (fun a => !l0_1.any (meetB a)) = false := by
         rw [List.all_eq_false]
         exact ⟨l0_1[x], List.getElem_mem hlt, by rw [← rdH hlt, hz]; decide⟩
        unfold lockB
        rw [HL1.out, decide_eq_true HL2.out, HL3.out, HL4.out, hn]; rfl)
       have HZ := Aside0.mk hz
       clear hz
       generalize rd_T45 l0_1 (x : Int) = y at hy0 hy1 hy2 hy3 HZ
       go_wp2_with (fail)
       refine (hasHmeets (.agg #[.int .i64 y.f0, .int .i64 y.f1, .bool y.f2, .bool y.f3]) (meetB y) (some ad) c0_1 l0_1 _ ?_ HC1.out (fun x W _ => meets_calls y x W)).mono ?_
       ·exact Kd.C_alloc (Kd.C_below (Kd.C_below HR1.out HG.out) HB.out) _
       rw [HZ.out]
       rintro e w5 ⟨rfl, hb⟩
       have HB5 := Aside0.mk (below_step (below_alloc HB.out _) hb)
       clear hb
       go_wp2_with (fail)
       go_ret
       exact ⟨by rw [he.out]; rfl, below_step HG.out HB5.out⟩
      | false =>
       have HN2 := Aside0.mk (show ∀ j : Nat, j < x + 1 → l0_1.any (meetB (rd_T45 l0_1 (j : Int))) = false by
        intro j hj
        by_cases hjk : j = x
        ·rw [hjk]; exact hz
        ·exact HN.out j (by omega))
       have HZ := Aside0.mk hz
       clear hz
       generalize rd_T45 l0_1 (x : Int) = y at hy0 hy1 hy2 hy3 HZ
       go_wp2_with (fail)
       refine (hasHmeets (.agg #[.int .i64 y.f0, .int .i64 y.f1, .bool y.f2, .bool y.f3]) (meetB y) (some ad) c0_1 l0_1 _ ?_ HC1.out (fun x W _ => meets_calls y x W)).mono ?_
       ·exact Kd.C_alloc (Kd.C_below (Kd.C_below HR1.out HG.out) HB.out) _
       rw [HZ.out]
       rintro e w5 ⟨rfl, hb⟩
       have HB5 := Aside0.mk (below_step (below_alloc HB.out _) hb)
       clear hb
       go_wp2_with (fail)
       go_roundw
       case rel => exact ⟨x + 1, congrArg (Value.int .i64) (by omega), HLT, HN2, HB5⟩
       case measure =>
        have := HLT.out
        rw [hw]
        show l0_1.length - ((x : Int) + 1).toNat < l0_1.length - (x : Int).toNat
        omega
     ·obtain rfl : x = l0_1.length := by have := HX.out; omega
      have hdl : decide (l0_1.length < l0_1.length) = false := decide_eq_false hlt
      clear hlt
      have HA := Aside0.mk (show l0_1.all (fun a => !l0_1.any (meetB a)) = true by
       rw [List.all_eq_true]
       intro a ha
       obtain ⟨j, hj, rfl⟩ := List.getElem_of_mem ha
       have := HN.out j hj
       rw [rdH hj] at this
       rw [this]; rfl)
      have HASC := Aside0.mk (show Asc l0_1 by
       have := HL3.out
       unfold holdsB at this
       rw [Bool.and_eq_true] at this
       exact of_decide_eq_true this.2)
      have HBA := HB
      go_wp2_with (fail)
      clear hz1 hz2 hdl
      go_loopw [51] (fun v wr => ∃ x : Nat, v = .int .i64 (x : Int) ∧ Aside0 (x ≤ l0_2.length) ∧ Aside0 (∀ j : Nat, j < x → hasOf l0_1 (rd_T45 l0_2 (j : Int)).f0 = false ∧ (rd_T45 l0_2 (j : Int)).f3 = false) ∧ Aside0 (Below WB.heap.size WB wr)) (fun v _ => l0_2.length - (intOf v).toNat)
      case atStart => exact ⟨0, rfl, ⟨by omega⟩, ⟨fun j hj => absurd hj (by omega)⟩, HBA⟩
      case round =>
       clear HB HBA HN HX hzs
       obtain ⟨x, rfl, HX, HN, HB⟩ := hrel
       have hz1 := (HB.out.cell (World.block_lt_of_cell? _ _ HX1.out)).trans HX1.out
       have hz2 := (HB.out.cell (World.block_lt_of_cell? _ _ HX2.out)).trans HX2.out
       have hzs : w.heap.size < wr.heap.size := Nat.lt_of_lt_of_le HBS.out HB.out.size
       by_cases hlt : x < l0_2.length
       ·have hdl : decide (x < l0_2.length) = true := decide_eq_true hlt
        have HLT := Aside0.mk hlt
        obtain ⟨ad, hA, hy0, hy1, hy2, hy3⟩ := at_T45 (Kd.C_below (Kd.C_below HR2.out HG.out) HB.out) (x : Int) (by omega) (by omega)
        subst hA
        simp only [Int.toNat_natCast] at hy0 hy1 hy2 hy3
        have hw : wrap64 ((x : Int) + 1) = (x : Int) + 1 := by have := HL2.out; unfold wrap64; omega
        have bad : (hasOf l0_1 (rd_T45 l0_2 (x : Int)).f0 = false ∧ (rd_T45 l0_2 (x : Int)).f3 = false → False) → lockB a0_0 l0_1 l0_2 = false := by
         intro h
         have hn : l0_2.all (fun x => !hasOf l0_1 x.f0 && !x.f3) = false := by
          rw [List.all_eq_false]
          refine ⟨l0_2[x], List.getElem_mem hlt, fun hc => h ?_⟩
          rw [← rdH hlt, Bool.and_eq_true] at hc
          exact ⟨by simpa using hc.1, by simpa using hc.2⟩
         unfold lockB
         rw [HL1.out, decide_eq_true HL2.out, HL3.out, HL4.out, HA.out, hn]; rfl
        cases hz : hasOf l0_1 (rd_T45 l0_2 (x : Int)).f0 with
        | true =>
         have he := Aside0.mk (bad (fun h => by rw [hz] at h; exact absurd h.1 (by decide)))
         have HPL := Aside0.mk hz
         clear hz bad
         generalize rd_T45 l0_2 (x : Int) = y at hy0 hy1 hy2 hy3 HPL
         go_wp2_with (fail)
         refine (place_calls A0_1 c0_1 l0_1 y.f0 (placeOf l0_1 y.f0) true _ ?_ HC1.out HASC.out (by have := HL2.out; omega) rfl HPL.out).mono ?_
         ·exact Kd.C_alloc (Kd.C_below (Kd.C_below HR1.out HG.out) HB.out) _
         rintro e w5 ⟨rfl, hb⟩
         have HB5 := Aside0.mk (below_step (below_alloc HB.out _) hb)
         clear hb
         go_wp2_with (fail)
         go_ret
         exact ⟨by rw [he.out]; rfl, below_step HG.out HB5.out⟩
        | false =>
         have HPL := Aside0.mk hz
         cases hf : (rd_T45 l0_2 (x : Int)).f3 with
         | true =>
          have he := Aside0.mk (bad (fun h => by rw [hf] at h; exact absurd h.2 (by decide)))
          rw [hf] at hy3
          clear hz bad hf
          generalize rd_T45 l0_2 (x : Int) = y at hy0 hy1 hy2 HPL
          go_wp2_with (fail)
          refine (place_calls A0_1 c0_1 l0_1 y.f0 (placeOf l0_1 y.f0) false _ ?_ HC1.out HASC.out (by have := HL2.out; omega) rfl HPL.out).mono ?_
          ·exact Kd.C_alloc (Kd.C_below (Kd.C_below HR1.out HG.out) HB.out) _
          rintro e w5 ⟨rfl, hb⟩
          have HB5 := Aside0.mk (below_step (below_alloc HB.out _) hb)
          have hq : w5.cell? ⟨wr.heap.size, 3, none⟩ = some (.bool true) := newcell hb rfl
          clear hb
          go_wp2_with (fail)
          go_ret
          exact ⟨by rw [he.out]; rfl, below_step HG.out HB5.out⟩
         | false =>
          have HN2 := Aside0.mk (show ∀ j : Nat, j < x + 1 → hasOf l0_1 (rd_T45 l0_2 (j : Int)).f0 = false ∧ (rd_T45 l0_2 (j : Int)).f3 = false by
           intro j hj
           by_cases hjk : j = x
           ·rw [hjk]; exact ⟨hz, hf⟩
           ·exact HN.out j (by omega))
          rw [hf] at hy3
          clear hz bad hf
          generalize rd_T45 l0_2 (x : Int) = y at hy0 hy1 hy2 HPL
          go_wp2_with (fail)
          refine (place_calls A0_1 c0_1 l0_1 y.f0 (placeOf l0_1 y.f0) false _ ?_ HC1.out HASC.out (by have := HL2.out; omega) rfl HPL.out).mono ?_
          ·exact Kd.C_alloc (Kd.C_below (Kd.C_below HR1.out HG.out) HB.out) _
          rintro e w5 ⟨rfl, hb⟩
          have HB5 := Aside0.mk (below_step (below_alloc HB.out _) hb)
          have hq : w5.cell? ⟨wr.heap.size, 3, none⟩ = some (.bool false) := newcell hb rfl
          clear hb
          go_wp2_with (fail)
          go_roundw
          case rel => exact ⟨x + 1, congrArg (Value.int .i64) (by omega), HLT, HN2, HB5⟩
          case measure =>
           have := HLT.out
           rw [hw]
           show l0_2.length - ((x : Int) + 1).toNat < l0_2.length - (x : Int).toNat
           omega
       ·obtain rfl : x = l0_2.length := by have := HX.out; omega
        have hdl : decide (l0_2.length < l0_2.length) = false := decide_eq_false hlt
        clear hlt
        have he := Aside0.mk (show lockB a0_0 l0_1 l0_2 = true by
         have hn : l0_2.all (fun x => !hasOf l0_1 x.f0 && !x.f3) = true := by
          rw [List.all_eq_true]
          intro a ha
          obtain ⟨j, hj, rfl⟩ := List.getElem_of_mem ha
          have := HN.out j hj
          rw [rdH hj] at this
          rw [this.1, this.2]; rfl
         unfold lockB
         rw [HL1.out, decide_eq_true HL2.out, HL3.out, HL4.out, HA.out, hn]; rfl)
        go_wp2_with (fail)
        go_ret
        exact ⟨by rw [he.out]; rfl, below_step HG.out HB.out⟩

end Go.Proofs.Ytjldpnhlegbjkaa.PA
