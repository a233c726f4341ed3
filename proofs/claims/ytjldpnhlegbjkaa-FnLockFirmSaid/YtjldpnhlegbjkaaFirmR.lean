/- A plain law of LockFirm and LockAsk: what is promised is never taken. -/
import Derived.Test.YtjldpnhlegbjkaaAskQ
namespace Go.Proofs.Ytjldpnhlegbjkaa.PB
open Go.RowKit Go.Proofs.Ytjldpnhlegbjkaa.PA Go.Proofs.YtjldpnhlegbjkaaW.PrintWords Go.Proofs.YtjldpnhlegbjkaaW.PrintLast
set_option linter.unusedVariables false
set_option linter.unusedSimpArgs false
theorem holdB_q (x : S45) : holdB x = true ↔ (1 ≤ x.f0 ∧ x.f0 ≤ 9999) ∧ 1 ≤ x.f1 ∧ x.f1 ≤ 9999 := by
  unfold holdB
  simp only [Bool.and_eq_true, decide_eq_true_eq]
theorem firm_at {l : List S45} {t : Int} (h : hasOf l t = true) : ∃ (n : Nat) (hn : n < l.length), (placeOf l t).toNat = n ∧ rd_T45 l (placeOf l t) = l[n] := by
  have hp := place_in h
  refine ⟨(placeOf l t).toNat, by omega, rfl, ?_⟩
  have e : rd_T45 l (((placeOf l t).toNat : Nat) : Int) = l[(placeOf l t).toNat]'(by omega) := rdH (by omega)
  rwa [show (((placeOf l t).toNat : Nat) : Int) = placeOf l t by omega] at e
theorem mem_firm {l : List S45} {t : Int} (h : hasOf l t = true) {z : S45} (hz : z ∈ firmed l t) : ∃ y ∈ l, z.f0 = y.f0 ∧ z.f1 = y.f1 ∧ z.f2 = y.f2 := by
  obtain ⟨n, hn, e1, e2⟩ := firm_at h
  unfold firmed at hz
  rw [e1, e2] at hz
  rcases List.mem_or_eq_of_mem_set hz with q | q
  · exact ⟨z, q, rfl, rfl, rfl⟩
  · subst q; exact ⟨l[n], List.getElem_mem hn, rfl, rfl, rfl⟩
theorem firm_asc {l : List S45} {t : Int} (h : hasOf l t = true) (ha : Asc l) : Asc (firmed l t) := by
  obtain ⟨n, hn, e1, e2⟩ := firm_at h
  unfold firmed
  rw [e1, e2]
  have q := List.pairwise_iff_getElem.1 ha
  refine List.pairwise_iff_getElem.2 (fun i j hi hj hij => ?_)
  have hi' : i < l.length := by simpa using hi
  have hj' : j < l.length := by simpa using hj
  have k := q i j hi' hj' hij
  have k1 : ∀ m (hm : m < l.length) (hm' : m < (l.set n ⟨l[n].f0, l[n].f1, l[n].f2, true⟩).length), ((l.set n ⟨l[n].f0, l[n].f1, l[n].f2, true⟩)[m]'hm').f0 = (l[m]).f0 := by
    intro m hm hm'
    rw [List.getElem_set]
    split
    · rename_i e; subst e; rfl
    · rfl
  rw [k1 i hi' hi, k1 j hj' hj]
  exact k
theorem firm_ok {s : Int} {l1 l2 : List S45} {t y r1 : Int} {r2 r3 : List S45} (h : firmOf s l1 l2 t y = (r1, r2, r3, true)) : lockB r1 r2 r3 = true ∧ ∃ z ∈ r2, z.f0 = t ∧ z.f1 = y ∧ z.f3 = true := by
  unfold firmOf at h
  by_cases q : lockB s l1 l2 = true
  · rw [if_pos q] at h
    by_cases c : hasOf l1 t = true
    · rw [if_pos c] at h
      by_cases d : (rd_T45 l1 (placeOf l1 t)).f1 = y
      · rw [if_pos d] at h
        simp only [Prod.mk.injEq, and_true] at h
        obtain ⟨rfl, rfl, rfl⟩ := h
        obtain ⟨b1, b2, b3, b4, b5, b6, b7, b8⟩ := (lockB_iff s l1 l2).1 q
        have ln : (firmed l1 t).length = l1.length := by unfold firmed; simp
        constructor
        · refine (lockB_iff _ _ _).2 ⟨b1, by omega, ?_, firm_asc c b4, b5, b6, ?_, ?_⟩
          · intro z hz
            obtain ⟨u, hu, u0, u1, u2⟩ := mem_firm c hz
            have := (holdB_q u).1 (b3 u hu)
            refine (holdB_q z).2 ?_
            rw [u0, u1]
            exact this
          · intro a ha b hb
            obtain ⟨u, hu, u0, u1, u2⟩ := mem_firm c ha
            obtain ⟨v, hv, v0, v1, v2⟩ := mem_firm c hb
            have := (meet_no _ _).1 (b7 u hu v hv)
            refine (meet_no _ _).2 ?_
            rw [u0, u2, v0, v2]
            exact this
          · intro x hx
            refine ⟨has_no.2 (fun z hz => ?_), (b8 x hx).2⟩
            obtain ⟨u, hu, u0, _, _⟩ := mem_firm c hz
            rw [u0]
            exact has_no.1 (b8 x hx).1 u hu
        · obtain ⟨n, hn, e1, e2⟩ := firm_at c
          have hf0 : (rd_T45 l1 (placeOf l1 t)).f0 = t := by
            obtain ⟨z, hz, ht⟩ := has_mem.1 c
            rw [at_place b4 hz ht]
            exact ht
          refine ⟨⟨(rd_T45 l1 (placeOf l1 t)).f0, (rd_T45 l1 (placeOf l1 t)).f1, (rd_T45 l1 (placeOf l1 t)).f2, true⟩, ?_, hf0, d, rfl⟩
          unfold firmed
          refine List.mem_iff_getElem.2 ⟨(placeOf l1 t).toNat, by simp; omega, by simp⟩
      · rw [if_neg d] at h
        simp at h
    · rw [if_neg c] at h
      simp at h
  · rw [if_neg q] at h
    simp at h
/-- What is promised is not taken and stays. -/
theorem ask_promise {s : Int} {l1 l2 : List S45} {x z : S45} {r1 : Int} {r2 r3 r5 : List S45} {r4 : Bool} (h : lockB s l1 l2 = true) (hz : z ∈ l1) (h3 : z.f3 = true) (ha : askF s l1 l2 x = (r1, r2, r3, r4, r5)) : z ∈ r2 ∧ ∀ y ∈ r5, y.f0 ≠ z.f0 := by
  have c := ask_case (x := x) h
  rw [ha] at c
  obtain ⟨_, _, _, a1, _, _, _, _⟩ := (lockB_iff s l1 l2).1 h
  have ht : tkB x z = false := by unfold tkB; rw [h3]; simp
  have hk : ∀ y ∈ takenOf l1 x, y.f0 ≠ z.f0 := by
    intro y hy e
    obtain ⟨y1, _, y3⟩ := mem_taken.1 hy
    have e1 := at_uniq (x := z) a1 y1 e
    rw [at_uniq (x := z) a1 hz rfl] at e1
    subst e1
    rw [ht] at y3
    cases y3
  have hm : (∀ y ∈ l1, y.f0 = x.f0 → y.f3 = false ∧ y.f1 < x.f1) → z ∈ keepOf l1 x := by
    intro hn
    refine mem_keep.2 ⟨hz, fun e => ?_, ht⟩
    have := (hn z hz e).1
    rw [h3] at this
    cases this
  cases c with
  | bad => exact ⟨hz, fun y hy => by simp at hy⟩
  | held => exact ⟨hz, fun y hy => by simp at hy⟩
  | waits => exact ⟨hz, fun y hy => by simp at hy⟩
  | full => exact ⟨hz, fun y hy => by simp at hy⟩
  | got _ _ hn => exact ⟨put_mem.2 (.inr (hm hn)), hk⟩
  | wait _ _ hn => exact ⟨hm hn, hk⟩
end Go.Proofs.Ytjldpnhlegbjkaa.PB
