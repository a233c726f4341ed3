/- More plain laws of LockAsk as a pure function (askF). -/
import Derived.Test.YtjldpnhlegbjkaaAskQ
namespace Go.Proofs.Ytjldpnhlegbjkaa.PB
open Go.RowKit Go.Proofs.Ytjldpnhlegbjkaa.PA Go.Proofs.YtjldpnhlegbjkaaW.PrintWords Go.Proofs.YtjldpnhlegbjkaaW.PrintLast
set_option linter.unusedVariables false
set_option linter.unusedSimpArgs false
theorem ask_of {s : Int} {l1 l2 : List S45} {x : S45} {r : Int × List S45 × List S45 × Bool × List S45} (h : lockB s l1 l2 = true) (c : AskCase s l1 l2 x r) : askF s l1 l2 x = r := by
  obtain ⟨_, _, _, a1, _, a2, _, _⟩ := (lockB_iff s l1 l2).1 h
  have k0 : ¬ lockB s l1 l2 = false := by rw [h]; exact Bool.noConfusion
  have nb : holdB x = true → x.f3 = false → ¬ (holdB x = false ∨ x.f3 = true) := by
    intro q1 q2 q
    rw [q1, q2] at q
    simp at q
  have n2 : (∀ z ∈ l1, z.f0 = x.f0 → z.f3 = false ∧ z.f1 < x.f1) → ¬ (hasOf l1 x.f0 = true ∧ ((rd_T45 l1 ((placeN l1 x : Nat) : Int)).f3 = true ∨ x.f1 ≤ (rd_T45 l1 ((placeN l1 x : Nat) : Int)).f1)) := by
    rintro q ⟨q1, q2⟩
    obtain ⟨m1, m2⟩ := at_has a1 q1
    obtain ⟨e1, e2⟩ := q _ m1 m2
    rcases q2 with q2 | q2
    · rw [e1] at q2; cases q2
    · omega
  have n3 : (∀ z ∈ l2, z.f0 = x.f0 → z.f1 ≤ x.f1) → ¬ (hasOf l2 x.f0 = true ∧ x.f1 < (rd_T45 l2 ((placeN l2 x : Nat) : Int)).f1) := by
    rintro q ⟨q1, q2⟩
    obtain ⟨m1, m2⟩ := at_has a2 q1
    have := q _ m1 m2
    omega
  unfold askF
  rw [if_neg k0]
  cases c with
  | bad h => rw [if_pos h]
  | held hx hf z hz hs h =>
    rw [if_neg (nb hx hf), at_uniq a1 hz hs, if_pos ⟨has_mem.2 ⟨z, hz, hs⟩, h⟩]
  | waits hx hf hn z hz hs h =>
    rw [if_neg (nb hx hf), if_neg (n2 hn), at_uniq a2 hz hs, if_pos ⟨has_mem.2 ⟨z, hz, hs⟩, h⟩]
  | full hx hf hn hw h =>
    rw [if_neg (nb hx hf), if_neg (n2 hn), if_neg (n3 hw), tailF_eq, if_pos h]
  | got hx hf hn hw h hm =>
    rw [if_neg (nb hx hf), if_neg (n2 hn), if_neg (n3 hw), tailF_eq, if_neg (by omega), if_pos hm]
  | wait hx hf hn hw h hm =>
    rw [if_neg (nb hx hf), if_neg (n2 hn), if_neg (n3 hw), tailF_eq, if_neg (by omega), if_neg (by rw [hm]; exact Bool.noConfusion)]
theorem filter_put {m : List S45} {x : S45} (h : ∀ y ∈ m, y.f0 ≠ x.f0) : restOf (putOf m x) x = m := by
  unfold restOf putOf
  have e : ∀ k : List S45, (∀ y ∈ k, y.f0 ≠ x.f0) → k.filter (fun y => !decide (y.f0 = x.f0)) = k := by
    intro k hk
    exact List.filter_eq_self.2 (fun y hy => by simp [hk y hy])
  rw [List.filter_append, List.filter_cons_of_neg (by simp), e _ (fun y hy => h y (List.mem_of_mem_take hy)), e _ (fun y hy => h y (List.mem_of_mem_drop hy)), List.take_append_drop]
theorem keep_keep (l : List S45) (x : S45) : keepOf (keepOf l x) x = keepOf l x := by
  have e1 : (keepOf l x).filter (fun y => !decide (y.f0 = x.f0)) = keepOf l x := List.filter_eq_self.2 (fun y hy => by simp [(mem_keep.1 hy).2.1])
  have e2 : (keepOf l x).filter (fun y => !tkB x y) = keepOf l x := List.filter_eq_self.2 (fun y hy => by simp [(mem_keep.1 hy).2.2])
  show ((keepOf l x).filter (fun y => !decide (y.f0 = x.f0))).filter (fun y => !tkB x y) = _
  rw [e1, e2]
theorem taken_keep (l : List S45) (x : S45) : takenOf (keepOf l x) x = [] := by
  have e1 : (keepOf l x).filter (fun y => !decide (y.f0 = x.f0)) = keepOf l x := List.filter_eq_self.2 (fun y hy => by simp [(mem_keep.1 hy).2.1])
  show ((keepOf l x).filter (fun y => !decide (y.f0 = x.f0))).filter (tkB x) = _
  rw [e1]
  exact List.filter_eq_nil_iff.2 (fun y hy => by simp [(mem_keep.1 hy).2.2])
theorem ask_twice {s : Int} {l1 l2 : List S45} {x : S45} {r1 : Int} {r2 r3 r5 : List S45} {r4 : Bool} (h : lockB s l1 l2 = true) (ha : askF s l1 l2 x = (r1, r2, r3, r4, r5)) : askF r1 r2 r3 x = (r1, r2, r3, r4, []) := by
  have hk := ask_ok h ha
  have c := ask_case (x := x) h
  rw [ha] at c
  cases c with
  | bad => exact ha
  | held => exact ha
  | waits => exact ha
  | full => exact ha
  | got hx hf hn hw hl hm =>
    have e := ask_of hk (.held hx hf x (put_mem.2 (.inl rfl)) rfl (.inr (Int.le_refl _)))
    rw [e]
    simp [eqH]
  | wait hx hf hn hw hl hm =>
    have nr : ∀ y ∈ restOf l2 x, y.f0 ≠ x.f0 := fun y hy => (mem_rest.1 hy).2
    have e1 := keep_keep l1 x
    have e2 := filter_put nr
    have e := ask_of (x := x) hk (.wait hx hf (fun z hz ht => absurd ht (mem_keep.1 hz).2.1) (fun z hz ht => by
      rcases put_mem.1 hz with rfl | q
      · exact Int.le_refl _
      · exact absurd ht (nr z q)) (by rw [e1, e2]; exact hl) (by rw [e1, e2]; exact hm))
    rw [e, e1, e2, taken_keep]
theorem holdB_iff (x : S45) : holdB x = true ↔ (1 ≤ x.f0 ∧ x.f0 ≤ 9999) ∧ 1 ≤ x.f1 ∧ x.f1 ≤ 9999 := by
  unfold holdB
  simp only [Bool.and_eq_true, decide_eq_true_eq]
theorem keep_len (l : List S45) (x : S45) : (keepOf l x).length ≤ l.length := Nat.le_trans (List.length_filter_le _ _) (List.length_filter_le _ _)
theorem rest_len (l : List S45) (x : S45) : (restOf l x).length ≤ l.length := List.length_filter_le _ _
theorem taken_len (l : List S45) (x : S45) : (takenOf l x).length ≤ l.length := Nat.le_trans (List.length_filter_le _ _) (List.length_filter_le _ _)
theorem ask_elder {s : Int} {l1 l2 : List S45} {x : S45} {r1 : Int} {r2 r3 r5 : List S45} {r4 : Bool} (h : lockB s l1 l2 = true) (hf : x.f3 = false) (hx : (1 ≤ x.f0 ∧ x.f0 ≤ 9999) ∧ 1 ≤ x.f1 ∧ x.f1 ≤ 9999) (hl : l1.length + l2.length < 16) (h1 : ∀ z ∈ l1, z.f3 = false ∧ x.f0 < z.f0) (h2 : ∀ z ∈ l2, x.f0 < z.f0) (ha : askF s l1 l2 x = (r1, r2, r3, r4, r5)) : r4 = true := by
  have c := ask_case (x := x) h
  rw [ha] at c
  cases c with
  | bad h' =>
    rcases h' with q | q
    · rw [(holdB_iff x).2 hx] at q; cases q
    · rw [hf] at q; cases q
  | held _ _ z hz hs => have := (h1 z hz).2; omega
  | waits _ _ _ z hz hs => have := h2 z hz; omega
  | full _ _ _ _ h' => have := keep_len l1 x; have := rest_len l2 x; omega
  | got => rfl
  | wait _ _ _ _ _ hm =>
    exfalso
    have : mayB (keepOf l1 x) (restOf l2 x) x = true := by
      refine (mayB_iff _ _ _).2 ⟨fun y hy => ?_, fun y hy hlt => ?_⟩
      · obtain ⟨y1, y2, y3⟩ := mem_keep.1 hy
        obtain ⟨e1, e2⟩ := h1 y y1
        unfold tkB at y3
        rw [e1, decide_eq_true e2] at y3
        simpa using y3
      · have := h2 y (mem_rest.1 hy).1
        omega
    rw [hm] at this
    cases this
/-- What LockAsk takes is younger, has not promised, and does not hold any more. -/
theorem ask_taken {s : Int} {l1 l2 : List S45} {x : S45} {r1 : Int} {r2 r3 r5 : List S45} {r4 : Bool} (h : lockB s l1 l2 = true) (ha : askF s l1 l2 x = (r1, r2, r3, r4, r5)) : ∀ t ∈ r5, (t.f3 = false ∧ x.f0 < t.f0) ∧ ∀ y ∈ r2, y.f0 ≠ t.f0 := by
  have c := ask_case (x := x) h
  obtain ⟨_, _, _, a1, _, _, _, _⟩ := (lockB_iff s l1 l2).1 h
  rw [ha] at c
  have key : ∀ t ∈ takenOf l1 x, (t.f3 = false ∧ x.f0 < t.f0) ∧ ∀ y ∈ keepOf l1 x, y.f0 ≠ t.f0 := by
    intro t ht
    obtain ⟨t1, t2, t3⟩ := mem_taken.1 ht
    have t4 := t3
    unfold tkB at t3
    simp only [Bool.and_eq_true, decide_eq_true_eq, Bool.not_eq_true'] at t3
    refine ⟨⟨t3.2.2, t3.2.1⟩, fun y hy e => ?_⟩
    obtain ⟨y1, y2, y3⟩ := mem_keep.1 hy
    have e1 := at_uniq (x := t) a1 y1 e
    have e2 := at_uniq (x := t) a1 t1 rfl
    rw [e1] at e2
    subst e2
    rw [t4] at y3
    cases y3
  cases c with
  | bad => intro t ht; simp at ht
  | held => intro t ht; simp at ht
  | waits => intro t ht; simp at ht
  | full => intro t ht; simp at ht
  | got hx hf hn hw hl hm =>
    intro t ht
    obtain ⟨k1, k2⟩ := key t ht
    refine ⟨k1, fun y hy => ?_⟩
    rcases put_mem.1 hy with rfl | q
    · have := k1.2; omega
    · exact k2 y q
  | wait hx hf hn hw hl hm => exact key
/-- Who does not get the lock of a lock that is not ok gets nothing. -/
theorem ask_none {s : Int} {l1 l2 : List S45} {x : S45} (h : lockB s l1 l2 = false) : askF s l1 l2 x = (0, [], [], false, []) := by
  unfold askF
  rw [if_pos h]
theorem held_share {s : Int} {l1 l2 : List S45} (h : lockB s l1 l2 = true) {i k : Nat} (hi : i < l1.length) (hk : k < i) : (l1[i]).f2 = true ∧ (l1[k]'(by omega)).f2 = true := by
  obtain ⟨_, _, _, a1, _, _, b7, _⟩ := (lockB_iff s l1 l2).1 h
  have q := b7 _ (List.getElem_mem hi) _ (List.getElem_mem (show k < l1.length by omega))
  have hlt : (l1[k]'(by omega)).f0 < (l1[i]).f0 := List.pairwise_iff_getElem.1 a1 k i (by omega) hi hk
  rcases (meet_no _ _).1 q with e | e
  · omega
  · exact e
theorem ask_share {s : Int} {l1 l2 : List S45} {x : S45} {r1 : Int} {r2 r3 r5 : List S45} {r4 : Bool} (h : lockB s l1 l2 = true) (hf : x.f3 = false) (h2 : x.f2 = true) (hx : (1 ≤ x.f0 ∧ x.f0 ≤ 9999) ∧ 1 ≤ x.f1 ∧ x.f1 ≤ 9999) (he : l2 = []) (hl : l1.length < 16) (h1 : ∀ z ∈ l1, z.f2 = true ∧ z.f0 ≠ x.f0) (ha : askF s l1 l2 x = (r1, r2, r3, r4, r5)) : r4 = true ∧ r5 = [] ∧ r2.length = l1.length + 1 := by
  subst he
  have c := ask_case (x := x) h
  rw [ha] at c
  have hm0 : ∀ z ∈ l1, meetB x z = false := fun z hz => (meet_no _ _).2 (.inr ⟨h2, (h1 z hz).1⟩)
  have hk0 : ∀ z ∈ l1, tkB x z = false := fun z hz => by unfold tkB; rw [hm0 z hz]; rfl
  have e0 : l1.filter (fun y => !decide (y.f0 = x.f0)) = l1 := List.filter_eq_self.2 (fun y hy => by simp [(h1 y hy).2])
  have ek : keepOf l1 x = l1 := by
    unfold keepOf
    rw [e0]
    exact List.filter_eq_self.2 (fun y hy => by simp [hk0 y hy])
  have et : takenOf l1 x = [] := by
    unfold takenOf
    rw [e0]
    exact List.filter_eq_nil_iff.2 (fun y hy => by simp [hk0 y hy])
  have er : restOf ([] : List S45) x = [] := rfl
  have hm1 : mayB (keepOf l1 x) (restOf [] x) x = true := by
    rw [ek, er]
    exact (mayB_iff _ _ _).2 ⟨fun y hy => hm0 y hy, fun y hy => by simp at hy⟩
  cases c with
  | bad h' =>
    rcases h' with q | q
    · rw [(holdB_iff x).2 hx] at q; cases q
    · rw [hf] at q; cases q
  | held _ _ z hz hs => exact absurd hs (h1 z hz).2
  | waits _ _ _ z hz hs => simp at hz
  | full _ _ _ _ h' => rw [ek, er] at h'; simp at h'; omega
  | got => exact ⟨rfl, et, by rw [put_length, ek]⟩
  | wait _ _ _ _ _ hm => rw [hm1] at hm; cases hm
end Go.Proofs.Ytjldpnhlegbjkaa.PB
