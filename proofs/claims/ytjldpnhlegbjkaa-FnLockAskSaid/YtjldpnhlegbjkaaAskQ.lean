/- Plain laws of LockAsk, LockFree and LockFirm as pure functions (askF, freeF, firmOf). -/
import Derived.Test.YtjldpnhlegbjkaaFirmPa
namespace Go.Proofs.Ytjldpnhlegbjkaa.PB
open Go.RowKit Go.Proofs.Ytjldpnhlegbjkaa.PA Go.Proofs.YtjldpnhlegbjkaaW.PrintWords Go.Proofs.YtjldpnhlegbjkaaW.PrintLast
set_option linter.unusedVariables false
set_option linter.unusedSimpArgs false
theorem ask_len5 (s : Int) (l1 l2 : List S45) (x : S45) : (askF s l1 l2 x).2.2.2.2.length ≤ 16 := by
  unfold askF
  split
  · simp
  · rename_i h
    have hl := lock_len h
    split
    · simp
    · split
      · simp
      · split
        · simp
        · unfold tailF
          have a1 := Nat.le_trans (List.length_filter_le (tkB x) (l1.filter (fun y => !decide (y.f0 = x.f0)))) (List.length_filter_le (fun y => !decide (y.f0 = x.f0)) l1)
          split
          · simp
          · split
            · simp only; omega
            · simp only; omega
theorem lockB_iff (s : Int) (h w : List S45) : lockB s h w = true ↔ (0 ≤ s ∧ s ≤ 7) ∧ h.length + w.length ≤ 16 ∧ (∀ z ∈ h, holdB z = true) ∧ Asc h ∧ (∀ z ∈ w, holdB z = true) ∧ Asc w ∧ (∀ a ∈ h, ∀ b ∈ h, meetB a b = false) ∧ (∀ x ∈ w, hasOf h x.f0 = false ∧ x.f3 = false) := by
  unfold lockB holdsB
  simp only [Bool.and_eq_true, decide_eq_true_eq, List.all_eq_true, Bool.not_eq_true', List.any_eq_false, Bool.not_eq_true]
  constructor
  · rintro ⟨a, b, ⟨c, d⟩, ⟨e, f⟩, g, i⟩
    exact ⟨a, b, c, d, e, f, g, i⟩
  · rintro ⟨a, b, c, d, e, f, g, i⟩
    exact ⟨a, b, ⟨c, d⟩, ⟨e, f⟩, g, i⟩
def keepOf (l1 : List S45) (x : S45) : List S45 := (l1.filter (fun y => !decide (y.f0 = x.f0))).filter (fun y => !tkB x y)
def takenOf (l1 : List S45) (x : S45) : List S45 := (l1.filter (fun y => !decide (y.f0 = x.f0))).filter (tkB x)
def restOf (l2 : List S45) (x : S45) : List S45 := l2.filter (fun y => !decide (y.f0 = x.f0))
theorem mem_keep {l : List S45} {x z : S45} : z ∈ keepOf l x ↔ z ∈ l ∧ z.f0 ≠ x.f0 ∧ tkB x z = false := by
  unfold keepOf
  simp only [List.mem_filter, Bool.not_eq_true', decide_eq_false_iff_not]
  constructor
  · rintro ⟨⟨a, b⟩, c⟩; exact ⟨a, b, c⟩
  · rintro ⟨a, b, c⟩; exact ⟨⟨a, b⟩, c⟩
theorem mem_taken {l : List S45} {x z : S45} : z ∈ takenOf l x ↔ z ∈ l ∧ z.f0 ≠ x.f0 ∧ tkB x z = true := by
  unfold takenOf
  simp only [List.mem_filter, Bool.not_eq_true', decide_eq_false_iff_not]
  constructor
  · rintro ⟨⟨a, b⟩, c⟩; exact ⟨a, b, c⟩
  · rintro ⟨a, b, c⟩; exact ⟨⟨a, b⟩, c⟩
theorem mem_rest {l : List S45} {x z : S45} : z ∈ restOf l x ↔ z ∈ l ∧ z.f0 ≠ x.f0 := by
  unfold restOf
  simp only [List.mem_filter, Bool.not_eq_true', decide_eq_false_iff_not]
theorem keep_asc {l : List S45} {x : S45} (h : Asc l) : Asc (keepOf l x) := (h.filter _).filter _
theorem rest_asc {l : List S45} {x : S45} (h : Asc l) : Asc (restOf l x) := h.filter _
theorem keep_has (l : List S45) (x : S45) : hasOf (keepOf l x) x.f0 = false := has_gone l x.f0 _
theorem rest_has (l : List S45) (x : S45) : hasOf (restOf l x) x.f0 = false := has_gone1 l x.f0
theorem tailF_eq (s : Int) (l1 l2 : List S45) (x : S45) : tailF s l1 l2 x = if 16 ≤ (keepOf l1 x).length + (restOf l2 x).length then (s, l1, l2, false, []) else if mayB (keepOf l1 x) (restOf l2 x) x = true then (s, putOf (keepOf l1 x) x, restOf l2 x, true, takenOf l1 x) else (s, keepOf l1 x, putOf (restOf l2 x) x, false, takenOf l1 x) := rfl
inductive AskCase (s : Int) (l1 l2 : List S45) (x : S45) : Int × List S45 × List S45 × Bool × List S45 → Prop
  | bad (h : holdB x = false ∨ x.f3 = true) : AskCase s l1 l2 x (s, l1, l2, false, [])
  | held (hx : holdB x = true) (hf : x.f3 = false) (z : S45) (hz : z ∈ l1) (hs : z.f0 = x.f0) (h : z.f3 = true ∨ x.f1 ≤ z.f1) : AskCase s l1 l2 x (s, l1, l2, eqH z x, [])
  | waits (hx : holdB x = true) (hf : x.f3 = false) (hn : ∀ z ∈ l1, z.f0 = x.f0 → z.f3 = false ∧ z.f1 < x.f1) (z : S45) (hz : z ∈ l2) (hs : z.f0 = x.f0) (h : x.f1 < z.f1) : AskCase s l1 l2 x (s, l1, l2, false, [])
  | full (hx : holdB x = true) (hf : x.f3 = false) (hn : ∀ z ∈ l1, z.f0 = x.f0 → z.f3 = false ∧ z.f1 < x.f1) (hw : ∀ z ∈ l2, z.f0 = x.f0 → z.f1 ≤ x.f1) (h : 16 ≤ (keepOf l1 x).length + (restOf l2 x).length) : AskCase s l1 l2 x (s, l1, l2, false, [])
  | got (hx : holdB x = true) (hf : x.f3 = false) (hn : ∀ z ∈ l1, z.f0 = x.f0 → z.f3 = false ∧ z.f1 < x.f1) (hw : ∀ z ∈ l2, z.f0 = x.f0 → z.f1 ≤ x.f1) (h : (keepOf l1 x).length + (restOf l2 x).length < 16) (hm : mayB (keepOf l1 x) (restOf l2 x) x = true) : AskCase s l1 l2 x (s, putOf (keepOf l1 x) x, restOf l2 x, true, takenOf l1 x)
  | wait (hx : holdB x = true) (hf : x.f3 = false) (hn : ∀ z ∈ l1, z.f0 = x.f0 → z.f3 = false ∧ z.f1 < x.f1) (hw : ∀ z ∈ l2, z.f0 = x.f0 → z.f1 ≤ x.f1) (h : (keepOf l1 x).length + (restOf l2 x).length < 16) (hm : mayB (keepOf l1 x) (restOf l2 x) x = false) : AskCase s l1 l2 x (s, keepOf l1 x, putOf (restOf l2 x) x, false, takenOf l1 x)
theorem at_has {l : List S45} {x : S45} (ha : Asc l) (h : hasOf l x.f0 = true) : rd_T45 l ((placeN l x : Nat) : Int) ∈ l ∧ (rd_T45 l ((placeN l x : Nat) : Int)).f0 = x.f0 := by
  obtain ⟨z, hz, ht⟩ := has_mem.1 h
  rw [← placeN_eq, at_place ha hz ht]
  exact ⟨hz, ht⟩
theorem at_uniq {l : List S45} {x z : S45} (ha : Asc l) (hz : z ∈ l) (ht : z.f0 = x.f0) : rd_T45 l ((placeN l x : Nat) : Int) = z := by
  rw [← placeN_eq, at_place ha hz ht]
theorem ask_case {s : Int} {l1 l2 : List S45} {x : S45} (h : lockB s l1 l2 = true) : AskCase s l1 l2 x (askF s l1 l2 x) := by
  obtain ⟨_, _, _, a1, _, a2, _, _⟩ := (lockB_iff s l1 l2).1 h
  unfold askF
  rw [if_neg (by rw [h]; exact Bool.noConfusion)]
  by_cases c1 : holdB x = false ∨ x.f3 = true
  · rw [if_pos c1]; exact .bad c1
  rw [if_neg c1]
  have hx : holdB x = true := by cases q : holdB x with | true => rfl | false => exact absurd (Or.inl q) c1
  have hf : x.f3 = false := by cases q : x.f3 with | false => rfl | true => exact absurd (Or.inr q) c1
  by_cases c2 : hasOf l1 x.f0 = true ∧ ((rd_T45 l1 ((placeN l1 x : Nat) : Int)).f3 = true ∨ x.f1 ≤ (rd_T45 l1 ((placeN l1 x : Nat) : Int)).f1)
  · rw [if_pos c2]
    obtain ⟨m1, m2⟩ := at_has a1 c2.1
    exact .held hx hf _ m1 m2 c2.2
  rw [if_neg c2]
  have hn : ∀ z ∈ l1, z.f0 = x.f0 → z.f3 = false ∧ z.f1 < x.f1 := by
    intro z hz ht
    have e := at_uniq a1 hz ht
    have hh : hasOf l1 x.f0 = true := has_mem.2 ⟨z, hz, ht⟩
    rw [e] at c2
    have c3 : ¬ (z.f3 = true ∨ x.f1 ≤ z.f1) := fun q => c2 ⟨hh, q⟩
    constructor
    · cases q : z.f3 with | false => rfl | true => exact absurd (Or.inl q) c3
    · have : ¬ x.f1 ≤ z.f1 := fun q => c3 (Or.inr q)
      omega
  by_cases c4 : hasOf l2 x.f0 = true ∧ x.f1 < (rd_T45 l2 ((placeN l2 x : Nat) : Int)).f1
  · rw [if_pos c4]
    obtain ⟨m1, m2⟩ := at_has a2 c4.1
    exact .waits hx hf hn _ m1 m2 c4.2
  rw [if_neg c4]
  have hw : ∀ z ∈ l2, z.f0 = x.f0 → z.f1 ≤ x.f1 := by
    intro z hz ht
    have e := at_uniq a2 hz ht
    have hh : hasOf l2 x.f0 = true := has_mem.2 ⟨z, hz, ht⟩
    rw [e] at c4
    have : ¬ x.f1 < z.f1 := fun q => c4 ⟨hh, q⟩
    omega
  rw [tailF_eq]
  by_cases c5 : 16 ≤ (keepOf l1 x).length + (restOf l2 x).length
  · rw [if_pos c5]; exact .full hx hf hn hw c5
  rw [if_neg c5]
  cases c6 : mayB (keepOf l1 x) (restOf l2 x) x with
  | true => rw [if_pos rfl]; exact .got hx hf hn hw (by omega) c6
  | false => rw [if_neg (by exact Bool.noConfusion)]; exact .wait hx hf hn hw (by omega) c6
theorem ask_of {s : Int} {l1 l2 : List S45} {x : S45} {r : Int × List S45 × List S45 × Bool × List S45} (h : lockB s l1 l2 = true) (c : AskCase s l1 l2 x r) : askF s l1 l2 x = r := by
  obtain ⟨_, _, _, a1, _, a2, _, _⟩ := (lockB_iff s l1 l2).1 h
  have k0 : ¬ lockB s l1 l2 = false := by rw [h]; exact Bool.noConfusion
  have nb : holdB x = true → x.f3 = false → ¬ (holdB x = false ∨ x.f3 = true) := by
    intro q1 q2 q
    rw [q1, q2] at q
    simp at q
  have n2 : (∀ z ∈ l1, z.f0 = x.f0 → z.f3 = false ∧ z.f1 < x.f1) → ¬ (hasOf l1 x.f0 = true ∧ ((rd_T45 l1 ((placeN l1 x : Nat) : Int)).f3 = true ∨ x.f1 ≤ (rd_T45 l1 ((placeN l1 x : Nat) : Int)).f1)) := by
    rintro q ⟨q1, q2⟩
    obtain ⟨m1, m2⟩ := at_has a1 q1
    obtain ⟨e1, e2⟩ := q _ m1 m2
    rcases q2 with q2 | q2
    · rw [e1] at q2; cases q2
    · omega
  have n3 : (∀ z ∈ l2, z.f0 = x.f0 → z.f1 ≤ x.f1) → ¬ (hasOf l2 x.f0 = true ∧ x.f1 < (rd_T45 l2 ((placeN l2 x : Nat) : Int)).f1) := by
    rintro q ⟨q1, q2⟩
    obtain ⟨m1, m2⟩ := at_has a2 q1
    have := q _ m1 m2
    omega
  unfold askF
  rw [if_neg k0]
  cases c with
  | bad h => rw [if_pos h]
  | held hx hf z hz hs h =>
    rw [if_neg (nb hx hf), at_uniq a1 hz hs, if_pos ⟨has_mem.2 ⟨z, hz, hs⟩, h⟩]
  | waits hx hf hn z hz hs h =>
    rw [if_neg (nb hx hf), if_neg (n2 hn), at_uniq a2 hz hs, if_pos ⟨has_mem.2 ⟨z, hz, hs⟩, h⟩]
  | full hx hf hn hw h =>
    rw [if_neg (nb hx hf), if_neg (n2 hn), if_neg (n3 hw), tailF_eq, if_pos h]
  | got hx hf hn hw h hm =>
    rw [if_neg (nb hx hf), if_neg (n2 hn), if_neg (n3 hw), tailF_eq, if_neg (by omega), if_pos hm]
  | wait hx hf hn hw h hm =>
    rw [if_neg (nb hx hf), if_neg (n2 hn), if_neg (n3 hw), tailF_eq, if_neg (by omega), if_neg (by rw [hm]; exact Bool.noConfusion)]
theorem mayB_iff (h w : List S45) (x : S45) : mayB h w x = true ↔ (∀ y ∈ h, meetB x y = false) ∧ ∀ y ∈ w, y.f0 < x.f0 → meetB x y = false := by
  unfold mayB
  simp only [Bool.and_eq_true, Bool.not_eq_true', List.any_eq_false, Bool.not_eq_true, Bool.and_eq_false_iff, decide_eq_false_iff_not]
  constructor
  · rintro ⟨a, b⟩
    refine ⟨a, fun y hy hl => ?_⟩
    cases q : meetB x y with
    | false => rfl
    | true => exact absurd ⟨decide_eq_true hl, q⟩ (b y hy)
  · rintro ⟨a, b⟩
    refine ⟨a, fun y hy => ?_⟩
    rintro ⟨q1, q2⟩
    rw [b y hy (of_decide_eq_true q1)] at q2
    cases q2
theorem meet_self (x : S45) : meetB x x = false := by simp [meetB]
theorem ask_ok {s : Int} {l1 l2 : List S45} {x : S45} (h : lockB s l1 l2 = true) {r1 : Int} {r2 r3 r5 : List S45} {r4 : Bool} (ha : askF s l1 l2 x = (r1, r2, r3, r4, r5)) : lockB r1 r2 r3 = true := by
  have c := ask_case (x := x) h
  rw [ha] at c
  obtain ⟨b1, b2, b3, b4, b5, b6, b7, b8⟩ := (lockB_iff s l1 l2).1 h
  cases c with
  | bad => exact h
  | held => exact h
  | waits => exact h
  | full => exact h
  | got hx hf hn hw hl hm =>
    obtain ⟨m1, m2⟩ := (mayB_iff _ _ _).1 hm
    refine (lockB_iff _ _ _).2 ⟨b1, by rw [put_length]; omega, ?_, put_asc (keep_asc b4) (keep_has l1 x), fun z hz => b5 z (mem_rest.1 hz).1, rest_asc b6, ?_, ?_⟩
    · intro z hz
      rcases put_mem.1 hz with rfl | q
      · exact hx
      · exact b3 z (mem_keep.1 q).1
    · intro a ha b hb
      rcases put_mem.1 ha with rfl | qa
      · rcases put_mem.1 hb with rfl | qb
        · exact meet_self _
        · exact m1 b qb
      · rcases put_mem.1 hb with rfl | qb
        · rw [meet_comm]; exact m1 a qa
        · exact b7 a (mem_keep.1 qa).1 b (mem_keep.1 qb).1
    · intro z hz
      obtain ⟨z1, z2⟩ := mem_rest.1 hz
      obtain ⟨e1, e2⟩ := b8 z z1
      refine ⟨has_no.2 (fun y hy => ?_), e2⟩
      rcases put_mem.1 hy with rfl | qy
      · exact fun e => z2 e.symm
      · exact has_no.1 e1 y (mem_keep.1 qy).1
  | wait hx hf hn hw hl hm =>
    refine (lockB_iff _ _ _).2 ⟨b1, by rw [put_length]; omega, fun z hz => b3 z (mem_keep.1 hz).1, keep_asc b4, ?_, put_asc (rest_asc b6) (rest_has l2 x), fun a ha b hb => b7 a (mem_keep.1 ha).1 b (mem_keep.1 hb).1, ?_⟩
    · intro z hz
      rcases put_mem.1 hz with rfl | q
      · exact hx
      · exact b5 z (mem_rest.1 q).1
    · intro z hz
      rcases put_mem.1 hz with rfl | q
      · exact ⟨keep_has l1 _, hf⟩
      · obtain ⟨z1, z2⟩ := mem_rest.1 q
        obtain ⟨e1, e2⟩ := b8 z z1
        exact ⟨has_no.2 (fun y hy => has_no.1 e1 y (mem_keep.1 hy).1), e2⟩
theorem filter_put {m : List S45} {x : S45} (h : ∀ y ∈ m, y.f0 ≠ x.f0) : restOf (putOf m x) x = m := by
  unfold restOf putOf
  have e : ∀ k : List S45, (∀ y ∈ k, y.f0 ≠ x.f0) → k.filter (fun y => !decide (y.f0 = x.f0)) = k := by
    intro k hk
    exact List.filter_eq_self.2 (fun y hy => by simp [hk y hy])
  rw [List.filter_append, List.filter_cons_of_neg (by simp), e _ (fun y hy => h y (List.mem_of_mem_take hy)), e _ (fun y hy => h y (List.mem_of_mem_drop hy)), List.take_append_drop]
theorem keep_keep (l : List S45) (x : S45) : keepOf (keepOf l x) x = keepOf l x := by
  have e1 : (keepOf l x).filter (fun y => !decide (y.f0 = x.f0)) = keepOf l x := List.filter_eq_self.2 (fun y hy => by simp [(mem_keep.1 hy).2.1])
  have e2 : (keepOf l x).filter (fun y => !tkB x y) = keepOf l x := List.filter_eq_self.2 (fun y hy => by simp [(mem_keep.1 hy).2.2])
  show ((keepOf l x).filter (fun y => !decide (y.f0 = x.f0))).filter (fun y => !tkB x y) = _
  rw [e1, e2]
theorem taken_keep (l : List S45) (x : S45) : takenOf (keepOf l x) x = [] := by
  have e1 : (keepOf l x).filter (fun y => !decide (y.f0 = x.f0)) = keepOf l x := List.filter_eq_self.2 (fun y hy => by simp [(mem_keep.1 hy).2.1])
  show ((keepOf l x).filter (fun y => !decide (y.f0 = x.f0))).filter (tkB x) = _
  rw [e1]
  exact List.filter_eq_nil_iff.2 (fun y hy => by simp [(mem_keep.1 hy).2.2])
theorem ask_twice {s : Int} {l1 l2 : List S45} {x : S45} {r1 : Int} {r2 r3 r5 : List S45} {r4 : Bool} (h : lockB s l1 l2 = true) (ha : askF s l1 l2 x = (r1, r2, r3, r4, r5)) : askF r1 r2 r3 x = (r1, r2, r3, r4, []) := by
  have hk := ask_ok h ha
  have c := ask_case (x := x) h
  rw [ha] at c
  cases c with
  | bad => exact ha
  | held => exact ha
  | waits => exact ha
  | full => exact ha
  | got hx hf hn hw hl hm =>
    have e := ask_of hk (.held hx hf x (put_mem.2 (.inl rfl)) rfl (.inr (Int.le_refl _)))
    rw [e]
    simp [eqH]
  | wait hx hf hn hw hl hm =>
    have nr : ∀ y ∈ restOf l2 x, y.f0 ≠ x.f0 := fun y hy => (mem_rest.1 hy).2
    have e1 := keep_keep l1 x
    have e2 := filter_put nr
    have e := ask_of (x := x) hk (.wait hx hf (fun z hz ht => absurd ht (mem_keep.1 hz).2.1) (fun z hz ht => by
      rcases put_mem.1 hz with rfl | q
      · exact Int.le_refl _
      · exact absurd ht (nr z q)) (by rw [e1, e2]; exact hl) (by rw [e1, e2]; exact hm))
    rw [e, e1, e2, taken_keep]
theorem holdB_iff (x : S45) : holdB x = true ↔ (1 ≤ x.f0 ∧ x.f0 ≤ 9999) ∧ 1 ≤ x.f1 ∧ x.f1 ≤ 9999 := by
  unfold holdB
  simp only [Bool.and_eq_true, decide_eq_true_eq]
theorem keep_len (l : List S45) (x : S45) : (keepOf l x).length ≤ l.length := Nat.le_trans (List.length_filter_le _ _) (List.length_filter_le _ _)
theorem rest_len (l : List S45) (x : S45) : (restOf l x).length ≤ l.length := List.length_filter_le _ _
theorem taken_len (l : List S45) (x : S45) : (takenOf l x).length ≤ l.length := Nat.le_trans (List.length_filter_le _ _) (List.length_filter_le _ _)
theorem ask_elder {s : Int} {l1 l2 : List S45} {x : S45} {r1 : Int} {r2 r3 r5 : List S45} {r4 : Bool} (h : lockB s l1 l2 = true) (hf : x.f3 = false) (hx : (1 ≤ x.f0 ∧ x.f0 ≤ 9999) ∧ 1 ≤ x.f1 ∧ x.f1 ≤ 9999) (hl : l1.length + l2.length < 16) (h1 : ∀ z ∈ l1, z.f3 = false ∧ x.f0 < z.f0) (h2 : ∀ z ∈ l2, x.f0 < z.f0) (ha : askF s l1 l2 x = (r1, r2, r3, r4, r5)) : r4 = true := by
  have c := ask_case (x := x) h
  rw [ha] at c
  cases c with
  | bad h' =>
    rcases h' with q | q
    · rw [(holdB_iff x).2 hx] at q; cases q
    · rw [hf] at q; cases q
  | held _ _ z hz hs => have := (h1 z hz).2; omega
  | waits _ _ _ z hz hs => have := h2 z hz; omega
  | full _ _ _ _ h' => have := keep_len l1 x; have := rest_len l2 x; omega
  | got => rfl
  | wait _ _ _ _ _ hm =>
    exfalso
    have : mayB (keepOf l1 x) (restOf l2 x) x = true := by
      refine (mayB_iff _ _ _).2 ⟨fun y hy => ?_, fun y hy hlt => ?_⟩
      · obtain ⟨y1, y2, y3⟩ := mem_keep.1 hy
        obtain ⟨e1, e2⟩ := h1 y y1
        unfold tkB at y3
        rw [e1, decide_eq_true e2] at y3
        simpa using y3
      · have := h2 y (mem_rest.1 hy).1
        omega
    rw [hm] at this
    cases this
/-- What LockAsk takes is younger, has not promised, and does not hold any more. -/
theorem ask_taken {s : Int} {l1 l2 : List S45} {x : S45} {r1 : Int} {r2 r3 r5 : List S45} {r4 : Bool} (h : lockB s l1 l2 = true) (ha : askF s l1 l2 x = (r1, r2, r3, r4, r5)) : ∀ t ∈ r5, (t.f3 = false ∧ x.f0 < t.f0) ∧ ∀ y ∈ r2, y.f0 ≠ t.f0 := by
  have c := ask_case (x := x) h
  obtain ⟨_, _, _, a1, _, _, _, _⟩ := (lockB_iff s l1 l2).1 h
  rw [ha] at c
  have key : ∀ t ∈ takenOf l1 x, (t.f3 = false ∧ x.f0 < t.f0) ∧ ∀ y ∈ keepOf l1 x, y.f0 ≠ t.f0 := by
    intro t ht
    obtain ⟨t1, t2, t3⟩ := mem_taken.1 ht
    have t4 := t3
    unfold tkB at t3
    simp only [Bool.and_eq_true, decide_eq_true_eq, Bool.not_eq_true'] at t3
    refine ⟨⟨t3.2.2, t3.2.1⟩, fun y hy e => ?_⟩
    obtain ⟨y1, y2, y3⟩ := mem_keep.1 hy
    have e1 := at_uniq (x := t) a1 y1 e
    have e2 := at_uniq (x := t) a1 t1 rfl
    rw [e1] at e2
    subst e2
    rw [t4] at y3
    cases y3
  cases c with
  | bad => intro t ht; simp at ht
  | held => intro t ht; simp at ht
  | waits => intro t ht; simp at ht
  | full => intro t ht; simp at ht
  | got hx hf hn hw hl hm =>
    intro t ht
    obtain ⟨k1, k2⟩ := key t ht
    refine ⟨k1, fun y hy => ?_⟩
    rcases put_mem.1 hy with rfl | q
    · have := k1.2; omega
    · exact k2 y q
  | wait hx hf hn hw hl hm => exact key
/-- Who does not get the lock of a lock that is not ok gets nothing. -/
theorem ask_none {s : Int} {l1 l2 : List S45} {x : S45} (h : lockB s l1 l2 = false) : askF s l1 l2 x = (0, [], [], false, []) := by
  unfold askF
  rw [if_pos h]
theorem held_share {s : Int} {l1 l2 : List S45} (h : lockB s l1 l2 = true) {i k : Nat} (hi : i < l1.length) (hk : k < i) : (l1[i]).f2 = true ∧ (l1[k]'(by omega)).f2 = true := by
  obtain ⟨_, _, _, a1, _, _, b7, _⟩ := (lockB_iff s l1 l2).1 h
  have q := b7 _ (List.getElem_mem hi) _ (List.getElem_mem (show k < l1.length by omega))
  have hlt : (l1[k]'(by omega)).f0 < (l1[i]).f0 := List.pairwise_iff_getElem.1 a1 k i (by omega) hi hk
  rcases (meet_no _ _).1 q with e | e
  · omega
  · exact e
theorem ask_share {s : Int} {l1 l2 : List S45} {x : S45} {r1 : Int} {r2 r3 r5 : List S45} {r4 : Bool} (h : lockB s l1 l2 = true) (hf : x.f3 = false) (h2 : x.f2 = true) (hx : (1 ≤ x.f0 ∧ x.f0 ≤ 9999) ∧ 1 ≤ x.f1 ∧ x.f1 ≤ 9999) (he : l2 = []) (hl : l1.length < 16) (h1 : ∀ z ∈ l1, z.f2 = true ∧ z.f0 ≠ x.f0) (ha : askF s l1 l2 x = (r1, r2, r3, r4, r5)) : r4 = true ∧ r5 = [] ∧ r2.length = l1.length + 1 := by
  subst he
  have c := ask_case (x := x) h
  rw [ha] at c
  have hm0 : ∀ z ∈ l1, meetB x z = false := fun z hz => (meet_no _ _).2 (.inr ⟨h2, (h1 z hz).1⟩)
  have hk0 : ∀ z ∈ l1, tkB x z = false := fun z hz => by unfold tkB; rw [hm0 z hz]; rfl
  have e0 : l1.filter (fun y => !decide (y.f0 = x.f0)) = l1 := List.filter_eq_self.2 (fun y hy => by simp [(h1 y hy).2])
  have ek : keepOf l1 x = l1 := by
    unfold keepOf
    rw [e0]
    exact List.filter_eq_self.2 (fun y hy => by simp [hk0 y hy])
  have et : takenOf l1 x = [] := by
    unfold takenOf
    rw [e0]
    exact List.filter_eq_nil_iff.2 (fun y hy => by simp [hk0 y hy])
  have er : restOf ([] : List S45) x = [] := rfl
  have hm1 : mayB (keepOf l1 x) (restOf [] x) x = true := by
    rw [ek, er]
    exact (mayB_iff _ _ _).2 ⟨fun y hy => hm0 y hy, fun y hy => by simp at hy⟩
  cases c with
  | bad h' =>
    rcases h' with q | q
    · rw [(holdB_iff x).2 hx] at q; cases q
    · rw [hf] at q; cases q
  | held _ _ z hz hs => exact absurd hs (h1 z hz).2
  | waits _ _ _ z hz hs => simp at hz
  | full _ _ _ _ h' => rw [ek, er] at h'; simp at h'; omega
  | got => exact ⟨rfl, et, by rw [put_length, ek]⟩
  | wait _ _ _ _ _ hm => rw [hm1] at hm; cases hm
end Go.Proofs.Ytjldpnhlegbjkaa.PB
