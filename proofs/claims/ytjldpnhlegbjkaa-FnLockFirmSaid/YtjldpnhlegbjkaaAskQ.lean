/- Plain laws of LockAsk, LockFree and LockFirm as pure functions (askF, freeF, firmOf). -/
import Derived.Test.YtjldpnhlegbjkaaFirmPa
namespace Go.Proofs.Ytjldpnhlegbjkaa.PB
open Go.RowKit Go.Proofs.Ytjldpnhlegbjkaa.PA Go.Proofs.YtjldpnhlegbjkaaW.PrintWords Go.Proofs.YtjldpnhlegbjkaaW.PrintLast
set_option linter.unusedVariables false
set_option linter.unusedSimpArgs false
theorem ask_len5 (s : Int) (l1 l2 : List S45) (x : S45) : (askF s l1 l2 x).2.2.2.2.length ≤ 16 := by
  unfold askF
  split
  · simp
  · rename_i h
    have hl := lock_len h
    split
    · simp
    · split
      · simp
      · split
        · simp
        · unfold tailF
          have a1 := Nat.le_trans (List.length_filter_le (tkB x) (l1.filter (fun y => !decide (y.f0 = x.f0)))) (List.length_filter_le (fun y => !decide (y.f0 = x.f0)) l1)
          split
          · simp
          · split
            · simp only; omega
            · simp only; omega
theorem lockB_iff (s : Int) (h w : List S45) : lockB s h w = true ↔ (0 ≤ s ∧ s ≤ 7) ∧ h.length + w.length ≤ 16 ∧ (∀ z ∈ h, holdB z = true) ∧ Asc h ∧ (∀ z ∈ w, holdB z = true) ∧ Asc w ∧ (∀ a ∈ h, ∀ b ∈ h, meetB a b = false) ∧ (∀ x ∈ w, hasOf h x.f0 = false ∧ x.f3 = false) := by
  unfold lockB holdsB
  simp only [Bool.and_eq_true, decide_eq_true_eq, List.all_eq_true, Bool.not_eq_true', List.any_eq_false, Bool.not_eq_true]
  constructor
  · rintro ⟨a, b, ⟨c, d⟩, ⟨e, f⟩, g, i⟩
    exact ⟨a, b, c, d, e, f, g, i⟩
  · rintro ⟨a, b, c, d, e, f, g, i⟩
    exact ⟨a, b, ⟨c, d⟩, ⟨e, f⟩, g, i⟩
def keepOf (l1 : List S45) (x : S45) : List S45 := (l1.filter (fun y => !decide (y.f0 = x.f0))).filter (fun y => !tkB x y)
def takenOf (l1 : List S45) (x : S45) : List S45 := (l1.filter (fun y => !decide (y.f0 = x.f0))).filter (tkB x)
def restOf (l2 : List S45) (x : S45) : List S45 := l2.filter (fun y => !decide (y.f0 = x.f0))
theorem mem_keep {l : List S45} {x z : S45} : z ∈ keepOf l x ↔ z ∈ l ∧ z.f0 ≠ x.f0 ∧ tkB x z = false := by
  unfold keepOf
  simp only [List.mem_filter, Bool.not_eq_true', decide_eq_false_iff_not]
  constructor
  · rintro ⟨⟨a, b⟩, c⟩; exact ⟨a, b, c⟩
  · rintro ⟨a, b, c⟩; exact ⟨⟨a, b⟩, c⟩
theorem mem_taken {l : List S45} {x z : S45} : z ∈ takenOf l x ↔ z ∈ l ∧ z.f0 ≠ x.f0 ∧ tkB x z = true := by
  unfold takenOf
  simp only [List.mem_filter, Bool.not_eq_true', decide_eq_false_iff_not]
  constructor
  · rintro ⟨⟨a, b⟩, c⟩; exact ⟨a, b, c⟩
  · rintro ⟨a, b, c⟩; exact ⟨⟨a, b⟩, c⟩
theorem mem_rest {l : List S45} {x z : S45} : z ∈ restOf l x ↔ z ∈ l ∧ z.f0 ≠ x.f0 := by
  unfold restOf
  simp only [List.mem_filter, Bool.not_eq_true', decide_eq_false_iff_not]
theorem keep_asc {l : List S45} {x : S45} (h : Asc l) : Asc (keepOf l x) := (h.filter _).filter _
theorem rest_asc {l : List S45} {x : S45} (h : Asc l) : Asc (restOf l x) := h.filter _
theorem keep_has (l : List S45) (x : S45) : hasOf (keepOf l x) x.f0 = false := has_gone l x.f0 _
theorem rest_has (l : List S45) (x : S45) : hasOf (restOf l x) x.f0 = false := has_gone1 l x.f0
theorem tailF_eq (s : Int) (l1 l2 : List S45) (x : S45) : tailF s l1 l2 x = if 16 ≤ (keepOf l1 x).length + (restOf l2 x).length then (s, l1, l2, false, []) else if mayB (keepOf l1 x) (restOf l2 x) x = true then (s, putOf (keepOf l1 x) x, restOf l2 x, true, takenOf l1 x) else (s, keepOf l1 x, putOf (restOf l2 x) x, false, takenOf l1 x) := rfl
inductive AskCase (s : Int) (l1 l2 : List S45) (x : S45) : Int × List S45 × List S45 × Bool × List S45 → Prop
  | bad (h : holdB x = false ∨ x.f3 = true) : AskCase s l1 l2 x (s, l1, l2, false, [])
  | held (hx : holdB x = true) (hf : x.f3 = false) (z : S45) (hz : z ∈ l1) (hs : z.f0 = x.f0) (h : z.f3 = true ∨ x.f1 ≤ z.f1) : AskCase s l1 l2 x (s, l1, l2, eqH z x, [])
  | waits (hx : holdB x = true) (hf : x.f3 = false) (hn : ∀ z ∈ l1, z.f0 = x.f0 → z.f3 = false ∧ z.f1 < x.f1) (z : S45) (hz : z ∈ l2) (hs : z.f0 = x.f0) (h : x.f1 < z.f1) : AskCase s l1 l2 x (s, l1, l2, false, [])
  | full (hx : holdB x = true) (hf : x.f3 = false) (hn : ∀ z ∈ l1, z.f0 = x.f0 → z.f3 = false ∧ z.f1 < x.f1) (hw : ∀ z ∈ l2, z.f0 = x.f0 → z.f1 ≤ x.f1) (h : 16 ≤ (keepOf l1 x).length + (restOf l2 x).length) : AskCase s l1 l2 x (s, l1, l2, false, [])
  | got (hx : holdB x = true) (hf : x.f3 = false) (hn : ∀ z ∈ l1, z.f0 = x.f0 → z.f3 = false ∧ z.f1 < x.f1) (hw : ∀ z ∈ l2, z.f0 = x.f0 → z.f1 ≤ x.f1) (h : (keepOf l1 x).length + (restOf l2 x).length < 16) (hm : mayB (keepOf l1 x) (restOf l2 x) x = true) : AskCase s l1 l2 x (s, putOf (keepOf l1 x) x, restOf l2 x, true, takenOf l1 x)
  | wait (hx : holdB x = true) (hf : x.f3 = false) (hn : ∀ z ∈ l1, z.f0 = x.f0 → z.f3 = false ∧ z.f1 < x.f1) (hw : ∀ z ∈ l2, z.f0 = x.f0 → z.f1 ≤ x.f1) (h : (keepOf l1 x).length + (restOf l2 x).length < 16) (hm : mayB (keepOf l1 x) (restOf l2 x) x = false) : AskCase s l1 l2 x (s, keepOf l1 x, putOf (restOf l2 x) x, false, takenOf l1 x)
theorem at_has {l : List S45} {x : S45} (ha : Asc l) (h : hasOf l x.f0 = true) : rd_T45 l ((placeN l x : Nat) : Int) ∈ l ∧ (rd_T45 l ((placeN l x : Nat) : Int)).f0 = x.f0 := by
  obtain ⟨z, hz, ht⟩ := has_mem.1 h
  rw [← placeN_eq, at_place ha hz ht]
  exact ⟨hz, ht⟩
theorem at_uniq {l : List S45} {x z : S45} (ha : Asc l) (hz : z ∈ l) (ht : z.f0 = x.f0) : rd_T45 l ((placeN l x : Nat) : Int) = z := by
  rw [← placeN_eq, at_place ha hz ht]
theorem ask_case {s : Int} {l1 l2 : List S45} {x : S45} (h : lockB s l1 l2 = true) : AskCase s l1 l2 x (askF s l1 l2 x) := by
  obtain ⟨_, _, _, a1, _, a2, _, _⟩ := (lockB_iff s l1 l2).1 h
  unfold askF
  rw [if_neg (by rw [h]; exact Bool.noConfusion)]
  by_cases c1 : holdB x = false ∨ x.f3 = true
  · rw [if_pos c1]; exact .bad c1
  rw [if_neg c1]
  have hx : holdB x = true := by cases q : holdB x with | true => rfl | false => exact absurd (Or.inl q) c1
  have hf : x.f3 = false := by cases q : x.f3 with | false => rfl | true => exact absurd (Or.inr q) c1
  by_cases c2 : hasOf l1 x.f0 = true ∧ ((rd_T45 l1 ((placeN l1 x : Nat) : Int)).f3 = true ∨ x.f1 ≤ (rd_T45 l1 ((placeN l1 x : Nat) : Int)).f1)
  · rw [if_pos c2]
    obtain ⟨m1, m2⟩ := at_has a1 c2.1
    exact .held hx hf _ m1 m2 c2.2
  rw [if_neg c2]
  have hn : ∀ z ∈ l1, z.f0 = x.f0 → z.f3 = false ∧ z.f1 < x.f1 := by
    intro z hz ht
    have e := at_uniq a1 hz ht
    have hh : hasOf l1 x.f0 = true := has_mem.2 ⟨z, hz, ht⟩
    rw [e] at c2
    have c3 : ¬ (z.f3 = true ∨ x.f1 ≤ z.f1) := fun q => c2 ⟨hh, q⟩
    constructor
    · cases q : z.f3 with | false => rfl | true => exact absurd (Or.inl q) c3
    · have : ¬ x.f1 ≤ z.f1 := fun q => c3 (Or.inr q)
      omega
  by_cases c4 : hasOf l2 x.f0 = true ∧ x.f1 < (rd_T45 l2 ((placeN l2 x : Nat) : Int)).f1
  · rw [if_pos c4]
    obtain ⟨m1, m2⟩ := at_has a2 c4.1
    exact .waits hx hf hn _ m1 m2 c4.2
  rw [if_neg c4]
  have hw : ∀ z ∈ l2, z.f0 = x.f0 → z.f1 ≤ x.f1 := by
    intro z hz ht
    have e := at_uniq a2 hz ht
    have hh : hasOf l2 x.f0 = true := has_mem.2 ⟨z, hz, ht⟩
    rw [e] at c4
    have : ¬ x.f1 < z.f1 := fun q => c4 ⟨hh, q⟩
    omega
  rw [tailF_eq]
  by_cases c5 : 16 ≤ (keepOf l1 x).length + (restOf l2 x).length
  · rw [if_pos c5]; exact .full hx hf hn hw c5
  rw [if_neg c5]
  cases c6 : mayB (keepOf l1 x) (restOf l2 x) x with
  | true => rw [if_pos rfl]; exact .got hx hf hn hw (by omega) c6
  | false => rw [if_neg (by exact Bool.noConfusion)]; exact .wait hx hf hn hw (by omega) c6
theorem mayB_iff (h w : List S45) (x : S45) : mayB h w x = true ↔ (∀ y ∈ h, meetB x y = false) ∧ ∀ y ∈ w, y.f0 < x.f0 → meetB x y = false := by
  unfold mayB
  simp only [Bool.and_eq_true, Bool.not_eq_true', List.any_eq_false, Bool.not_eq_true, Bool.and_eq_false_iff, decide_eq_false_iff_not]
  constructor
  · rintro ⟨a, b⟩
    refine ⟨a, fun y hy hl => ?_⟩
    cases q : meetB x y with
    | false => rfl
    | true => exact absurd ⟨decide_eq_true hl, q⟩ (b y hy)
  · rintro ⟨a, b⟩
    refine ⟨a, fun y hy => ?_⟩
    rintro ⟨q1, q2⟩
    rw [b y hy (of_decide_eq_true q1)] at q2
    cases q2
theorem meet_self (x : S45) : meetB x x = false := by simp [meetB]
theorem ask_ok {s : Int} {l1 l2 : List S45} {x : S45} (h : lockB s l1 l2 = true) {r1 : Int} {r2 r3 r5 : List S45} {r4 : Bool} (ha : askF s l1 l2 x = (r1, r2, r3, r4, r5)) : lockB r1 r2 r3 = true := by
  have c := ask_case (x := x) h
  rw [ha] at c
  obtain ⟨b1, b2, b3, b4, b5, b6, b7, b8⟩ := (lockB_iff s l1 l2).1 h
  cases c with
  | bad => exact h
  | held => exact h
  | waits => exact h
  | full => exact h
  | got hx hf hn hw hl hm =>
    obtain ⟨m1, m2⟩ := (mayB_iff _ _ _).1 hm
    refine (lockB_iff _ _ _).2 ⟨b1, by rw [put_length]; omega, ?_, put_asc (keep_asc b4) (keep_has l1 x), fun z hz => b5 z (mem_rest.1 hz).1, rest_asc b6, ?_, ?_⟩
    · intro z hz
      rcases put_mem.1 hz with rfl | q
      · exact hx
      · exact b3 z (mem_keep.1 q).1
    · intro a ha b hb
      rcases put_mem.1 ha with rfl | qa
      · rcases put_mem.1 hb with rfl | qb
        · exact meet_self _
        · exact m1 b qb
      · rcases put_mem.1 hb with rfl | qb
        · rw [meet_comm]; exact m1 a qa
        · exact b7 a (mem_keep.1 qa).1 b (mem_keep.1 qb).1
    · intro z hz
      obtain ⟨z1, z2⟩ := mem_rest.1 hz
      obtain ⟨e1, e2⟩ := b8 z z1
      refine ⟨has_no.2 (fun y hy => ?_), e2⟩
      rcases put_mem.1 hy with rfl | qy
      · exact fun e => z2 e.symm
      · exact has_no.1 e1 y (mem_keep.1 qy).1
  | wait hx hf hn hw hl hm =>
    refine (lockB_iff _ _ _).2 ⟨b1, by rw [put_length]; omega, fun z hz => b3 z (mem_keep.1 hz).1, keep_asc b4, ?_, put_asc (rest_asc b6) (rest_has l2 x), fun a ha b hb => b7 a (mem_keep.1 ha).1 b (mem_keep.1 hb).1, ?_⟩
    · intro z hz
      rcases put_mem.1 hz with rfl | q
      · exact hx
      · exact b5 z (mem_rest.1 q).1
    · intro z hz
      rcases put_mem.1 hz with rfl | q
      · exact ⟨keep_has l1 _, hf⟩
      · obtain ⟨z1, z2⟩ := mem_rest.1 q
        obtain ⟨e1, e2⟩ := b8 z z1
        exact ⟨has_no.2 (fun y hy => has_no.1 e1 y (mem_keep.1 hy).1), e2⟩
end Go.Proofs.Ytjldpnhlegbjkaa.PB
