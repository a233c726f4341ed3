/- Plain laws of LockFree as a pure function (freeF). -/
import Derived.Test.YtjldpnhlegbjkaaAskQ
namespace Go.Proofs.Ytjldpnhlegbjkaa.PB
open Go.RowKit Go.Proofs.Ytjldpnhlegbjkaa.PA Go.Proofs.YtjldpnhlegbjkaaW.PrintWords Go.Proofs.YtjldpnhlegbjkaaW.PrintLast
set_option linter.unusedVariables false
set_option linter.unusedSimpArgs false
/-- What holds while those who waited are looked at in turn: rest are those still to come. -/
structure FI (s st ty : Int) (W0 rest : List S45) (p : List S45 × List S45 × List S45) : Prop where
  ok : lockB s p.1 p.2.1 = true
  asc : Asc rest
  sub : ∀ x ∈ rest, x ∈ p.2.1
  g1 : ∀ z ∈ p.1, goneB st ty z = false
  g2 : ∀ z ∈ p.2.1, goneB st ty z = false ∧ z ∈ W0
  g3 : ∀ z ∈ p.2.2, z ∈ W0
  a3 : Asc p.2.2
  lt3 : ∀ g ∈ p.2.2, ∀ x ∈ rest, g.f0 < x.f0
  blk : ∀ z ∈ p.2.1, z ∈ rest ∨ (mayB p.1 p.2.1 z = false ∧ ∀ x ∈ rest, z.f0 < x.f0)
theorem may_no {h w : List S45} {x : S45} : mayB h w x = false ↔ (∃ y ∈ h, meetB x y = true) ∨ ∃ y ∈ w, y.f0 < x.f0 ∧ meetB x y = true := by
  constructor
  · intro q
    by_cases a : ∃ y ∈ h, meetB x y = true
    · exact .inl a
    by_cases b : ∃ y ∈ w, y.f0 < x.f0 ∧ meetB x y = true
    · exact .inr b
    exfalso
    have : mayB h w x = true := (mayB_iff _ _ _).2 ⟨fun y hy => by
      cases e : meetB x y with
      | false => rfl
      | true => exact absurd ⟨y, hy, e⟩ a, fun y hy hl => by
      cases e : meetB x y with
      | false => rfl
      | true => exact absurd ⟨y, hy, hl, e⟩ b⟩
    rw [q] at this
    cases this
  · intro q
    cases e : mayB h w x with
    | false => rfl
    | true =>
      obtain ⟨m1, m2⟩ := (mayB_iff _ _ _).1 e
      rcases q with ⟨y, hy, hm⟩ | ⟨y, hy, hl, hm⟩
      · rw [m1 y hy] at hm; cases hm
      · rw [m2 y hy hl] at hm; cases hm
theorem FI.step {s st ty : Int} {W0 rest : List S45} {x : S45} {p : List S45 × List S45 × List S45} (h : FI s st ty W0 (x :: rest) p) : FI s st ty W0 rest (stepF p x) := by
  obtain ⟨hx, hr⟩ := List.pairwise_cons.1 h.asc
  obtain ⟨b1, b2, b3, b4, b5, b6, b7, b8⟩ := (lockB_iff _ _ _).1 h.ok
  have hxw : x ∈ p.2.1 := h.sub x List.mem_cons_self
  unfold stepF
  by_cases hm : mayB p.1 p.2.1 x = true
  · rw [if_pos hm]
    obtain ⟨m1, m2⟩ := (mayB_iff _ _ _).1 hm
    have hno : hasOf p.1 x.f0 = false := (b8 x hxw).1
    have mf : ∀ {z : S45}, z ∈ p.2.1.filter (fun z => !decide (z.f0 = x.f0)) ↔ z ∈ p.2.1 ∧ z.f0 ≠ x.f0 := by
      intro z
      simp only [List.mem_filter, Bool.not_eq_true', decide_eq_false_iff_not]
    have hlen : (p.2.1.filter (fun z => !decide (z.f0 = x.f0))).length < p.2.1.length := by
      rw [← List.countP_eq_length_filter]
      refine Nat.lt_of_le_of_ne List.countP_le_length (fun e => ?_)
      have := List.countP_eq_length.1 e x hxw
      simp at this
    refine ⟨(lockB_iff _ _ _).2 ⟨b1, by simp only [put_length]; omega, ?_, put_asc b4 hno, fun z hz => b5 z (mf.1 hz).1, b6.filter _, ?_, ?_⟩, hr, fun z hz => mf.2 ⟨h.sub z (List.mem_cons_of_mem _ hz), by have := hx z hz; omega⟩, ?_, fun z hz => h.g2 z (mf.1 hz).1, ?_, ?_, ?_, ?_⟩
    · intro z hz
      rcases put_mem.1 hz with rfl | q
      · exact b5 _ hxw
      · exact b3 z q
    · intro a ha b hb
      rcases put_mem.1 ha with rfl | qa
      · rcases put_mem.1 hb with rfl | qb
        · exact meet_self _
        · exact m1 b qb
      · rcases put_mem.1 hb with rfl | qb
        · rw [meet_comm]; exact m1 a qa
        · exact b7 a qa b qb
    · intro z hz
      obtain ⟨z1, z2⟩ := mf.1 hz
      obtain ⟨e1, e2⟩ := b8 z z1
      refine ⟨has_no.2 (fun y hy => ?_), e2⟩
      rcases put_mem.1 hy with rfl | qy
      · exact fun e => z2 e.symm
      · exact has_no.1 e1 y qy
    · intro z hz
      rcases put_mem.1 hz with rfl | q
      · exact (h.g2 _ hxw).1
      · exact h.g1 z q
    · intro z hz
      rcases List.mem_append.1 hz with q | q
      · exact h.g3 z q
      · obtain rfl := List.mem_singleton.1 q
        exact (h.g2 _ hxw).2
    · refine List.pairwise_append.2 ⟨h.a3, List.pairwise_singleton _ _, fun a ha b hb => ?_⟩
      obtain rfl := List.mem_singleton.1 hb
      exact h.lt3 a ha _ List.mem_cons_self
    · intro g hg z hz
      rcases List.mem_append.1 hg with q | q
      · exact h.lt3 g q z (List.mem_cons_of_mem _ hz)
      · obtain rfl := List.mem_singleton.1 q
        exact hx z hz
    · intro z hz
      obtain ⟨z1, z2⟩ := mf.1 hz
      rcases h.blk z z1 with q | ⟨q, ql⟩
      · rcases List.mem_cons.1 q with rfl | q
        · exact absurd rfl z2
        · exact .inl q
      · refine .inr ⟨may_no.2 ?_, fun y hy => ql y (List.mem_cons_of_mem _ hy)⟩
        rcases may_no.1 q with ⟨y, hy, e⟩ | ⟨y, hy, hl, e⟩
        · exact .inl ⟨y, put_mem.2 (.inr hy), e⟩
        · exact .inr ⟨y, mf.2 ⟨hy, by have := ql x List.mem_cons_self; omega⟩, hl, e⟩
  · rw [if_neg hm]
    have hm' : mayB p.1 p.2.1 x = false := by simpa using hm
    refine ⟨h.ok, hr, fun z hz => h.sub z (List.mem_cons_of_mem _ hz), h.g1, h.g2, h.g3, h.a3, fun g hg z hz => h.lt3 g hg z (List.mem_cons_of_mem _ hz), fun z hz => ?_⟩
    rcases h.blk z hz with q | ⟨q, ql⟩
    · rcases List.mem_cons.1 q with rfl | q
      · exact .inr ⟨hm', hx⟩
      · exact .inl q
    · exact .inr ⟨q, fun y hy => ql y (List.mem_cons_of_mem _ hy)⟩
theorem FI.all {s st ty : Int} {W0 : List S45} : ∀ (rest : List S45) (p : List S45 × List S45 × List S45), FI s st ty W0 rest p → FI s st ty W0 [] (rest.foldl stepF p)
  | [], _, h => h
  | _ :: rest, p, h => FI.all rest _ h.step
theorem filt_len {l : List S45} {q : S45 → Bool} : (l.filter q).length ≤ l.length := List.length_filter_le _ _
theorem filt_ok {s : Int} {l1 l2 : List S45} {q : S45 → Bool} (h : lockB s l1 l2 = true) : lockB s (l1.filter q) (l2.filter q) = true := by
  obtain ⟨b1, b2, b3, b4, b5, b6, b7, b8⟩ := (lockB_iff _ _ _).1 h
  have m1 := filt_len (l := l1) (q := q)
  have m2 := filt_len (l := l2) (q := q)
  refine (lockB_iff _ _ _).2 ⟨b1, by omega, fun z hz => b3 z ((List.mem_filter.1 hz).1), b4.filter _, fun z hz => b5 z ((List.mem_filter.1 hz).1), b6.filter _, fun a ha b hb => b7 a ((List.mem_filter.1 ha).1) b ((List.mem_filter.1 hb).1), fun z hz => ?_⟩
  obtain ⟨e1, e2⟩ := b8 z ((List.mem_filter.1 hz).1)
  exact ⟨has_no.2 (fun y hy => has_no.1 e1 y ((List.mem_filter.1 hy).1)), e2⟩
/-- What LockFree leaves. -/
theorem free_all {s : Int} {l1 l2 : List S45} {st ty : Int} {r1 : Int} {r2 r3 r4 : List S45} (h : lockB s l1 l2 = true) (hF : freeF s l1 l2 st ty = (r1, r2, r3, r4)) : r1 = s ∧ FI s st ty l2 [] (r2, r3, r4) := by
  unfold freeF at hF
  rw [if_neg (by rw [h]; exact Bool.noConfusion)] at hF
  simp only [Prod.mk.injEq] at hF
  have hg : ∀ {l : List S45} {z : S45}, z ∈ l.filter (fun z => !goneB st ty z) → goneB st ty z = false ∧ z ∈ l := by
    intro l z hz
    have := List.mem_filter.1 hz
    exact ⟨by simpa using this.2, this.1⟩
  have h0 : FI s st ty l2 (l2.filter (fun z => !goneB st ty z)) (l1.filter (fun z => !goneB st ty z), l2.filter (fun z => !goneB st ty z), []) := by
    obtain ⟨_, _, _, _, _, b6, _, _⟩ := (lockB_iff _ _ _).1 h
    exact ⟨filt_ok h, b6.filter _, fun x hx => hx, fun z hz => (hg hz).1, fun z hz => hg hz, fun z hz => by simp at hz, List.Pairwise.nil, fun g hg => by simp at hg, fun z hz => .inl hz⟩
  have h1 := FI.all _ _ h0
  obtain ⟨e1, e2⟩ := hF
  exact ⟨e1.symm, by rw [e2] at h1; exact h1⟩
theorem free_ok {s : Int} {l1 l2 : List S45} {st ty : Int} {r1 : Int} {r2 r3 r4 : List S45} (h : lockB s l1 l2 = true) (hF : freeF s l1 l2 st ty = (r1, r2, r3, r4)) : lockB r1 r2 r3 = true := by
  obtain ⟨rfl, q⟩ := free_all h hF
  exact q.ok
theorem fold_stay : ∀ (rest : List S45) (p : List S45 × List S45 × List S45), (∀ z ∈ rest, mayB p.1 p.2.1 z = false) → rest.foldl stepF p = p
  | [], _, _ => rfl
  | x :: rest, p, h => by
    have e : stepF p x = p := by
      unfold stepF
      rw [if_neg (by rw [h x List.mem_cons_self]; exact Bool.noConfusion)]
    rw [List.foldl_cons, e]
    exact fold_stay rest p (fun z hz => h z (List.mem_cons_of_mem _ hz))
/-- A lock that is let go of again stays as it is. -/
theorem free_twice {s : Int} {l1 l2 : List S45} {st ty : Int} {r1 : Int} {r2 r3 r4 : List S45} (h : lockB s l1 l2 = true) (hF : freeF s l1 l2 st ty = (r1, r2, r3, r4)) : freeF r1 r2 r3 st ty = (r1, r2, r3, []) := by
  obtain ⟨rfl, q⟩ := free_all h hF
  have e1 : r2.filter (fun z => !goneB st ty z) = r2 := List.filter_eq_self.2 (fun z hz => by simp [q.g1 z hz])
  have e2 : r3.filter (fun z => !goneB st ty z) = r3 := List.filter_eq_self.2 (fun z hz => by simp [(q.g2 z hz).1])
  unfold freeF
  rw [if_neg (by rw [q.ok]; exact Bool.noConfusion), e1, e2, fold_stay r3 (r2, r3, []) (fun z hz => ?_)]
  rcases q.blk z hz with e | e
  · simp at e
  · exact e.1
theorem step_len4 (l : List S45) : ∀ p : List S45 × List S45 × List S45, (l.foldl stepF p).2.2.length ≤ p.2.2.length + l.length := by
  induction l with
  | nil => intro p; simp
  | cons x m ih =>
    intro p
    rw [List.foldl_cons]
    have h := ih (stepF p x)
    have h2 : (stepF p x).2.2.length ≤ p.2.2.length + 1 := by
      unfold stepF
      split
      · simp
      · omega
    simp only [List.length_cons]
    omega
theorem free_len4 (s : Int) (l1 l2 : List S45) (t y : Int) : (freeF s l1 l2 t y).2.2.2.length ≤ 16 := by
  unfold freeF
  split
  · simp
  · rename_i h
    have hl := lock_len h
    have h1 := step_len4 (l2.filter (fun z => !goneB t y z)) (l1.filter (fun z => !goneB t y z), l2.filter (fun z => !goneB t y z), [])
    have h3 := List.length_filter_le (fun z => !goneB t y z) l2
    simp only [List.length_nil] at h1 ⊢
    omega
/-- Who waits does not hold, and has not promised. -/
theorem waits_not {s : Int} {l1 l2 : List S45} (h : lockB s l1 l2 = true) {y z : S45} (hy : y ∈ l1) (hz : z ∈ l2) : (y.f0 == z.f0) = false ∧ z.f3 = false := by
  obtain ⟨_, _, _, _, _, _, _, b8⟩ := (lockB_iff _ _ _).1 h
  obtain ⟨e1, e2⟩ := b8 z hz
  exact ⟨beq_eq_false_iff_ne.mpr (has_no.1 e1 y hy), e2⟩
theorem eq9ff {α : Type} {z y : S45} (h : z.f3 = false) (h2 : y.f3 = false) (g : Bool → α) : (if z.f0 = y.f0 then if z.f1 = y.f1 then if z.f2 = y.f2 then g true else g false else g false else g false) = g (eqH z y) := by
  unfold eqH; rw [h, h2]; by_cases h0 : z.f0 = y.f0 <;> by_cases h1 : z.f1 = y.f1 <;> by_cases h2 : z.f2 = y.f2 <;> simp [h0, h1, h2]
theorem eqH_self (y : S45) : eqH y y = true := by simp [eqH]
theorem waits_no3 {s : Int} {l1 l2 : List S45} (h : lockB s l1 l2 = true) {z : S45} (hz : z ∈ l2) : z.f3 = false := ((lockB_iff _ _ _).1 h).2.2.2.2.2.2.2 z hz |>.2
theorem asc_prev {l : List S45} (h : Asc l) {n : Nat} (hn : n < l.length) (h0 : 0 < n) : (rd_T45 l ((n - 1 : Nat) : Int)).f0 < (l[n]).f0 := by
  rw [rdH (show n - 1 < l.length by omega)]
  exact List.pairwise_iff_getElem.1 h (n - 1) n (by omega) hn (by omega)
end Go.Proofs.Ytjldpnhlegbjkaa.PB
