/- The words for houses at first: three houses in one row, and the marks on them. -/
import Derived.Test.YthahadclegihaaaHouseWalk
import Derived.Deep.Cut
namespace Go.Proofs.Ythahadclegihaaa.PX
open Go.RowKit Go.Proofs.YthahadclegihaaaW.PrintWords Go.Proofs.YthahadclegihaaaW.PrintLast Go.Proofs.YthahadclegihaaaW.PrintMore
attribute [local go_sem] max2_int min2_int max_two min_two max_three min_three max_four min_four
set_option linter.unusedVariables false
set_option linter.unusedSimpArgs false
theorem kb {W W' : World} {g : Nat} {o : Obj} (h : Aside0 (W.heap[g]? = some o)) (hb : Below W.heap.size W W') : Aside0 (W'.heap[g]? = some o) := ⟨blk_below h.out hb⟩
theorem kbd {W : World} {g : Nat} {o : Obj} (h : Aside0 (W.heap[g]? = some o)) : Aside0 (W.drew.heap[g]? = some o) := ⟨blk_drew h.out⟩

/-- A house at first: its lists. -/
structure HV where
 a2 : Option Addr
 c2 : Nat
 a4 : Option Addr
 c4 : Nat
 a5 : Option Addr
 c5 : Nat
/-- A house's cells. -/
def hcell (i : Int) (u : Bool) (f : Int) (h : HV) : List Value := [.int .i64 i, .bool u, .slice h.a2 0 h.c2, .int .i64 f, .slice h.a4 8 h.c4, .slice h.a5 0 h.c5]
def houses (h : Nat → HV) (n : Nat) : List (List Value) := (List.range n).map (fun x : Nat => hcell (x : Int) true 0 (h x))
/-- The houses' row and each house's row of locks, all apart (I x: the blocks of house x's locks). -/
def HS (base : Nat) (W : World) (n : Nat) (v : Value) (h : Nat → HV) (I : Nat → Nat → Prop) : Prop :=
 (Kd.raw 6).R 26 W base (fun k => ∀ x, x < n → ¬ I x k) v (houses h n) ∧ (∀ x, x < n → Kd.S k70 70 W base (I x) (.slice (h x).a4 8 (h x).c4) (lmarks 0 8)) ∧ (∀ i j k, i < n → j < n → I i k → I j k → i = j) ∧ ∀ x k, x < n → I x k → k < W.heap.size
theorem S_grown {α : Type} {d : Kd α} {e : Nat} {W W1 : World} {base : Nat} {ok : Nat → Prop} {v : Value} {l : List α} {row : Option Nat} (h : Kd.S d e W base ok v l) (hg : W.grownBy W1 row) (hne : ∀ k, ok k → some k ≠ row) : Kd.S d e W1 base ok v l := Kd.S_step h (fun k hk hlt => hg.block k hlt (hne k hk))
theorem HS.nil (base : Nat) (W : World) (h : Nat → HV) (I : Nat → Nat → Prop) : HS base W 0 (.slice none 0 0) h I := ⟨Kd.R_nil _ _ _ _ _, fun _ hx => absurd hx (Nat.not_lt_zero _), fun _ _ _ hx => absurd hx (Nat.not_lt_zero _), fun _ _ hx => absurd hx (Nat.not_lt_zero _)⟩
theorem HS.below {base n : Nat} {W W' : World} {v : Value} {h : Nat → HV} {I : Nat → Nat → Prop} (hs : HS base W n v h I) (hb : Below W.heap.size W W') : HS base W' n v h I :=
 ⟨Kd.R_below hs.1 hb, fun x hx => Kd.S_below (hs.2.1 x hx) hb, hs.2.2.1, fun x k hx hk => Nat.lt_of_lt_of_le (hs.2.2.2 x k hx hk) hb.size⟩
theorem houses_len (h : Nat → HV) (n : Nat) : (houses h n).length = n := by simp [houses]
theorem houses_succ (h : Nat → HV) (n : Nat) (y : HV) : houses (fun x => if x = n then y else h x) (n + 1) = houses h n ++ [hcell (n : Int) true 0 y] := by
 unfold houses
 rw [List.range_succ, List.map_append]
 congr 1
 ·apply List.map_congr_left
  intro x hx
  rw [List.mem_range] at hx
  simp [Nat.ne_of_lt hx]
 ·simp
/-- One house more. -/
theorem HS.snoc {base n lo hi : Nat} {W W1 : World} {v v1 : Value} {h : Nat → HV} {I : Nat → Nat → Prop} {y : HV} (hs : HS base W n v h I) (hlo : ∀ x k, x < n → I x k → k < lo) (hhi : hi ≤ W.heap.size)
 (hv : ∀ k, v.ownBlock = some k → k < lo) (hl : Kd.S k70 70 W base (fun k => lo ≤ k ∧ k < hi) (.slice y.a4 8 y.c4) (lmarks 0 8))
 (hr : (Kd.raw 6).R 26 W1 base (fun k => ∀ x, x < n + 1 → ¬ (if x = n then lo ≤ k ∧ k < hi else I x k)) v1 (houses h n ++ [hcell (n : Int) true 0 y])) (hg : W.grownBy W1 v.ownBlock) :
 HS base W1 (n + 1) v1 (fun x => if x = n then y else h x) (fun x k => if x = n then lo ≤ k ∧ k < hi else I x k) := by
 refine ⟨by rw [houses_succ]; exact hr, fun x hx => ?_, fun i j k hi_ hj h1 h2 => ?_, fun x k hx hk => ?_⟩
 ·by_cases e : x = n
  ·subst e
   simp only [if_true]
   exact S_grown hl hg (fun k hk e => by have := hv k e.symm; omega)
  ·simp only [e, if_false]
   have hx' : x < n := by omega
   exact S_grown (hs.2.1 x hx') hg (fun k hk e => (hs.1.1 k e.symm) x hx' hk)
 ·by_cases e1 : i = n
  ·by_cases e2 : j = n
   ·omega
   ·simp only [e1, e2, if_true, if_false] at h1 h2
    have := hlo j k (by omega) h2
    omega
  ·by_cases e2 : j = n
   ·simp only [e1, e2, if_true, if_false] at h1 h2
    have := hlo i k (by omega) h1
    omega
   ·simp only [e1, e2, if_false] at h1 h2
    exact hs.2.2.1 i j k (by omega) (by omega) h1 h2
 ·have hsz := hg.size
  by_cases e : x = n
  ·simp only [e, if_true] at hk
   omega
  ·simp only [e, if_false] at hk
   have := hs.2.2.2 x k (by omega) hk
   omega
theorem Rown6 {w : World} {base : Nat} {ok ok' : Nat → Prop} {v : Value} {l : List (List Value)} (h : (Kd.raw 6).R 26 w base ok v l) (h0 : ∀ k, v.ownBlock = some k → ok' k) : (Kd.raw 6).R 26 w base ok' v l := ⟨h0, (Kd.R_mono h (ok' := fun _ => True) (fun _ _ => trivial)).2.imp_ (fun _ _ hp => hp)⟩
theorem HS.ne {base n b : Nat} {W : World} {v : Value} {h : Nat → HV} {I : Nat → Nat → Prop} {cs : Array Value} {fr : Nat × Nat} (hs : HS base W n v h I) (hb : W.heap[b]? = some (.cells cs 40 fr)) : some b ≠ v.ownBlock := fun e => by
 obtain ⟨_, _, _, q, hq, cells, hc⟩ := (Kd.R_bound hs.1).1 b e.symm
 rw [hc] at hb
 injection hb with hb
 injection hb with _ e2 _
 subst e2
 revert hq
 decide
theorem HS.stay {base n b : Nat} {W W' : World} {v : Value} {h : Nat → HV} {I : Nat → Nat → Prop} {cs : Array Value} {fr : Nat × Nat} (hs : HS base W n v h I) (hb : W.heap[b]? = some (.cells cs 40 fr)) (hk : ∀ k, k ≠ b → W'.heap[k]? = W.heap[k]?) (hz : W.heap.size ≤ W'.heap.size) : HS base W' n v h I := by
 have key : ∀ (l : List Nat) (k : Nat), (∀ q, q ∈ l → q ≠ 40) → (∃ q, q ∈ l ∧ ∃ cells, W.heap[k]? = some (.cells cells q (0, 0))) → k ≠ b := fun l k hl ⟨q, hq, cells, hc⟩ e => by
  rw [e, hb] at hc
  injection hc with hc
  injection hc with _ e2 _
  exact hl q hq e2.symm
 refine ⟨Kd.R_mono (Kd.R_move (Kd.R_bound hs.1) (fun k hq => hk k (key _ k (by decide) hq.2.2.2))) (fun _ hq => hq.1), fun x hx => Kd.S_mono (Kd.S_move (Kd.S_bound (hs.2.1 x hx)) (fun k hq => hk k (key _ k (by decide) hq.2.2.2))) (fun _ hq => hq.1), hs.2.2.1, fun x k hx hq => Nat.lt_of_lt_of_le (hs.2.2.2 x k hx hq) hz⟩
theorem HS.set {base n b j : Nat} {W : World} {v u : Value} {h : Nat → HV} {I : Nat → Nat → Prop} {cs : Array Value} {fr : Nat × Nat} (hs : HS base W n v h I) (hb : W.heap[b]? = some (.cells cs 40 fr)) : HS base (W.setCell ⟨b, j, none⟩ u) n v h I :=
 hs.stay hb (fun k hk => heap_setCell_other W ⟨b, j, none⟩ k u hk) (by simp)
theorem HS.row {base n b : Nat} {W : World} {v : Value} {h : Nat → HV} {I : Nat → Nat → Prop} {cs cs' : Array Value} {fr : Nat × Nat} (hs : HS base W n v h I) (hb : W.heap[b]? = some (.cells cs 40 fr)) : HS base (W.setRow b cs') n v h I :=
 hs.stay hb (fun k hk => setRow_other W b k cs' hk) (Nat.le_of_eq (size_setRow _ _ _).symm)
theorem below_setRow' {B g : Nat} {w0 w : World} (hb : Below B w0 w) (hBg : B ≤ g) (cs : Array Value) : Below B w0 (w.setRow g cs) :=
 hb.trans ⟨rfl, rfl, rfl, by simp [World.setRow], fun k hk => setRow_other w g k cs (by omega)⟩
/-- The first cells of a row of houses. -/
def At (W : World) (g : Nat) (l : List Value) : Prop := ∃ cur : Array Value, W.heap[g]? = some (.cells cur 26 (0, 0)) ∧ cur.toList.take l.length = l
theorem At.below {W W' : World} {g : Nat} {l : List Value} (h : At W g l) (hb : Below W.heap.size W W') : At W' g l := by
 obtain ⟨cur, h1, h2⟩ := h
 exact ⟨cur, blk_below h1 hb, h2⟩
theorem At.cell {W : World} {g : Nat} {l : List Value} (h : At W g l) (j : Nat) {u : Value} (hj : l[j]? = some u) : W.cell? ⟨g, j, none⟩ = some u := by
 obtain ⟨cur, h1, h2⟩ := h
 refine (blk_cell h1 j).trans ?_
 obtain ⟨hl, _⟩ := List.getElem?_eq_some_iff.1 hj
 rw [← h2, List.getElem?_take, if_pos hl] at hj
 simpa using hj
theorem At.froz {W : World} {g : Nat} {l : List Value} (h : At W g l) (j : Nat) : W.frozen? ⟨g, j, none⟩ = false := by
 obtain ⟨cur, h1, h2⟩ := h
 exact blk_frozen h1 j
theorem At.put {W : World} {g : Nat} {l l' : List Value} (h : At W g l) (j : Nat) (u : Value) (e : l.set j u = l') : At (W.setCell ⟨g, j, none⟩ u) g l' := by
 obtain ⟨cur, h1, h2⟩ := h
 subst e
 refine ⟨_, blk_put (cs' := cur.setIfInBounds j u) h1 j u rfl, ?_⟩
 rw [List.length_set, Array.toList_setIfInBounds, List.take_set, h2]
theorem At.kept {W W' : World} {g : Nat} {l : List Value} (h : At W g l) (hk : W'.heap[g]? = W.heap[g]?) : At W' g l := by
 obtain ⟨cur, h1, h2⟩ := h
 exact ⟨cur, hk.trans h1, h2⟩
theorem At.lt {W : World} {g : Nat} {l : List Value} (h : At W g l) : g < W.heap.size := by
 obtain ⟨cur, h1, h2⟩ := h
 exact blk_lt h1
def cells0 (h : Nat → HV) : List Value := hcell 0 true 0 (h 0) ++ hcell 1 true 0 (h 1) ++ hcell 2 true 0 (h 2)
theorem reps3 {W : World} {base : Nat} {ok : Nat → Prop} {xs : List Value} {a b c : List Value} (hr : Reps ((Kd.raw 6).M W base ok) 6 [a, b, c] xs) : xs = a ++ b ++ c := by
 obtain ⟨hl, h⟩ := hr
 obtain ⟨e0, _, _⟩ := h 0 a rfl
 obtain ⟨e1, _, _⟩ := h 1 b rfl
 obtain ⟨e2, _, _⟩ := h 2 c rfl
 rw [← e0, ← e1, ← e2]
 simp only [List.length_cons, List.length_nil] at hl
 have h3 : xs.take 6 ++ ((xs.drop 6).take 6 ++ (xs.drop 12).take 6) = xs := by
  have q : (xs.drop 12).take 6 = xs.drop 12 := List.take_of_length_le (by rw [List.length_drop]; omega)
  rw [q, show xs.drop 12 = (xs.drop 6).drop 6 by rw [List.drop_drop], List.take_append_drop, List.take_append_drop]
 simpa using h3.symm
theorem HS.at_ {base : Nat} {W : World} {A : Option Addr} {c : Nat} {h : Nat → HV} {I : Nat → Nat → Prop} (hs : HS base W 3 (.slice A 3 c) h I) : ∃ g, A = some ⟨g, 0, none⟩ ∧ At W g (cells0 h) ∧ base ≤ g ∧ ∀ x, x < 3 → ¬ I x g := by
 obtain ⟨⟨h0, inner, ho, hr⟩, _⟩ := hs
 rcases ho.2 with ⟨_, e⟩ | ⟨g, cap, cur, hv, hg, hh, _, _, _, ht⟩
 ·rw [houses_len] at e; omega
 ·injection hv with e1 e2 e3
  subst e1
  refine ⟨g, rfl, ⟨cur, hh, ?_⟩, hg, h0 g rfl⟩
  have e := reps3 hr
  rw [houses_len] at ht
  rw [show (cells0 h).length = 3 * (Kd.raw 6).sz from rfl, ht, e]
  rfl
/-- Blocks of worlds stay. -/
def K40 (w w' : World) : Prop := w.heap.size ≤ w'.heap.size ∧ ∀ (b : Nat) (cs : Array Value) (fr : Nat × Nat), w.heap[b]? = some (.cells cs 40 fr) → w'.heap[b]? = some (.cells cs 40 fr)
theorem K40.refl (w : World) : K40 w w := ⟨Nat.le_refl _, fun _ _ _ h => h⟩
theorem K40.below {w W W' : World} (h : K40 w W) (hb : Below W.heap.size W W') : K40 w W' := ⟨Nat.le_trans h.1 hb.size, fun b cs fr hc => blk_below (h.2 b cs fr hc) hb⟩
theorem K40.put {w W : World} {g j : Nat} {u : Value} {l : List Value} (h : K40 w W) (ha : At W g l) : K40 w (W.setCell ⟨g, j, none⟩ u) := ⟨by simpa using h.1, fun b cs fr hc => by
 have hne : b ≠ g := fun e => by
  obtain ⟨cur, h1, _⟩ := ha
  have := h.2 b cs fr hc
  rw [e, h1] at this
  injection this with this
  injection this with _ e2 _
  exact absurd e2 (by decide)
 exact (heap_setCell_other W ⟨g, j, none⟩ b u hne).trans (h.2 b cs fr hc)⟩
theorem K40.grown {w W W' : World} {base : Nat} {ok : Nat → Prop} {v : Value} {l : List S70} (h : K40 w W) (hs : Kd.S k70 70 W base ok v l) (hg : W.grownBy W' v.ownBlock) : K40 w W' := ⟨Nat.le_trans h.1 hg.size, fun b cs fr hc => by
 have hb := h.2 b cs fr hc
 refine (hg.block b (blk_lt hb) (fun e => ?_)).trans hb
 obtain ⟨_, _, _, q, hq, cells, hcc⟩ := (Kd.R_bound (Kd.S_R hs)).1 b e.symm
 rw [hb] at hcc
 injection hcc with hcc
 injection hcc with _ e2 _
 subst e2
 revert hq
 decide⟩
theorem S_put {W : World} {base g j : Nat} {u : Value} {ok : Nat → Prop} {v : Value} {l : List S70} (h : Kd.S k70 70 W base ok v l) (hn : ¬ ok g) : Kd.S k70 70 (W.setCell ⟨g, j, none⟩ u) base ok v l :=
 Kd.S_step h (fun k hk _ => heap_setCell_other W ⟨g, j, none⟩ k u (fun e => hn (by rw [← show k = g from e]; exact hk)))
theorem markL (a b : Int) (hab : b = a + 8) (ha : 0 ≤ a ∧ a ≤ 1000) (w : World) (base : Nat) (ok : Nat → Prop) (A : Option Addr) (c : Nat) (ho : Kd.S k70 70 w base ok (.slice A 8 c) (lmarks 0 8)) :
 Calls Try.prog 29 #[.slice A 8 c, .int .i64 a] w fun e w' => e = .returned (.int .i64 b) ∧ Kd.S k70 70 w' base ok (.slice A 8 c) (lmarks a 8) ∧ w.grownBy w' (Value.slice A 8 c).ownBlock := by
 subst hab
 refine (markLockS_calls (lmarks 0 8) a w base ok _ ho (fun x hx => ?_) ha (by rw [lmarks_length]; omega)).mono ?_
 ·obtain ⟨j, _, rfl⟩ := List.mem_map.1 hx
  exact ⟨rfl, rfl⟩
 ·rintro e w' ⟨rfl, h1, h2⟩
  rw [lmarks_length] at h1 ⊢
  exact ⟨rfl, h1, h2⟩
def mcells (h : Nat → HV) : List Value := hcell 1 false 3 (h 0) ++ hcell 12 false 14 (h 1) ++ hcell 23 true 25 (h 2)
theorem house7 (x : Nat) (hx : x < 3) (w : World) : Calls Try.prog 7 #[.int .i64 (x : Int)] w fun e w' => ∃ A2 c2 A4 c4 A5 c5, e = .returned (.agg #[.int .i64 (x : Int), .bool true, .slice A2 0 c2, .int .i64 0, .slice A4 8 c4, .slice A5 0 c5]) ∧ Kd.S k70 70 w' w.heap.size (fun _ => True) (.slice A4 8 c4) (lmarks 0 8) ∧ Below w.heap.size w w' := by
 have h2 : impl_HouseStart.f 40 (x : Int) = some ((x : Int), true, [], 0, lmarks 0 8, []) := by
  obtain rfl | rfl | rfl : x = 0 ∨ x = 1 ∨ x = 2 := by omega
  all_goals kernel_rfl
 refine (impl_HouseStart.calls 40 (x : Int) _ _ _ _ _ _ _ h2).mono ?_
 rintro e w1 ⟨v2, v4, v5, rfl, s2, s4, s5, hb⟩
 obtain ⟨A2, c2, e2⟩ := Kd.R_slice (Kd.S_R s2)
 obtain ⟨A4, c4, e4⟩ := Kd.R_slice (Kd.S_R s4)
 obtain ⟨A5, c5, e5⟩ := Kd.R_slice (Kd.S_R s5)
 subst e2 e4 e5
 rw [lmarks_length] at s4 ⊢
 exact ⟨A2, c2, A4, c4, A5, c5, rfl, Kd.S_mono s4 (fun _ _ => trivial), hb⟩
theorem house6 (x : Nat) (hx : x < 3) (w : World) : Calls Try.prog 6 #[.int .i64 (x : Int)] w fun e w' => ∃ A2 c2 A4 c4 A5 c5, e = .returned (.agg #[.int .i64 (x : Int), .bool true, .slice A2 0 c2, .int .i64 0, .slice A4 8 c4, .slice A5 0 c5]) ∧ Kd.S k70 70 w' w.heap.size (fun _ => True) (.slice A4 8 c4) (lmarks 0 8) ∧ Below w.heap.size w w' := by
 have h2 : spec_HouseStart.f 40 (x : Int) = some ((x : Int), true, [], 0, lmarks 0 8, []) := by
  obtain rfl | rfl | rfl : x = 0 ∨ x = 1 ∨ x = 2 := by omega
  all_goals kernel_rfl
 refine (spec_HouseStart.calls 40 (x : Int) _ _ _ _ _ _ _ h2).mono ?_
 rintro e w1 ⟨v2, v4, v5, rfl, s2, s4, s5, hb⟩
 obtain ⟨A2, c2, e2⟩ := Kd.R_slice (Kd.S_R s2)
 obtain ⟨A4, c4, e4⟩ := Kd.R_slice (Kd.S_R s4)
 obtain ⟨A5, c5, e5⟩ := Kd.R_slice (Kd.S_R s5)
 subst e2 e4 e5
 rw [lmarks_length] at s4 ⊢
 exact ⟨A2, c2, A4, c4, A5, c5, rfl, Kd.S_mono s4 (fun _ _ => trivial), hb⟩
end Go.Proofs.Ythahadclegihaaa.PX
