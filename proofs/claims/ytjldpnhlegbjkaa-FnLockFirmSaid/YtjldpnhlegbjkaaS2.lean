/- What slices.Insert of one hold and putBy do. -/
import Derived.Test.YtjldpnhlegbjkaaS1
import Derived.Lib.Overlaps
import Derived.Lib.AppendZerosOnto
namespace Go.Proofs.Ytjldpnhlegbjkaa.PA
open Go.RowKit Go.Proofs.YtjldpnhlegbjkaaW.PrintWords Go.Proofs.YtjldpnhlegbjkaaW.PrintLast Go.Proofs.YtjldpnhlegbjkaaW.PrintMore
attribute [local go_sem] max2_int min2_int max_two min_two max_three min_three max_four min_four
set_option linter.unusedVariables false
set_option linter.unusedSimpArgs false
theorem run_copy_rowN {P : Program} (w : World) (dT sT ty elem : TypeId) (g o dLen dCap : Nat) (a : Addr) (sLen sCap : Nat) (cur : Array Value) (t : TypeId) (cs : List Value) (sz : Nat)
    (hu : P.underlying dT = some (.slice elem)) (hs : (P.info? elem).map (·.size) = some sz)
    (hg : w.heap[g]? = some (.cells cur t (0, 0))) (hn : cs.length = Nat.min sLen dLen * sz)
    (hsrc : ∀ j v, cs[j]? = some v → w.cell? (a.add j) = some v) (hfit : o + cs.length ≤ cur.size) (h1 : ∀ v ∈ cs, v.oneCell' = true) :
    (Builtin.copy_ #[dT, sT] ty #[.slice (some ⟨g, o, none⟩) dLen dCap, .slice (some a) sLen sCap]).run P w =
      .ok (goInt (Nat.min sLen dLen)) (w.setRow g (cur.toList.take o ++ cs ++ cur.toList.drop (o + cs.length)).toArray) := by
  have hl := run_loadCells_list (P := P) w a cs hsrc
  have hst := run_storeCells_at (P := P) g o t cs 0 cur w hg (by simpa using hfit) h1
  cases hq : P.info? elem with
  | none => simp [hq] at hs
  | some i =>
    have hi : i.size = sz := by simpa [hq] using hs
    simp [Builtin.copy_, run_underlying hu, Builtin.lenOf, Builtin.firstCells, sizeOf, typeInfo, hq, hi, ← hn, hl, hst]
theorem wpList_copy_run_ {P : Program} (w : World) {ops : Array Oper} {rest : List Oper} {o : Oper} {a : Act} {Q : Exit → Act → World → Prop} (hgd : o.guard = none) (d s : Operand) (t t' : TypeId)
    (ho : o.op = .call { callee := .builtin .copy, args := #[d, s], argTypes := #[t, t'] }) (v u : Value) (hd : a.eval d = v) (hs : a.eval s = u) {v' : Value} {w' : World}
    (hr : (Builtin.copy_ #[t, t'] o.type #[v, u]).run P w = .ok v' w') (h : wpList P ops Q rest (a.put o.dst v') w') : wpList P ops Q (o :: rest) a w :=
  wpList_plain hgd fun K hK => by
    unfold Oper.wp execOp
    simp only [ho, resolve, invoke, builtin, Sem.run_bind, Sem.run_pure, Result.andThen_ok, List.map_toArray, List.map_cons, List.map_nil, hd, hs, hr]
    exact hK _ _ h
theorem step_copy_run_ {P : Program} {ops : Array Oper} {o : Oper} {a : Act} {w : World} {K : Act → World → Prop} {Q : Exit → Act → World → Prop} {E : Prop}
    (hg : o.guard = none) (d x : Operand) (dT sT : TypeId) (hop : o.op = Op.call { callee := Callee.builtin Builtin.copy, args := #[d, x], argTypes := #[dT, sT] })
    (v u : Value) (hd : a.eval d = v) (hx : a.eval x = u) {v' : Value} {w' : World} (hr : (Builtin.copy_ #[dT, sT] o.type #[v, u]).run P w = .ok v' w') (hK : K (a.put o.dst v') w') :
    if Region.wanted o (yielded ops a.tmps) = true then Oper.wp P o a w K Q else E := by
  have hw : Region.wanted o (yielded ops a.tmps) = true := by simp [Region.wanted, hg]
  rw [if_pos hw]
  unfold Oper.wp
  simp [execOp, hop, resolve, invoke, builtin, hd, hx, hr, Result.andThen]
  exact hK
def c4 (x : S45) : List Value := [.int .i64 x.f0, .int .i64 x.f1, .bool x.f2, .bool x.f3]
def cs4 (l : List S45) : List Value := l.flatMap c4
theorem cs4_length (l : List S45) : (cs4 l).length = l.length * 4 := by
  induction l with
  | nil => rfl
  | cons x l ih => simp only [cs4, List.flatMap_cons, List.length_append, List.length_cons] at ih ⊢; rw [ih]; simp [c4]; omega
theorem cs4_append (l m : List S45) : cs4 (l ++ m) = cs4 l ++ cs4 m := by simp [cs4]
theorem cs4_take (l : List S45) (i : Nat) (h : i ≤ l.length) : (cs4 l).take (i * 4) = cs4 (l.take i) := by
  conv => lhs; rw [← List.take_append_drop i l, cs4_append]
  rw [List.take_append_of_le_length (by rw [cs4_length, List.length_take]; omega), List.take_of_length_le (by rw [cs4_length, List.length_take]; omega)]
theorem cs4_drop (l : List S45) (i : Nat) (h : i ≤ l.length) : (cs4 l).drop (i * 4) = cs4 (l.drop i) := by
  conv => lhs; rw [← List.take_append_drop i l, cs4_append]
  have : (cs4 (l.take i)).length = i * 4 := by rw [cs4_length, List.length_take]; omega
  rw [← this, List.drop_left]
theorem cs4_one (l : List S45) : ∀ v ∈ cs4 l, v.oneCell' = true := by
  intro v hv
  simp only [cs4, List.mem_flatMap, c4] at hv
  obtain ⟨x, _, hv⟩ := hv
  simp only [List.mem_cons, List.not_mem_nil, or_false] at hv
  rcases hv with rfl | rfl | rfl | rfl <;> rfl
theorem reps4 (w : World) (base : Nat) (ok : Nat → Prop) (l : List S45) : Reps (k45.M w base ok) 4 l (cs4 l) := by
  refine ⟨cs4_length l, fun j p hj => ?_⟩
  obtain ⟨hl, rfl⟩ := List.getElem?_eq_some_iff.1 hj
  rw [cs4_drop l j (by omega), List.drop_eq_getElem_cons hl]
  exact k45_mkM w base ok l[j]
theorem reps4_eq {w : World} {base : Nat} {ok : Nat → Prop} {l : List S45} {cs : List Value} (h : Reps (k45.M w base ok) 4 l cs) : cs = cs4 l := by
  have hr := reps4 w base ok l
  refine List.ext_getElem? fun k => ?_
  by_cases hk : k < l.length * 4
  · have hq : k / 4 < l.length := by omega
    have e1 := k45_openM (h.2 (k / 4) l[k / 4] (List.getElem?_eq_getElem hq))
    have e2 := k45_openM (hr.2 (k / 4) l[k / 4] (List.getElem?_eq_getElem hq))
    have e := congrArg (fun q : List Value => q[k % 4]?) (e1.trans e2.symm)
    simp only [List.getElem?_take, List.getElem?_drop] at e
    rw [if_pos (by omega), if_pos (by omega), show k / 4 * 4 + k % 4 = k by omega] at e
    exact e
  · rw [List.getElem?_eq_none (by rw [h.1]; omega), List.getElem?_eq_none (by rw [hr.1]; omega)]
theorem R4_open {w : World} {base : Nat} {ok : Nat → Prop} {v : Value} {l : List S45} (h : k45.R 45 w base ok v l) : w.ownsRow base 45 4 v l.length (cs4 l) := by
  obtain ⟨_, inner, ho, hr⟩ := h
  rw [← reps4_eq hr]
  exact ho
theorem R4_mk {w : World} {base : Nat} {ok : Nat → Prop} {v : Value} {l : List S45} (h0 : ∀ k, v.ownBlock = some k → ok k) (h : w.ownsRow base 45 4 v l.length (cs4 l)) : k45.R 45 w base ok v l := ⟨h0, _, h, reps4 _ _ _ _⟩
theorem wpList_append_run_ {P : Program} (w : World) {ops : Array Oper} {rest : List Oper} {o : Oper} {a : Act} {Q : Exit → Act → World → Prop} (hgd : o.guard = none) (d s : Operand) (t t' : TypeId)
    (ho : o.op = .call { callee := .builtin .append, args := #[d, s], argTypes := #[t, t'] }) (v u : Value) (hd : a.eval d = v) (hs : a.eval s = u) {v' : Value} {w' : World}
    (hr : (Builtin.append_ #[t, t'] o.type #[v, u]).run P w = .ok v' w') (h : wpList P ops Q rest (a.put o.dst v') w') : wpList P ops Q (o :: rest) a w :=
  wpList_plain hgd fun K hK => by
    unfold Oper.wp execOp
    simp only [ho, resolve, invoke, builtin, Sem.run_bind, Sem.run_pure, Result.andThen_ok, List.map_toArray, List.map_cons, List.map_nil, hd, hs, hr]
    exact hK _ _ h
theorem sz45 : (Try.prog.info? 45).map (·.size) = some 4 := by kernel_rfl
theorem cell_c4 {w : World} {b j : Nat} {x : S45} {v : Value} (h : w.heap[b]? = some (.cells (c4 x).toArray 45 (0, 0))) (hj : (c4 x)[j]? = some v) : w.cell? ⟨b, j, none⟩ = some v :=
  (cell_of_row w b j _ 45 (0, 0) h).trans (by simpa using hj)
theorem c4_one (x : S45) : ∀ v ∈ c4 x, v.oneCell' = true := by
  intro v hv
  simp only [c4, List.mem_cons, List.not_mem_nil, or_false] at hv
  rcases hv with rfl | rfl | rfl | rfl <;> rfl
theorem ins_row (R2 : List Value) (l : List S45) (i n G : Nat) (x : S45) (h1 : R2.length = G * 4) (h2 : R2.take ((i + 1) * 4) = cs4 (l.take i ++ [x])) (hl : l.length = n) (hi : i < n) (hG : n + 1 ≤ G) :
    (R2.take ((i + 1) * 4) ++ (cs4 (l.drop i) ++ R2.drop ((i + 1) * 4 + (cs4 (l.drop i)).length))).length = G * 4 ∧ (R2.take ((i + 1) * 4) ++ (cs4 (l.drop i) ++ R2.drop ((i + 1) * 4 + (cs4 (l.drop i)).length))).take ((n + 1) * 4) = cs4 (l.take i ++ x :: l.drop i) := by
  have hd : (cs4 (l.drop i)).length = (n - i) * 4 := by rw [cs4_length, List.length_drop, hl]
  constructor
  · simp only [List.length_append, List.length_take, List.length_drop, hd, h1]
    omega
  · have ha : (cs4 (l.take i ++ [x]) ++ cs4 (l.drop i)).length = (n + 1) * 4 := by
      rw [List.length_append, cs4_length, hd, List.length_append, List.length_take, List.length_singleton, hl]
      omega
    rw [h2, ← List.append_assoc, ← ha, List.take_left, ← cs4_append, List.append_assoc, List.singleton_append]
theorem zc45 (k : Nat) : (Builtin.zeroCells (Value.agg #[.int .i64 0, .int .i64 0, .bool false, .bool false]).cells k).size = k * 4 := by
  simp [Builtin.zeroCells, Value.cells]
set_option maxHeartbeats 8000000 in
set_option maxRecDepth 100000 in
theorem ins_grow (b n c i vb : Nat) (l : List S45) (x : S45) (w : World) (cur : Array Value) (hb : w.heap[b]? = some (.cells cur 45 (0, 0))) (hv : w.heap[vb]? = some (.cells (c4 x).toArray 45 (0, 0))) (hl : l.length = n)
    (hcur : cur.toList.take (n * 4) = cs4 l) (hcs : cur.size = c * 4) (hi : i < n) (hnc : n ≤ c) (hroom : c < n + 1) (hbig : n ≤ 1000000) :
    Calls Try.prog 74 #[.slice (some ⟨b, 0, none⟩) n c, .int .i64 i, .slice (some ⟨vb, 0, none⟩) 1 1] w fun e w' => ∃ G, n + 1 ≤ G ∧ G ≤ maxLen ∧ e = .returned (.slice (some ⟨w.heap.size, 0, none⟩) (n + 1) G) ∧
      (∃ cur' : Array Value, w'.heap[w.heap.size]? = some (.cells cur' 45 (0, 0)) ∧ cur'.size = G * 4 ∧ cur'.toList.take ((n + 1) * 4) = cs4 (l.take i ++ x :: l.drop i)) ∧ Below w.heap.size w w' := by
  have hu27 := Try.underlying27
  obtain ⟨i0, hi0, hz0⟩ := Option.map_eq_some_iff.1 info45
  obtain ⟨hzz, hzs, hzb⟩ : i0.zero = some (.agg #[.int .i64 0, .int .i64 0, .bool false, .bool false]) ∧ i0.size = 4 ∧ i0.bytes = 24 := by simpa using hz0
  clear hz0
  obtain ⟨G, hG⟩ : ∃ G, G = grownCap w (n + 1) c 45 := ⟨_, rfl⟩
  have hGn : n + 1 ≤ G := by rw [hG]; exact grownCap_ge w _ _ _
  have hGm : G ≤ maxLen := by rw [hG]; exact grownCap_le_maxLen w (n + 1) c 45 (by unfold maxLen; omega)
  have hold : (Builtin.firstCells i0.size i (.slice (some ⟨b, 0, none⟩) i c)).run Try.prog w.drew = .ok (cs4 (l.take i)).toArray w.drew := by
    rw [hzs]
    refine run_firstCells_some w.drew 4 i ⟨b, 0, none⟩ i c (cs4 (l.take i)) (by rw [cs4_length, List.length_take]; omega) (fun j v hj => ?_)
    rw [← cs4_take l i (by omega), ← hcur, List.getElem?_take] at hj
    split at hj
    · rw [List.getElem?_take] at hj
      split at hj
      · rw [Addr.add_lit, Nat.zero_add]
        exact (cell_of_row w.drew b j cur 45 (0, 0) hb).trans (by simpa using hj)
      · cases hj
    · cases hj
  have hrz : ∀ ty, (Builtin.append_ #[27, 3] ty #[.slice (some ⟨b, 0, none⟩) i c, .int .i64 ((n : Int) + 1 - (i : Int))]).run Try.prog w =
      .ok (.slice (some ⟨w.heap.size, 0, none⟩) (n + 1) G) (w.drew.alloc (.cells ((cs4 (l.take i)).toArray ++ Builtin.zeroCells (Value.agg #[.int .i64 0, .int .i64 0, .bool false, .bool false]).cells (n + 1 - i) ++ Builtin.zeroCells (Value.agg #[.int .i64 0, .int .i64 0, .bool false, .bool false]).cells (G - (n + 1))) 45)) := by
    intro ty
    have h := Lib.run_append_grow_zeros (P := Try.prog) w 27 3 ty 45 i0 _ .i64 .i64 hu27 Try.underlying3 hi0 hzz (some ⟨b, 0, none⟩) i c (cs4 (l.take i)) hold (n + 1 - i) (by omega) (by omega) (by omega) (by omega) (by rw [hzb]; omega) (by rw [hzb, show i + (n + 1 - i) = n + 1 by omega]; exact growslice_fits hroom (by omega))
    rw [show i + (n + 1 - i) = n + 1 by omega, ← hG] at h
    rw [show (n : Int) + 1 - (i : Int) = ((n + 1 - i : Nat) : Int) by omega]
    exact h
  obtain ⟨ROW, hROW⟩ : ∃ ROW : Array Value, ROW = (cs4 (l.take i)).toArray ++ Builtin.zeroCells (Value.agg #[.int .i64 0, .int .i64 0, .bool false, .bool false]).cells (n + 1 - i) ++ Builtin.zeroCells (Value.agg #[.int .i64 0, .int .i64 0, .bool false, .bool false]).cells (G - (n + 1)) := ⟨_, rfl⟩
  rw [← hROW] at hrz
  have hRs : ROW.size = G * 4 := by
    rw [hROW, Array.size_append, Array.size_append, zc45, zc45, List.size_toArray, cs4_length, List.length_take]; omega
  have hRt : ROW.toList.take (i * 4) = cs4 (l.take i) := by
    rw [hROW, Array.toList_append, Array.toList_append, List.append_assoc, List.take_append_of_le_length (by simp [cs4_length]; omega)]
    exact List.take_of_length_le (by simp [cs4_length]; omega)
  have HRS := Aside0.mk hRs
  have HRT := Aside0.mk hRt
  have HB := Aside0.mk hb
  have HV := Aside0.mk hv
  have HC := Aside0.mk hcur
  have HCS := Aside0.mk hcs
  have HGM := Aside0.mk hGm
  have hbw : b < w.heap.size := (Array.getElem?_eq_some_iff.1 hb).1
  have hvw : vb < w.heap.size := (Array.getElem?_eq_some_iff.1 hv).1
  have hGm' : G ≤ 9223372036854775807 := hGm
  clear hROW hRs hRt hb hv hcur hcs hG hold hi0 hzz hzs hzb hGm
  have hz2 : ¬ ((i : Int) = (n : Int)) := by omega
  have hz3 : (c : Int) < (n : Int) + 1 := by omega
  have hci : ¬ (c = i) := by omega
  have hGi : ¬ (G = i) := by omega
  have hGim : ¬ (G = i + 1) := by omega
  have hin : i ≤ n := by omega
  have hw1 : IntKind.i64.wrap ((i : Int) + 1) = (i : Int) + 1 := by rw [IntKind.wrap_i64]; omega
  go_enter Try.func74, Try.ntmps74
  go_wp2_with (first
    | ((with_reducible refine gate_dst (N := 40) rfl ?_); (refine wpList_append_run_ _ rfl _ _ 27 3 rfl _ _ rfl rfl (hrz _) ?_; have P := Aside0.mk (show (w.drew.alloc (.cells ROW 45)).heap[w.heap.size]? = some (.cells ROW 45 (0, 0)) from blk_new w.drew _); have HW := Aside0.mk (below_alloc (below_drew1 (Below.refl w.heap.size w)) (.cells ROW 45 (0, 0))); generalize w.drew.alloc (.cells ROW 45) = W1 at P HW ⊢))
    | ((with_reducible refine gate_dst (N := 45) rfl ?_); (refine wpList_copy_run_ _ rfl _ _ 27 27 rfl (.slice (some ⟨w.heap.size, i * 4, none⟩) (n + 1 - i) (G - i)) (.slice (some ⟨vb, 0, none⟩) 1 1) rfl rfl (run_copy_rowN W1 27 27 _ 45 w.heap.size (i * 4) (n + 1 - i) (G - i) ⟨vb, 0, none⟩ 1 1 ROW 45 (c4 x) 4 hu27 sz45 P.out ?n ?s ?f (c4_one x)) ?_; (case n => rw [show Nat.min 1 (n + 1 - i) = 1 by simp only [Nat.min_def]; split <;> omega]; rfl); (case s => exact fun j v hj => by rw [Addr.add_lit, Nat.zero_add]; exact cell_c4 (blk_below HV.out HW.out) hj); (case f => rw [HRS.out]; show i * 4 + 4 ≤ G * 4; omega))))
  have P2 := Aside0.mk (setRow_heap W1 w.heap.size _ (ROW.toList.take (i * 4) ++ c4 x ++ ROW.toList.drop (i * 4 + (c4 x).length)).toArray 45 (0, 0) P.out)
  have HW2 : Aside0 (Below w.heap.size w (W1.setRow w.heap.size (ROW.toList.take (i * 4) ++ c4 x ++ ROW.toList.drop (i * 4 + (c4 x).length)).toArray)) := ⟨HW.out.trans ⟨rfl, rfl, rfl, by simp, fun k hk => setRow_other _ _ _ _ (by omega)⟩⟩
  generalize W1.setRow w.heap.size (ROW.toList.take (i * 4) ++ c4 x ++ ROW.toList.drop (i * 4 + (c4 x).length)).toArray = W2 at P2 HW2 ⊢
  have hr2l : (ROW.toList.take (i * 4) ++ c4 x ++ ROW.toList.drop (i * 4 + (c4 x).length)).length = G * 4 := by
    have := HRS.out
    simp only [List.length_append, List.length_take, List.length_drop, Array.length_toList, c4, List.length_cons, List.length_nil]
    omega
  have hr2t : (ROW.toList.take (i * 4) ++ c4 x ++ ROW.toList.drop (i * 4 + (c4 x).length)).take ((i + 1) * 4) = cs4 (l.take i ++ [x]) := by
    rw [HRT.out, cs4_append, show cs4 [x] = c4 x by simp [cs4], List.take_append_of_le_length (by simp only [List.length_append, cs4_length, List.length_take, c4, List.length_cons, List.length_nil]; omega)]
    exact List.take_of_length_le (by simp only [List.length_append, cs4_length, List.length_take, c4, List.length_cons, List.length_nil]; omega)
  generalize (ROW.toList.take (i * 4) ++ c4 x ++ ROW.toList.drop (i * 4 + (c4 x).length)) = R2 at P2 hr2l hr2t
  have hcB : ∀ ty sc, (Builtin.copy_ #[27, 27] ty #[.slice (some ⟨w.heap.size, (i + 1) * 4, none⟩) (n + 1 - (i + 1)) (G - (i + 1)), .slice (some ⟨b, i * 4, none⟩) (n - i) sc]).run Try.prog W2.drew = .ok (goInt ((n - i : Nat) : Int)) (W2.drew.setRow w.heap.size (R2.take ((i + 1) * 4) ++ (cs4 (l.drop i) ++ R2.drop ((i + 1) * 4 + (cs4 (l.drop i)).length))).toArray) := fun ty sc => by
    have hm : Nat.min (n - i) (n + 1 - (i + 1)) = n - i := by simp only [Nat.min_def]; split <;> omega
    have h := run_copy_rowN (P := Try.prog) W2.drew 27 27 ty 45 w.heap.size ((i + 1) * 4) (n + 1 - (i + 1)) (G - (i + 1)) ⟨b, i * 4, none⟩ (n - i) sc R2.toArray 45 (cs4 (l.drop i)) 4 hu27 sz45 P2.out
      (by rw [hm, cs4_length, List.length_drop, hl]) (fun j v hj => by
        have hj' := (List.getElem?_eq_some_iff.1 hj).1
        rw [cs4_length, List.length_drop] at hj'
        rw [← cs4_drop l i (by omega), ← HC.out, List.getElem?_drop, List.getElem?_take, if_pos (by omega)] at hj
        rw [Addr.add_lit]
        exact (cell_of_row W2.drew b _ cur 45 (0, 0) (blk_below HB.out (below_drew1 HW2.out))).trans (by simpa using hj))
      (by rw [cs4_length, List.length_drop, List.size_toArray, hr2l]; omega) (cs4_one _)
    rw [hm] at h
    simpa using h
  have HR2L := Aside0.mk hr2l
  have HR2T := Aside0.mk hr2t
  have HCB := Aside0.mk hcB
  clear hr2l hr2t hcB
  have htn : ((i : Int) + 1).toNat = i + 1 := by omega
  have hb1 : (0 : Int) ≤ (i : Int) + 1 := by omega
  have hb3 : (i : Int) ≤ (n : Int) := by omega
  have hb4 : ((i : Int) < 0) = False := eq_false (by omega)
  have hw2 : wrap64 ((i : Int) + 1) = (i : Int) + 1 := by unfold wrap64; omega
  go_region_law (refine step_copy_run_ rfl _ _ 27 27 rfl (.slice (some ⟨w.heap.size, (i + 1) * 4, none⟩) (n + 1 - (i + 1)) (G - (i + 1))) (.slice (some ⟨b, i * 4, none⟩) (n - i) (c - i)) (by simp [Act.eval, Act.put]) (by simp [Act.eval, Act.put]) (HCB.out _ _) ?_)
  go_wp2_with (fail)
  go_ret
  obtain ⟨q1, q2⟩ := ins_row R2 l i n G x HR2L.out HR2T.out hl hi hGn
  generalize R2.take ((i + 1) * 4) ++ (cs4 (l.drop i) ++ R2.drop ((i + 1) * 4 + (cs4 (l.drop i)).length)) = R3 at q1 q2 ⊢
  exact ⟨G, hGn, HGM.out, rfl, ⟨R3.toArray, setRow_heap W2.drew w.heap.size _ _ 45 (0, 0) P2.out, List.size_toArray.trans q1, q2⟩, (below_drew1 HW2.out).trans ⟨rfl, rfl, rfl, by simp, fun k hk => setRow_other _ _ _ _ (by omega)⟩⟩
theorem ins_row2 (cur : List Value) (l : List S45) (i n c : Nat) (x : S45) (h1 : cur.length = c * 4) (h2 : cur.take (n * 4) = cs4 l) (hl : l.length = n) (hi : i < n) (hc : n + 1 ≤ c) :
    (cur.take ((i + 1) * 4) ++ (cs4 (l.drop i) ++ cur.drop ((i + 1) * 4 + (cs4 (l.drop i)).length))).length = c * 4 ∧
    ((cur.take ((i + 1) * 4) ++ (cs4 (l.drop i) ++ cur.drop ((i + 1) * 4 + (cs4 (l.drop i)).length))).take (i * 4) ++ (c4 x ++ (cur.take ((i + 1) * 4) ++ (cs4 (l.drop i) ++ cur.drop ((i + 1) * 4 + (cs4 (l.drop i)).length))).drop (i * 4 + (c4 x).length))).length = c * 4 ∧
    ((cur.take ((i + 1) * 4) ++ (cs4 (l.drop i) ++ cur.drop ((i + 1) * 4 + (cs4 (l.drop i)).length))).take (i * 4) ++ (c4 x ++ (cur.take ((i + 1) * 4) ++ (cs4 (l.drop i) ++ cur.drop ((i + 1) * 4 + (cs4 (l.drop i)).length))).drop (i * 4 + (c4 x).length))).take ((n + 1) * 4) = cs4 (l.take i ++ x :: l.drop i) := by
  have hd : (cs4 (l.drop i)).length = (n - i) * 4 := by rw [cs4_length, List.length_drop, hl]
  have h4 : (c4 x).length = 4 := rfl
  have ht : (cur.take ((i + 1) * 4)).length = (i + 1) * 4 := by rw [List.length_take, h1]; omega
  have hL : (cur.take ((i + 1) * 4) ++ (cs4 (l.drop i) ++ cur.drop ((i + 1) * 4 + (cs4 (l.drop i)).length))).length = c * 4 := by
    simp only [List.length_append, List.length_take, List.length_drop, hd, h1]
    omega
  refine ⟨hL, ?_, ?_⟩
  · simp only [List.length_append, List.length_take, List.length_drop, hL, h4]
    omega
  · have e1 : (cur.take ((i + 1) * 4) ++ (cs4 (l.drop i) ++ cur.drop ((i + 1) * 4 + (cs4 (l.drop i)).length))).take (i * 4) = cs4 (l.take i) := by
      rw [List.take_append_of_le_length (by rw [ht]; omega), List.take_take, show min (i * 4) ((i + 1) * 4) = i * 4 by omega, ← cs4_take l i (by omega), ← h2, List.take_take, show min (i * 4) (n * 4) = i * 4 by omega]
    have e2 : (cur.take ((i + 1) * 4) ++ (cs4 (l.drop i) ++ cur.drop ((i + 1) * 4 + (cs4 (l.drop i)).length))).drop (i * 4 + (c4 x).length) = cs4 (l.drop i) ++ cur.drop ((i + 1) * 4 + (cs4 (l.drop i)).length) := by
      have e : i * 4 + (c4 x).length = (cur.take ((i + 1) * 4)).length := by rw [ht, h4]; omega
      rw [e, List.drop_left]
    have ha : (cs4 (l.take i) ++ (c4 x ++ cs4 (l.drop i))).length = (n + 1) * 4 := by
      simp only [List.length_append, cs4_length, List.length_take, List.length_drop, hl, h4]
      omega
    rw [e1, e2, show cs4 (l.take i) ++ (c4 x ++ (cs4 (l.drop i) ++ cur.drop ((i + 1) * 4 + (cs4 (l.drop i)).length))) = (cs4 (l.take i) ++ (c4 x ++ cs4 (l.drop i))) ++ cur.drop ((i + 1) * 4 + (cs4 (l.drop i)).length) by simp only [List.append_assoc], ← ha, List.take_left]
    simp [cs4]
theorem shape45 {w : World} {b : Nat} {cur : Array Value} (h : w.heap[b]? = some (.cells cur 45 (0, 0))) : w.shape? b = some (45, cur.size) := by
  simp [World.shape?, h]
set_option maxHeartbeats 8000000 in
set_option maxRecDepth 100000 in
theorem ins_shift (b n c i vb : Nat) (l : List S45) (x : S45) (w : World) (cur : Array Value) (hb : w.heap[b]? = some (.cells cur 45 (0, 0))) (hv : w.heap[vb]? = some (.cells (c4 x).toArray 45 (0, 0))) (hne : vb ≠ b) (hl : l.length = n)
    (hcur : cur.toList.take (n * 4) = cs4 l) (hcs : cur.size = c * 4) (hi : i < n) (hnc : n + 1 ≤ c) (hcm : c ≤ 9223372036854775807) (hbig : n ≤ 1000000) :
    Calls Try.prog 74 #[.slice (some ⟨b, 0, none⟩) n c, .int .i64 i, .slice (some ⟨vb, 0, none⟩) 1 1] w fun e w' => e = .returned (.slice (some ⟨b, 0, none⟩) (n + 1) c) ∧
      (∃ cur' : Array Value, w'.heap[b]? = some (.cells cur' 45 (0, 0)) ∧ cur'.size = c * 4 ∧ cur'.toList.take ((n + 1) * 4) = cs4 (l.take i ++ x :: l.drop i)) ∧ Below b w w' := by
  have hu27 := Try.underlying27
  obtain ⟨i0, hi0, hz0⟩ := Option.map_eq_some_iff.1 info45
  obtain ⟨hzz, hzs, hzb⟩ : i0.zero = some (.agg #[.int .i64 0, .int .i64 0, .bool false, .bool false]) ∧ i0.size = 4 ∧ i0.bytes = 24 := by simpa using hz0
  have hov : ∀ lb cb, (callFunc 77 #[.slice (some ⟨vb, 0, none⟩) 1 1, .slice (some ⟨b, (i + 1) * 4, none⟩) lb cb]).run Try.prog w = .ok (.value (.bool false)) w := fun lb cb => by
    rw [run_callFunc_extern Try.func77 (by kernel_rfl) (by kernel_rfl) (by kernel_rfl) (e := Extern.SlicesOverlaps.overlaps #[27, 27] #[4]) (by kernel_rfl),
      Lib.run_overlaps_apart w 27 4 45 hu27 4 (fun w => by simp [sizeOf, typeInfo, hi0, hzs]) ⟨vb, 0, none⟩ ⟨b, (i + 1) * 4, none⟩ 1 1 lb cb hne 45 45 (c4 x).toArray.size cur.size (shape45 hv) (shape45 hb) (by omega) (blk_frozen hv 0) (blk_frozen hv _)]
    rfl
  obtain ⟨p1, p2, p3⟩ := ins_row2 cur.toList l i n c x (by simpa using hcs) hcur hl hi hnc
  have hm1 : Nat.min (n + 1 - i) (n + 1 - (i + 1)) = n - i := by simp only [Nat.min_def]; split <;> omega
  have hcB : ∀ ty, (Builtin.copy_ #[27, 27] ty #[.slice (some ⟨b, (i + 1) * 4, none⟩) (n + 1 - (i + 1)) (c - (i + 1)), .slice (some ⟨b, i * 4, none⟩) (n + 1 - i) (c - i)]).run Try.prog w.drew = .ok (goInt ((n - i : Nat) : Int)) (w.drew.setRow b (cur.toList.take ((i + 1) * 4) ++ (cs4 (l.drop i) ++ cur.toList.drop ((i + 1) * 4 + (cs4 (l.drop i)).length))).toArray) := fun ty => by
    have h := run_copy_rowN (P := Try.prog) w.drew 27 27 ty 45 b ((i + 1) * 4) (n + 1 - (i + 1)) (c - (i + 1)) ⟨b, i * 4, none⟩ (n + 1 - i) (c - i) cur 45 (cs4 (l.drop i)) 4 hu27 sz45 hb
      (by rw [hm1, cs4_length, List.length_drop, hl]) (fun j v hj => by
        have hj' := (List.getElem?_eq_some_iff.1 hj).1
        rw [cs4_length, List.length_drop] at hj'
        rw [← cs4_drop l i (by omega), ← hcur, List.getElem?_drop, List.getElem?_take, if_pos (by omega)] at hj
        rw [Addr.add_lit]
        exact (cell_of_row w.drew b _ cur 45 (0, 0) hb).trans (by simpa using hj))
      (by rw [cs4_length, List.length_drop, hcs]; omega) (cs4_one _)
    rw [hm1, List.append_assoc] at h
    exact h
  obtain ⟨R1, hR1⟩ : ∃ R1, R1 = cur.toList.take ((i + 1) * 4) ++ (cs4 (l.drop i) ++ cur.toList.drop ((i + 1) * 4 + (cs4 (l.drop i)).length)) := ⟨_, rfl⟩
  rw [← hR1] at p1 p2 p3 hcB
  have HP1 := Aside0.mk p1
  have HP2 := Aside0.mk p2
  have HP3 := Aside0.mk p3
  have HCB := Aside0.mk hcB
  have HB := Aside0.mk hb
  have HV := Aside0.mk hv
  have HNE := Aside0.mk hne
  clear hR1 p1 p2 p3 hcB hb hv hcur hcs hi0 hz0 hzz hzs hzb hne
  have hz2 : ¬ ((i : Int) = (n : Int)) := by omega
  have hz3 : ((c : Int) < (n : Int) + 1) = False := eq_false (by omega)
  have hz4 : decide ((c : Int) < (n : Int) + 1) = false := decide_eq_false (by omega)
  have hci : ¬ (c = i) := by omega
  have hcim : ¬ (c = i + 1) := by omega
  have hin : i ≤ n := by omega
  have hw1 : IntKind.i64.wrap ((i : Int) + 1) = (i : Int) + 1 := by rw [IntKind.wrap_i64]; omega
  have hw2 : wrap64 ((i : Int) + 1) = (i : Int) + 1 := by unfold wrap64; omega
  have htn : ((i : Int) + 1).toNat = i + 1 := by omega
  have hb1 : (0 : Int) ≤ (i : Int) + 1 := by omega
  have hb3 : (i : Int) ≤ (n : Int) := by omega
  have hb5 : (i : Int) ≤ (n : Int) + 1 := by omega
  have hb6 : ((n : Int) + 1).toNat = n + 1 := by omega
  have hb7 : (n : Int) + 1 ≤ (c : Int) := by omega
  have hb8 : n + 1 ≤ c := hnc
  go_enter Try.func74, Try.ntmps74
  go_wp2_with (simp only [hov])
  go_region_law (refine step_copy_run_ rfl _ _ 27 27 rfl (.slice (some ⟨b, (i + 1) * 4, none⟩) (n + 1 - (i + 1)) (c - (i + 1))) (.slice (some ⟨b, i * 4, none⟩) (n + 1 - i) (c - i)) (by simp [Act.eval, Act.put]) (by simp [Act.eval, Act.put]) (HCB.out _) ?_)
  have P1 := Aside0.mk (setRow_heap w.drew b _ R1.toArray 45 (0, 0) HB.out)
  have PV : Aside0 ((w.drew.setRow b R1.toArray).heap[vb]? = some (.cells (c4 x).toArray 45 (0, 0))) := ⟨(setRow_other w.drew b vb R1.toArray HNE.out).trans HV.out⟩
  have HW1 : Aside0 (Below b w (w.drew.setRow b R1.toArray)) := ⟨(below_drew1 (Below.refl b w)).trans ⟨rfl, rfl, rfl, by simp, fun k hk => setRow_other _ _ _ _ (by omega)⟩⟩
  generalize w.drew.setRow b R1.toArray = W1 at P1 PV HW1 ⊢
  go_wp2_with ((with_reducible refine gate_dst (N := 82) rfl ?_); (refine wpList_copy_run_ _ rfl _ _ 27 27 rfl (.slice (some ⟨b, i * 4, none⟩) (n + 1 - i) (c - i)) (.slice (some ⟨vb, 0, none⟩) 1 1) rfl rfl (run_copy_rowN W1 27 27 _ 45 b (i * 4) (n + 1 - i) (c - i) ⟨vb, 0, none⟩ 1 1 R1.toArray 45 (c4 x) 4 hu27 sz45 P1.out ?n ?s ?f (c4_one x)) ?_; (case n => rw [show Nat.min 1 (n + 1 - i) = 1 by simp only [Nat.min_def]; split <;> omega]; rfl); (case s => exact fun j v hj => by rw [Addr.add_lit, Nat.zero_add]; exact cell_c4 PV.out hj); (case f => rw [List.size_toArray, HP1.out]; show i * 4 + 4 ≤ c * 4; omega); have P2 := Aside0.mk (setRow_heap W1 b _ (R1.take (i * 4) ++ c4 x ++ R1.drop (i * 4 + (c4 x).length)).toArray 45 (0, 0) P1.out); have HW2 : Aside0 (Below b w (W1.setRow b (R1.take (i * 4) ++ c4 x ++ R1.drop (i * 4 + (c4 x).length)).toArray)) := ⟨HW1.out.trans ⟨rfl, rfl, rfl, by simp, fun k hk => setRow_other _ _ _ _ (by omega)⟩⟩; generalize W1.setRow b _ = W2 at P2 HW2 ⊢))
  go_ret
  refine ⟨rfl, ⟨_, P2.out, ?_, ?_⟩, HW2.out⟩
  · rw [List.append_assoc]; exact List.size_toArray.trans HP2.out
  · rw [List.append_assoc]; exact HP3.out
theorem C_c4 {w : World} {vb : Nat} {x : S45} (hv : w.heap[vb]? = some (.cells (c4 x).toArray 45 (0, 0))) : Kd.C k45 w (some ⟨vb, 0, none⟩) 1 [x] := by
  refine ⟨rfl, by omega, fun _ => ⟨⟨vb, 0, none⟩, rfl, fun j p hj => ?_⟩⟩
  cases j with
  | zero =>
    obtain rfl : x = p := by simpa using hj
    exact ⟨c4 x, rfl, k45_mk w x, fun i u hi => by rw [Addr.add_lit, Nat.zero_mul, Nat.zero_add, Nat.zero_add]; exact cell_c4 hv hi⟩
  | succ j => simp at hj
set_option maxHeartbeats 8000000 in
set_option maxRecDepth 100000 in
theorem ins_end (A : Option Addr) (c vb base : Nat) (ok : Nat → Prop) (l : List S45) (x : S45) (w : World) (ho : k45.R 45 w base ok (.slice A l.length c) l) (hbase : base ≤ w.heap.size) (hv : w.heap[vb]? = some (.cells (c4 x).toArray 45 (0, 0)))
    (hfresh : ∀ k, w.heap.size ≤ k → ok k) (hbig : l.length ≤ 1000000) :
    Calls Try.prog 74 #[.slice A l.length c, .int .i64 (l.length : Int), .slice (some ⟨vb, 0, none⟩) 1 1] w fun e w' => ∃ v', e = .returned v' ∧ k45.R 45 w' base ok v' (l ++ [x]) ∧ Below base w w' := by
  have hu27 := Try.underlying27
  have HO := Aside0.mk ho
  have HX := Aside0.mk (C_c4 hv)
  have HF := Aside0.mk hfresh
  have hlc := (Kd.R_reads' ho).2.1
  clear ho hv hfresh
  go_enter Try.func74, Try.ntmps74
  go_wp2_with ((with_reducible refine gate_dst (N := 25) rfl ?_); (refine Kd.R_append_rows k45 (w0 := w) base rfl (.tmp 23) (.tmp 24) 27 45 (.agg #[(.int .i64 0), (.int .i64 0), (.bool false), (.bool false)]) 24 rfl hu27 info45 rfl (by decide) (by omega) (.slice A l.length c) l [x] (some ⟨vb, 0, none⟩) 1 1 ok (fun _ => False) rfl rfl HO.out HX.out (fun _ _ h => h) (fun _ h => h.elim) HF.out (Below.refl _ _) hbase (by omega) ?_; intro v1 w1 hr hb _ _; have HR := Aside0.mk hr; have HB := Aside0.mk hb; clear hr hb))
  all_goals (go_ret; exact ⟨_, rfl, HR.out, HB.out⟩)
theorem insert_calls (A : Option Addr) (c vb base i : Nat) (ok : Nat → Prop) (l : List S45) (x : S45) (w : World) (ho : k45.R 45 w base ok (.slice A l.length c) l) (hbase : base ≤ w.heap.size) (hv : w.heap[vb]? = some (.cells (c4 x).toArray 45 (0, 0)))
    (hne : some vb ≠ (Value.slice A l.length c).ownBlock) (hfresh : ∀ k, w.heap.size ≤ k → ok k) (hi : i ≤ l.length) (hbig : l.length ≤ 1000000) :
    Calls Try.prog 74 #[.slice A l.length c, .int .i64 (i : Int), .slice (some ⟨vb, 0, none⟩) 1 1] w fun e w' => ∃ v', e = .returned v' ∧ k45.R 45 w' base ok v' (l.take i ++ x :: l.drop i) ∧ Below base w w' := by
  by_cases he : i = l.length
  · subst he
    rw [List.take_of_length_le (Nat.le_refl _), List.drop_of_length_le (Nat.le_refl _)]
    exact ins_end A c vb base ok l x w ho hbase hv hfresh hbig
  · have hil : i < l.length := by omega
    rcases (R4_open ho).2 with ⟨_, h0⟩ | ⟨g, cap, cur, hs, hbg, hg, hnc, hcm, hcs, hct⟩
    · omega
    · obtain ⟨rfl, rfl⟩ : A = some ⟨g, 0, none⟩ ∧ c = cap := by
        injection hs with e1 e2 e3; exact ⟨e1, e3⟩
      have hlen : (l.take i ++ x :: l.drop i).length = l.length + 1 := by simp; omega
      by_cases hroom : c < l.length + 1
      · refine (ins_grow g l.length c i vb l x w cur hg hv rfl hct hcs hil hnc hroom hbig).mono ?_
        rintro e w' ⟨G, hG1, hG2, rfl, ⟨cur', h1, h2, h3⟩, hb⟩
        refine ⟨_, rfl, R4_mk (fun k hk => ?_) ?_, hb.mono hbase⟩
        · obtain rfl : w.heap.size = k := by simpa [Value.ownBlock] using hk
          exact hfresh _ (Nat.le_refl _)
        · exact ⟨cs4_length _, .inr ⟨w.heap.size, G, cur', by rw [hlen], hbase, h1, by rw [hlen]; exact hG1, hG2, h2, by rw [hlen]; exact h3⟩⟩
      · refine (ins_shift g l.length c i vb l x w cur hg hv (fun e => hne (by rw [e]; rfl)) rfl hct hcs hil (by omega) hcm hbig).mono ?_
        rintro e w' ⟨rfl, ⟨cur', h1, h2, h3⟩, hb⟩
        refine ⟨_, rfl, R4_mk (fun k hk => ho.1 k hk) ?_, hb.mono hbg⟩
        exact ⟨cs4_length _, .inr ⟨g, c, cur', by rw [hlen], hbg, h1, by rw [hlen]; omega, hcm, h2, by rw [hlen]; exact h3⟩⟩
theorem ld_ {P : Program} {md : Region.Mode} {ops : Array Oper} {Q : Exit → Act → World → Prop} {S : World → Prop} {ds : List Nat} (i : Nat) (N : Option Tmp) (l' : Array Bool) (b : Nat) (t : TypeId) (x : Operand) (cs : Array Value) (d : TypeDesc) {oi : Oper} {fuel : Nat} {l : Array Bool} {a : Act} {w : World} (hc : takeB md ops ds l l' i = true) (hS : S w)
    (hb : ∀ w, S w → w.heap[b]? = some (.cells cs t (0, 0))) (hu : P.underlying t = some d) (hd : (match d with | .struct _ | .array _ _ => true | _ => false) = true) (hz : (P.info? t).map (·.size) = some cs.size) {a' : Act} (h : wpAnyLast P md ops Q S ds fuel l' a' w)
    (hi : ops[i]? = some oi := by rfl) (hN : oi.dst = N := by rfl) (ho : oi.op = .load t x := by rfl) (hx : a.eval x = .pointer (some ⟨b, 0, none⟩) := by rfl) (hQ : ∀ c a w, Q (.panic c) (a.put oi.dst (.agg cs)) w → Q (.panic c) a w := by exact fun _ _ _ h => h) (hw : Region.wanted oi (yielded ops a.tmps) = true := by rfl)
    (ha : a.put N (.agg cs) = a' := by (simp only [Act.put, List.setIfInBounds_toArray, List.set_cons_zero, List.set_cons_succ, i64_w, i32_w]; rfl)) : wpAnyLast P md ops Q S ds (fuel + 1) l a w :=
  take_ l' hi hN hc hQ (Or.inl ⟨hw, fun w hw' => by
    unfold execOp
    simp only [ho, hx, Instr.loadAt, Instr.sureAddr, Sem.run_bind, Sem.run_pure, Result.andThen_ok, run_loadVar_row w b t t cs (0, 0) d (hb w hw') hu hd hz]⟩) hS ha h
def placeN (l : List S45) (x : S45) : Nat := (placeOf l x.f0).toNat
def putOf (l : List S45) (x : S45) : List S45 := l.take (placeN l x) ++ x :: l.drop (placeN l x)
set_option maxHeartbeats 8000000 in
set_option maxRecDepth 100000 in
theorem putBy_calls (A : Option Addr) (c : Nat) (l : List S45) (x : S45) (w : World) (hr : Kd.C k45 w A l.length l) (hc : l.length ≤ c) (ha : Asc l) (hl : l.length ≤ 1000000) :
    Calls Try.prog 59 #[.slice A l.length c, .agg #[.int .i64 x.f0, .int .i64 x.f1, .bool x.f2, .bool x.f3], .func (.func 47) #[] #[]] w fun e w' => ∃ v', e = .returned v' ∧ Kd.R k45 45 w' w.heap.size (fun _ => True) v' (putOf l x) ∧ Below w.heap.size w w' := by
  have hu := Try.underlying45
  have HR := Aside0.mk hr
  have HC := Aside0.mk hc
  have HA := Aside0.mk ha
  have HL := Aside0.mk hl
  have hp0 : 0 ≤ placeOf l x.f0 ∧ placeOf l x.f0 ≤ (l.length : Int) := by
    unfold placeOf
    have := List.length_filter_le (fun y : S45 => decide (y.f0 < x.f0)) l
    omega
  have hpn : placeOf l x.f0 = ((placeN l x : Nat) : Int) := by unfold placeN; omega
  have HN : Aside0 (placeN l x ≤ l.length) := ⟨by unfold placeN; omega⟩
  have HE : Aside0 (impl_Hold_56.f l = some l) := ⟨by unfold impl_Hold_56.f; rw [if_pos (by omega)]⟩
  have HPL : Aside0 (impl_Hold_46.f l x.f0 = some (((placeN l x : Nat) : Int), hasOf l x.f0)) := ⟨by unfold impl_Hold_46.f; rw [if_pos ⟨ha, hl⟩, hpn]⟩
  clear hr hc ha hl hp0 hpn
  have P4 : Aside0 ((w.alloc (.cells #[.int .i64 x.f0, .int .i64 x.f1, .bool x.f2, .bool x.f3] 45 (0, 0))).heap[w.heap.size]? = some (.cells #[.int .i64 x.f0, .int .i64 x.f1, .bool x.f2, .bool x.f3] 45 (0, 0))) := ⟨blk_new _ _⟩
  have HB := Aside0.mk (below_alloc (Below.refl w.heap.size w) (.cells #[.int .i64 x.f0, .int .i64 x.f1, .bool x.f2, .bool x.f3] 45 (0, 0)))
  go_enter Try.func59, Try.ntmps59
  go_wp2_with (fail)
  generalize w.alloc (.cells #[.int .i64 x.f0, .int .i64 x.f1, .bool x.f2, .bool x.f3] 45 (0, 0)) = W1 at P4 HB ⊢
  refine (stamp_calls x W1).mono ?_
  rintro e W2 ⟨rfl, hb⟩
  have P4 := Aside0.mk (blk_below P4.out hb)
  have HB := Aside0.mk (below_step HB.out hb)
  clear hb
  go_wp2_with (fail)
  refine (impl_Hold_46.calls A c l x.f0 ((placeN l x : Nat) : Int) (hasOf l x.f0) W2 (Kd.C_below HR.out HB.out) HC.out HPL.out).mono ?_
  rintro e W3 ⟨rfl, hb⟩
  have P4 := Aside0.mk (blk_below P4.out hb)
  have HB := Aside0.mk (below_step HB.out hb)
  clear hb
  go_wp2_with (fail)
  have P4 := Aside0.mk (blk_drew P4.out)
  have HB := Aside0.mk (below_drew1 HB.out)
  refine start_ (n := 7) (S := fun w' => w'.heap[w.heap.size]? = some (.cells #[.int .i64 x.f0, .int .i64 x.f1, .bool x.f2, .bool x.f3] 45 (0, 0))) (ds := []) (bt_ 7 0) (by kernel_rfl) rfl rfl P4.out (fun hHeld => ?_)
  generalize W3.drew = W4 at P4 HB hHeld ⊢
  refine pu_ 0 (some 18) (bt_ 7 1) (by kernel_rfl) ?_
  refine pu_ 2 (some 20) (bt_ 7 5) (by kernel_rfl) ?_
  refine ld_ 3 (some 21) (bt_ 7 13) w.heap.size 45 (.tmp 4) #[.int .i64 x.f0, .int .i64 x.f1, .bool x.f2, .bool x.f3] _ (by kernel_rfl) hHeld (fun _ h_ => h_) hu rfl (by kernel_rfl) ?_
  refine two_ (i := 1) (j := 4) (Ni := some 19) (Nj := some 22) (bt_ 7 15) (bt_ 7 29) rfl rfl rfl rfl (by kernel_rfl) (by decide) (by decide) (fun K hK => ?_) (fun K hK => ?_)
  · refine goes_ Try.func56 (by kernel_rfl) rfl #[.slice A l.length c] (by rfl) rfl rfl (by simp only [List.map_toArray, List.map_cons, List.map_nil]; rfl) ?_
    refine (impl_Hold_56.calls A c l l W4 (Kd.C_below HR.out HB.out) HC.out HE.out).mono ?_
    rintro e W5 ⟨v, rfl, r, hb⟩
    refine ⟨_, rfl, ?_⟩
    obtain ⟨B, d, e0⟩ := Kd.R_slice r
    subst e0
    have HS := Aside0.mk (Kd.R_base r)
    have HT := Aside0.mk (Kd.R_lt r)
    have RR := Aside0.mk (Kd.R_lower r (show w.heap.size + 1 ≤ _ from blk_lt P4.out))
    have P4 := Aside0.mk (blk_below P4.out hb)
    have HB := Aside0.mk (below_step HB.out hb)
    clear r hb
    refine hK.out _ _ P4.out (fun hHeld => ?_)
    clear hK K
    refine norm_ (a' := ?_) ?_ ?_
    rotate_left
    · show Act.put _ (some 19) _ = _
      simp only [Act.put, List.setIfInBounds_toArray, List.set_cons_zero, List.set_cons_succ, i64_w, i32_w]
      rfl
    refine one_ (i := 4) (N := some 22) (bt_ 7 31) rfl rfl (by kernel_rfl) (by decide) (fun K hK => ?_)
    refine event_step (v := .slice (some ⟨W5.heap.size, 0, none⟩) 1 1) (w1 := W5.alloc (.cells #[.int .i64 x.f0, .int .i64 x.f1, .bool x.f2, .bool x.f3] 45 (0, 0))) rfl (by first | (go_simp; done) | (go_simp; rfl)) ?_
    have PV : Aside0 ((W5.alloc (.cells #[.int .i64 x.f0, .int .i64 x.f1, .bool x.f2, .bool x.f3] 45 (0, 0))).heap[W5.heap.size]? = some (.cells (c4 x).toArray 45 (0, 0))) := ⟨blk_new W5 _⟩
    have P4 := Aside0.mk (blk_alloc P4.out (.cells #[.int .i64 x.f0, .int .i64 x.f1, .bool x.f2, .bool x.f3] 45 (0, 0)))
    have RR := Aside0.mk (Kd.R_alloc RR.out (.cells #[.int .i64 x.f0, .int .i64 x.f1, .bool x.f2, .bool x.f3] 45 (0, 0)))
    have hne : some W5.heap.size ≠ (Value.slice B l.length d).ownBlock := fun e => by have := HT.out _ e.symm; omega
    have HB := Aside0.mk (below_alloc HB.out (.cells #[.int .i64 x.f0, .int .i64 x.f1, .bool x.f2, .bool x.f3] 45 (0, 0)))
    have KV := Aside0.mk (blk_lt PV.out)
    generalize W5.alloc (.cells #[.int .i64 x.f0, .int .i64 x.f1, .bool x.f2, .bool x.f3] 45 (0, 0)) = W6 at P4 PV HB KV RR ⊢
    generalize W5.heap.size = vb at PV KV hne ⊢
    refine hK.out _ _ P4.out (fun hHeld => ?_)
    clear hK K
    refine norm_ (a' := ?_) ?_ ?_
    rotate_left
    · show Act.put _ (some 22) _ = _
      simp only [Act.put, List.setIfInBounds_toArray, List.set_cons_zero, List.set_cons_succ, i64_w, i32_w]
      rfl
    refine one_ (i := 5) (N := some 23) (bt_ 7 63) rfl rfl (by kernel_rfl) (by decide) (fun K hK => ?_)
    refine goes_ Try.func74 (by kernel_rfl) rfl #[.slice B l.length d, .int .i64 (placeN l x : Int), .slice (some ⟨vb, 0, none⟩) 1 1] (by rfl) rfl rfl (by simp only [List.map_toArray, List.map_cons, List.map_nil]; rfl) ?_
    refine (insert_calls B d vb (w.heap.size + 1) (placeN l x) (fun _ => True) l x W6 RR.out (blk_lt P4.out) PV.out hne (fun _ _ => trivial) HN.out HL.out).mono ?_
    rintro e Wf ⟨v', rfl, r, hb⟩
    refine ⟨_, rfl, ?_⟩
    have RF := Aside0.mk (Kd.R_lower r (Nat.le_succ _))
    have P4 := Aside0.mk ((hb.block _ (Nat.lt_succ_self _)).trans P4.out)
    have HB := Aside0.mk (HB.out.trans (hb.mono (Nat.le_succ _)))
    clear r hb
    refine hK.out _ _ P4.out (fun hHeld => ?_)
    clear hK K
    refine norm_ (a' := ?_) ?_ ?_
    rotate_left
    · show Act.put _ (some 23) _ = _
      simp only [Act.put, List.setIfInBounds_toArray, List.set_cons_zero, List.set_cons_succ, i64_w, i32_w]
      rfl
    refine pu_ 6 (some 6) (bt_ 7 127) (by kernel_rfl) ?_
    refine done_ (by kernel_rfl) ?_
    go_wp2_with (fail)
    go_ret
    exact ⟨_, rfl, RF.out, HB.out⟩
  · refine event_step (v := .slice (some ⟨W4.heap.size, 0, none⟩) 1 1) (w1 := W4.alloc (.cells #[.int .i64 x.f0, .int .i64 x.f1, .bool x.f2, .bool x.f3] 45 (0, 0))) rfl (by first | (go_simp; done) | (go_simp; rfl)) ?_
    have PV : Aside0 ((W4.alloc (.cells #[.int .i64 x.f0, .int .i64 x.f1, .bool x.f2, .bool x.f3] 45 (0, 0))).heap[W4.heap.size]? = some (.cells (c4 x).toArray 45 (0, 0))) := ⟨blk_new W4 _⟩
    have P4 := Aside0.mk (blk_alloc P4.out (.cells #[.int .i64 x.f0, .int .i64 x.f1, .bool x.f2, .bool x.f3] 45 (0, 0)))
    have HB := Aside0.mk (below_alloc HB.out (.cells #[.int .i64 x.f0, .int .i64 x.f1, .bool x.f2, .bool x.f3] 45 (0, 0)))
    have KV := Aside0.mk (blk_lt PV.out)
    generalize W4.alloc (.cells #[.int .i64 x.f0, .int .i64 x.f1, .bool x.f2, .bool x.f3] 45 (0, 0)) = W5 at P4 PV HB KV ⊢
    generalize W4.heap.size = vb at PV KV ⊢
    refine hK.out _ _ P4.out (fun hHeld => ?_)
    clear hK K
    refine norm_ (a' := ?_) ?_ ?_
    rotate_left
    · show Act.put _ (some 22) _ = _
      simp only [Act.put, List.setIfInBounds_toArray, List.set_cons_zero, List.set_cons_succ, i64_w, i32_w]
      rfl
    refine one_ (i := 1) (N := some 19) (bt_ 7 31) rfl rfl (by kernel_rfl) (by decide) (fun K hK => ?_)
    refine goes_ Try.func56 (by kernel_rfl) rfl #[.slice A l.length c] (by rfl) rfl rfl (by simp only [List.map_toArray, List.map_cons, List.map_nil]; rfl) ?_
    refine (impl_Hold_56.calls A c l l W5 (Kd.C_below HR.out HB.out) HC.out HE.out).mono ?_
    rintro e W6 ⟨v, rfl, r, hb⟩
    refine ⟨_, rfl, ?_⟩
    obtain ⟨B, d, e0⟩ := Kd.R_slice r
    subst e0
    have HS := Aside0.mk (Kd.R_base r)
    have HT := Aside0.mk (Kd.R_lt r)
    have RR := Aside0.mk (Kd.R_lower r (show w.heap.size + 1 ≤ _ from blk_lt P4.out))
    have P4 := Aside0.mk (blk_below P4.out hb)
    have PV := Aside0.mk (blk_below PV.out hb)
    have hne : some vb ≠ (Value.slice B l.length d).ownBlock := fun e => by have := HS.out _ e.symm; have := KV.out; omega
    have HB := Aside0.mk (below_step HB.out hb)
    clear r hb
    refine hK.out _ _ P4.out (fun hHeld => ?_)
    clear hK K
    refine norm_ (a' := ?_) ?_ ?_
    rotate_left
    · show Act.put _ (some 19) _ = _
      simp only [Act.put, List.setIfInBounds_toArray, List.set_cons_zero, List.set_cons_succ, i64_w, i32_w]
      rfl
    refine one_ (i := 5) (N := some 23) (bt_ 7 63) rfl rfl (by kernel_rfl) (by decide) (fun K hK => ?_)
    refine goes_ Try.func74 (by kernel_rfl) rfl #[.slice B l.length d, .int .i64 (placeN l x : Int), .slice (some ⟨vb, 0, none⟩) 1 1] (by rfl) rfl rfl (by simp only [List.map_toArray, List.map_cons, List.map_nil]; rfl) ?_
    refine (insert_calls B d vb (w.heap.size + 1) (placeN l x) (fun _ => True) l x W6 RR.out (blk_lt P4.out) PV.out hne (fun _ _ => trivial) HN.out HL.out).mono ?_
    rintro e Wf ⟨v', rfl, r, hb⟩
    refine ⟨_, rfl, ?_⟩
    have RF := Aside0.mk (Kd.R_lower r (Nat.le_succ _))
    have P4 := Aside0.mk ((hb.block _ (Nat.lt_succ_self _)).trans P4.out)
    have HB := Aside0.mk (HB.out.trans (hb.mono (Nat.le_succ _)))
    clear r hb
    refine hK.out _ _ P4.out (fun hHeld => ?_)
    clear hK K
    refine norm_ (a' := ?_) ?_ ?_
    rotate_left
    · show Act.put _ (some 23) _ = _
      simp only [Act.put, List.setIfInBounds_toArray, List.set_cons_zero, List.set_cons_succ, i64_w, i32_w]
      rfl
    refine pu_ 6 (some 6) (bt_ 7 127) (by kernel_rfl) ?_
    refine done_ (by kernel_rfl) ?_
    go_wp2_with (fail)
    go_ret
    exact ⟨_, rfl, RF.out, HB.out⟩
end Go.Proofs.Ytjldpnhlegbjkaa.PA
