import Derived.Test.YtdjiclhjficgfaaPXx0
import Derived.Test.YtdjiclhjficgfaaPXx2
import Derived.Test.YtdjiclhjficgfaaPXx3
import Derived.Test.YtdjiclhjficgfaaPXx6
import Derived.Test.YtdjiclhjficgfaaPXx7
import Derived.Test.YtdjiclhjficgfaaPXx12
namespace Go.Proofs.Ytdjiclhjficgfaa.PX
open Go.RowKit Go.Proofs.YtdjiclhjficgfaaW.PrintWords Go.Proofs.YtdjiclhjficgfaaW.PrintLast Go.Proofs.YtdjiclhjficgfaaW.PrintMore
attribute [local go_sem] max2_int min2_int max_two min_two max_three min_three max_four min_four
set_option linter.unusedVariables false
set_option linter.unusedSimpArgs false

/-- The cells of a deal under way: values, which have changed, what was got. -/
def dCells (a : List Int) (c : List Bool) (v : Value) : Array Value := (a.map (Value.int .i64) ++ (c.map Value.bool ++ [v])).toArray
theorem dCells_val {a : List Int} {c : List Bool} {v : Value} (k : Nat) (h : k < a.length) : (dCells a c v)[k]? = some (.int .i64 (a.getD k 0)) := by
 unfold dCells
 rw [List.getElem?_toArray, List.getElem?_append_left (by simpa using h)]
 simp [List.getElem?_eq_getElem h, List.getD_eq_getElem?_getD]
theorem dCells_chg {a : List Int} {c : List Bool} {v : Value} (ha : a.length = 32) (k : Nat) (h : k < c.length) : (dCells a c v)[32 + k]? = some (.bool (c.getD k false)) := by
 unfold dCells
 rw [List.getElem?_toArray, List.getElem?_append_right (by simp [ha])]
 simp only [List.length_map, ha, Nat.add_sub_cancel_left]
 rw [List.getElem?_append_left (by simpa using h)]
 simp [List.getElem?_eq_getElem h, List.getD_eq_getElem?_getD]
theorem dCells_got {a : List Int} {c : List Bool} {v : Value} (ha : a.length = 32) (hc : c.length = 32) : (dCells a c v)[64]? = some v := by
 unfold dCells
 rw [List.getElem?_toArray, List.getElem?_append_right (by simp [ha])]
 simp only [List.length_map, ha]
 rw [List.getElem?_append_right (by simp [hc])]
 simp [hc]
theorem dCells_setVal {a : List Int} {c : List Bool} {v : Value} (k : Nat) (x : Int) (h : k < a.length) : (dCells a c v).setIfInBounds k (.int .i64 x) = dCells (a.set k x) c v := by
 unfold dCells
 rw [List.setIfInBounds_toArray, List.set_append_left _ _ (by simpa using h), List.map_set]
theorem dCells_setChg {a : List Int} {c : List Bool} {v : Value} (ha : a.length = 32) (k : Nat) (x : Bool) (h : k < c.length) : (dCells a c v).setIfInBounds (32 + k) (.bool x) = dCells a (c.set k x) v := by
 unfold dCells
 rw [List.setIfInBounds_toArray, List.set_append_right _ _ (by simp [ha])]
 simp only [List.length_map, ha, Nat.add_sub_cancel_left]
 rw [List.set_append_left _ _ (by simpa using h), List.map_set]
theorem dCells_setGot {a : List Int} {c : List Bool} {v : Value} (ha : a.length = 32) (hc : c.length = 32) (u : Value) : (dCells a c v).setIfInBounds 64 u = dCells a c u := by
 unfold dCells
 rw [List.setIfInBounds_toArray, List.set_append_right _ _ (by simp [ha])]
 simp only [List.length_map, ha]
 rw [List.set_append_right _ _ (by simp [hc])]
 simp [hc]
set_option maxHeartbeats 8000000 in
set_option maxRecDepth 100000 in
theorem set_over (gd : Nat) (k n : Int) (w : World) (hv : ¬ (-9999 ≤ n ∧ n ≤ 9999)) :
 Calls Try.prog 82 #[.pointer (some ⟨gd, 0, none⟩), .int .i64 k, .int .i64 n] w fun e w' => e = .panicked [{ v := .iface 82 (.agg #[.int .i64 2]), recovered := false }] ∧ Drawn0 w w' := by
 have HV := Aside0.mk ((isValEq n).trans (congrArg some (decide_eq_false hv)))
 clear hv
 go_enter Try.func82, Try.ntmps82
 go_wp2_with (fail)
 refine (impl_isVal.calls _ false _ HV.out).mono ?_
 rintro e w2 ⟨rfl, ⟨nd2, rfl⟩⟩
 go_wp2_with (fail)
 exact ⟨rfl, rfl, ⟨_, rfl⟩⟩
set_option maxHeartbeats 8000000 in
set_option maxRecDepth 100000 in
theorem set_done (gd : Nat) (a : List Int) (c : List Bool) (v : Value) (k n : Int) (B : Nat) (w0 w : World) (ha : a.length = 32) (hc : c.length = 32) (hk : 0 ≤ k ∧ k ≤ 31) (hv : -9999 ≤ n ∧ n ≤ 9999) (hb : w.heap[gd]? = some (.cells (dCells a c v) 87 (0, 0))) (HB : Below B w0 w) (hg : B ≤ gd) :
 Calls Try.prog 82 #[.pointer (some ⟨gd, 0, none⟩), .int .i64 k, .int .i64 n] w fun e w' => e = .returned (.tuple #[]) ∧ w'.heap[gd]? = some (.cells (dCells (a.set k.toNat n) (c.set k.toNat true) v) 87 (0, 0)) ∧ KeepBut w w' gd none ∧ Below B w0 w' := by
 have HV := Aside0.mk ((isValEq n).trans (congrArg some (decide_eq_true hv)))
 have HA := Aside0.mk ha
 have HC := Aside0.mk hc
 have HK := Aside0.mk hk
 have BK := Aside0.mk hb
 have HBB := Aside0.mk HB
 have HG := Aside0.mk hg
 have p : (0 ≤ k) = True := eq_true hk.1
 have q : (k < 32) = True := eq_true (by omega)
 have hx : w.cell? ⟨gd, k.toNat, none⟩ = some (.int .i64 (a.getD k.toNat 0)) := (blk_cell hb k.toNat).trans (dCells_val _ (by omega))
 have hz := blk_frozen hb k.toNat
 clear hv ha hc hk hb HB hg
 go_enter Try.func82, Try.ntmps82
 go_wp2_with (fail)
 refine (impl_isVal.calls _ true _ HV.out).mono ?_
 rintro e w2 ⟨rfl, ⟨nd2, rfl⟩⟩
 go_upto_region 3 with (fail)
 clear hx hz
 have B1 : ((w.drewN nd2).setCell ⟨gd, k.toNat, none⟩ (.int .i64 n)).heap[gd]? = some (.cells (dCells (a.set k.toNat n) c v) 87 (0, 0)) := blk_put (w := w.drewN nd2) BK.out k.toNat _ (dCells_setVal _ _ (by have := HA.out; have := HK.out; omega))
 have K1 : KeepBut w ((w.drewN nd2).setCell ⟨gd, k.toNat, none⟩ (.int .i64 n)) gd none := KeepBut.set_ (keep_drewN (KeepBut.refl w gd none) nd2) _ _
 have L1 : Below B w0 ((w.drewN nd2).setCell ⟨gd, k.toNat, none⟩ (.int .i64 n)) := (pw_below_drewN HBB.out nd2).setCell HG.out _
 generalize ((w.drewN nd2).setCell ⟨gd, k.toNat, none⟩ (.int .i64 n)) = W1 at B1 K1 L1 ⊢
 have hx : W1.cell? ⟨gd, 32 + k.toNat, none⟩ = some (.bool (c.getD k.toNat false)) := (blk_cell B1 _).trans (dCells_chg (by simpa using HA.out) _ (by have := HC.out; have := HK.out; omega))
 have hz := blk_frozen B1 (32 + k.toNat)
 have B1 := Aside0.mk B1
 have K1 := Aside0.mk K1
 have L1 := Aside0.mk L1
 go_wp2_with (fail)
 go_end0
 exact ⟨rfl, blk_put B1.out _ _ (dCells_setChg (by simpa using HA.out) _ _ (by have := HC.out; have := HK.out; omega)), K1.out.set_ _ _, L1.out.setCell HG.out _⟩
theorem falls_ {P : Program} {ops : Array Oper} {Q : Exit → Act → World → Prop} {oi : Oper} {N : Option Tmp} {a : Act} {w : World} {K : Act → World → Prop} {f : FuncId} {fn : Func} {xs : Array Operand} {ts : Array TypeId} (hf : P.funcs[f]? = some fn) (hname : (fn.name == "runtime.NumGoroutine") = false) (hb : fn.body.isSome = true) (args : Array Value)
 (hw : Region.wanted oi (yielded ops a.tmps) = true) (hN : oi.dst = N) (hop : oi.op = .call { callee := .value (.func f), args := xs, argTypes := ts }) (hargs : xs.map a.eval = args)
 (h : Calls P f args w fun e w' => ∃ c, e = .panicked c ∧ Q (.panic c) a w') : if Region.wanted oi (yielded ops a.tmps) = true then Oper.wp P oi a w K Q else K (a.put N undef) w := by
 rw [if_pos hw]
 have he := enters_ hf hname hb args w
 have hrun : (execOp a.eval oi).run P w = .ok (.enter f args) w := by
  unfold execOp
  simp [hop, resolve, Deferred.ofValue, invoke, Act.eval, hargs, he]
 unfold Oper.wp
 rw [hrun, Oper.upon_enter]
 exact h.mono (fun e w' ⟨c, hc, hq⟩ => by subst hc; exact hq)
theorem as_get_get (v : Value) (w : World) : (Instr.typeAssert (.iface 114 v) 89 114 true).run Try.prog w = .ok (.tuple #[v, .bool true]) w := by kernel_rfl
theorem as_put_get (v : Value) (w : World) : (Instr.typeAssert (.iface 116 v) 89 114 true).run Try.prog w = .ok (.tuple #[.agg #[.int .i64 0], .bool false]) w := by kernel_rfl
theorem as_put_put (v : Value) (w : World) : (Instr.typeAssert (.iface 116 v) 89 116 true).run Try.prog w = .ok (.tuple #[v, .bool true]) w := by kernel_rfl
theorem as_add_get (v : Value) (w : World) : (Instr.typeAssert (.iface 118 v) 89 114 true).run Try.prog w = .ok (.tuple #[.agg #[.int .i64 0], .bool false]) w := by kernel_rfl
theorem as_add_put (v : Value) (w : World) : (Instr.typeAssert (.iface 118 v) 89 116 true).run Try.prog w = .ok (.tuple #[.agg #[.int .i64 0, .int .i64 0], .bool false]) w := by kernel_rfl
theorem as_add_add (v : Value) (w : World) : (Instr.typeAssert (.iface 118 v) 89 118 true).run Try.prog w = .ok (.tuple #[v, .bool true]) w := by kernel_rfl
theorem as_need_get (v : Value) (w : World) : (Instr.typeAssert (.iface 119 v) 89 114 true).run Try.prog w = .ok (.tuple #[.agg #[.int .i64 0], .bool false]) w := by kernel_rfl
theorem as_need_put (v : Value) (w : World) : (Instr.typeAssert (.iface 119 v) 89 116 true).run Try.prog w = .ok (.tuple #[.agg #[.int .i64 0, .int .i64 0], .bool false]) w := by kernel_rfl
theorem as_need_add (v : Value) (w : World) : (Instr.typeAssert (.iface 119 v) 89 118 true).run Try.prog w = .ok (.tuple #[.agg #[.int .i64 0, .int .i64 0], .bool false]) w := by kernel_rfl
theorem as_need_need (v : Value) (w : World) : (Instr.typeAssert (.iface 119 v) 89 119 true).run Try.prog w = .ok (.tuple #[v, .bool true]) w := by kernel_rfl
attribute [local go_sem] as_get_get as_put_get as_put_put as_add_get as_add_put as_add_add as_need_get as_need_put as_need_add as_need_need
set_option maxHeartbeats 8000000 in
set_option maxRecDepth 100000 in
theorem do_get (gd : Nat) (a : List Int) (c : List Bool) (v : Value) (got : List Int) (k : Int) (B : Nat) (w0 w : World) (ha : a.length = 32) (hc : c.length = 32) (hk : 0 ≤ k ∧ k ≤ 31) (hb : w.heap[gd]? = some (.cells (dCells a c v) 87 (0, 0)))
 (hR : Kd.R (Kd.int .i64) 3 w B (fun _ => True) v got) (HB : Below B w0 w) (hg : B ≤ gd) (hl : got.length ≤ 1000) :
 Calls Try.prog 55 #[.pointer (some ⟨gd, 0, none⟩), .iface 114 (.agg #[.int .i64 k])] w fun e w' => e = .returned (.tuple #[]) ∧ ∃ v1, w'.heap[gd]? = some (.cells (dCells a c v1) 87 (0, 0)) ∧ Kd.R (Kd.int .i64) 3 w' B (fun _ => True) v1 (got ++ [a.getD k.toNat 0]) ∧ KeepBut w w' gd v.ownBlock ∧ Below B w0 w' := by
 have HA := Aside0.mk ha
 have HC := Aside0.mk hc
 have HK := Aside0.mk hk
 have BK := Aside0.mk hb
 have HR := Aside0.mk hR
 have HBB := Aside0.mk HB
 have HG := Aside0.mk hg
 have HL := Aside0.mk hl
 have p : (0 ≤ k) = True := eq_true hk.1
 have q : (k < 32) = True := eq_true (by omega)
 have hu := Try.underlying114
 clear ha hc hk hb hR HB hg hl
 go_enter Try.func55, Try.ntmps55
 go_wp2_with (fail)
 have BX := Aside0.mk (blk_new w (.cells #[.int .i64 k] 114))
 have BD := Aside0.mk (blk_alloc BK.out (.cells #[.int .i64 k] 114))
 have RD := Aside0.mk (Kd.R_alloc HR.out (.cells #[.int .i64 k] 114))
 have HB1 := Aside0.mk (HBB.out.alloc (Nat.le_trans HG.out (Nat.le_of_lt (blk_lt BK.out))) (.cells #[.int .i64 k] 114))
 have K1 := Aside0.mk (KeepBut.of_below (row := v.ownBlock) (below_alloc (Below.refl _ w) (.cells #[.int .i64 k] 114)) gd)
 have SZ := Aside0.mk (show w.heap.size < (w.alloc (.cells #[.int .i64 k] 114)).heap.size by simp)
 have GL := Aside0.mk (blk_lt BK.out)
 generalize (w.alloc (Obj.cells #[Value.int IntKind.i64 k] 114)) = W1 at BX BD RD HB1 K1 SZ ⊢
 generalize w.heap.size = n1 at BX SZ GL ⊢
 have x64 : W1.cell? ⟨gd, 64, none⟩ = some v := (blk_cell BD.out 64).trans (dCells_got HA.out HC.out)
 have xk : W1.cell? ⟨gd, k.toNat, none⟩ = some (.int .i64 (a.getD k.toNat 0)) := (blk_cell BD.out k.toNat).trans (dCells_val _ (by have := HA.out; have := HK.out; omega))
 have xn : W1.cell? ⟨n1, 0, none⟩ = some (.int .i64 k) := (blk_cell BX.out 0).trans rfl
 have x64' : ∀ o, (W1.alloc o).cell? ⟨gd, 64, none⟩ = some v := fun o => (World.cell?_alloc_lt _ _ _ (Nat.lt_trans GL.out SZ.out)).trans ((blk_cell BD.out 64).trans (dCells_got HA.out HC.out))
 generalize hY : a.getD k.toNat 0 = y at xk
 have HY := Aside0.mk hY
 clear hY
 go_region_law ((refine Kd.R_append_step (Kd.int .i64) (w0 := w0) (W := W1.drew) B ?aW (.tmp 16) (.tmp 24) 31 3 (.int .i64 0) 8 rfl Try.underlying31 info3 rfl (by decide) (by omega) v got y [.int .i64 y] (fun _ => True) (fun _ => False) rfl rfl rfl (fun _ h => h.elim) ?aF ?aO ?aB ?aS ?aL ?_); (case aW => simp [Region.wanted]); (case aF => exact fun _ _ => trivial); (case aO => exact Kd.R_drew RD.out); (case aB => exact below_drew HB1.out); (case aS => exact Nat.le_trans HG.out (Nat.le_of_lt (Nat.lt_trans GL.out SZ.out))); (case aL => have := HL.out; omega); (intro v1 w7 ho hb7 hg hat); (obtain ⟨A7, c7, e7⟩ := Kd.R_slice ho); (subst e7); (have HO7 := Aside0.mk ho); (have HB7 := Aside0.mk hb7); (have GG := Aside0.mk hg); (have B7 := Aside0.mk (blk_grown (blk_drew BD.out) hg (Kd.R_ne RD.out BD.out (by decide)))); (clear ho hb7 hg hat); (have y64 := (blk_cell B7.out 64).trans (dCells_got HA.out HC.out)); (have z64 := blk_frozen B7.out 64))
 all_goals
  have HO8 := (show Kd.R (Kd.int .i64) 3 w7 B (fun _ => True) (.slice A7 (got.length + 1) c7) (got ++ [y]) by simpa using HO7.out)
  go_end0
  exact ⟨rfl, .slice A7 (got.length + 1) c7, blk_put B7.out 64 _ (dCells_setGot HA.out HC.out _), (by rw [HY.out]; exact Kd.R_set HO8 B7.out (by decide) 64 _), KeepBut.set_ (KeepBut.trans (show KeepBut w W1.drew gd v.ownBlock from K1.out) (KeepBut.of_grown GG.out gd) (.inl rfl)) _ _, HB7.out.setCell HG.out _⟩
set_option maxHeartbeats 8000000 in
set_option maxRecDepth 100000 in
theorem do_put (gd : Nat) (a : List Int) (c : List Bool) (v : Value) (got : List Int) (k n : Int) (B : Nat) (w0 w : World) (ha : a.length = 32) (hc : c.length = 32) (hk : 0 ≤ k ∧ k ≤ 31) (hv : -9999 ≤ n ∧ n ≤ 9999) (hb : w.heap[gd]? = some (.cells (dCells a c v) 87 (0, 0)))
 (HB : Below B w0 w) (hg : B ≤ gd) :
 Calls Try.prog 55 #[.pointer (some ⟨gd, 0, none⟩), .iface 116 (.agg #[.int .i64 k, .int .i64 n])] w fun e w' => e = .returned (.tuple #[]) ∧ w'.heap[gd]? = some (.cells (dCells (a.set k.toNat n) (c.set k.toNat true) v) 87 (0, 0)) ∧ KeepBut w w' gd none ∧ Below B w0 w' := by
 have HA := Aside0.mk ha
 have HC := Aside0.mk hc
 have HK := Aside0.mk hk
 have HV := Aside0.mk hv
 have BK := Aside0.mk hb
 have HBB := Aside0.mk HB
 have HG := Aside0.mk hg
 have hu := Try.underlying116
 clear ha hc hk hb HB hg hv
 go_enter Try.func55, Try.ntmps55
 go_wp2_with (fail)
 refine (set_done gd a c v k n B w0 _ HA.out HC.out HK.out HV.out (blk_alloc BK.out _) (HBB.out.alloc (Nat.le_trans HG.out (Nat.le_of_lt (blk_lt BK.out))) _) HG.out).mono ?_
 rintro e w2 ⟨rfl, hb, hk, hbl⟩
 go_wp2_with (fail)
 go_end0
 exact ⟨rfl, hb, KeepBut.trans (keep_alloc (KeepBut.refl w gd none) _) hk (.inl rfl), hbl⟩
set_option maxHeartbeats 8000000 in
set_option maxRecDepth 100000 in
theorem do_add (gd : Nat) (a : List Int) (c : List Bool) (v : Value) (got : List Int) (k n : Int) (B : Nat) (w0 w : World) (ha : a.length = 32) (hc : c.length = 32) (hk : 0 ≤ k ∧ k ≤ 31) (hv : -9999 ≤ wrap64 (a.getD k.toNat 0 + n) ∧ wrap64 (a.getD k.toNat 0 + n) ≤ 9999) (hb : w.heap[gd]? = some (.cells (dCells a c v) 87 (0, 0)))
 (HB : Below B w0 w) (hg : B ≤ gd) :
 Calls Try.prog 55 #[.pointer (some ⟨gd, 0, none⟩), .iface 118 (.agg #[.int .i64 k, .int .i64 n])] w fun e w' => e = .returned (.tuple #[]) ∧ w'.heap[gd]? = some (.cells (dCells (a.set k.toNat (wrap64 (a.getD k.toNat 0 + n))) (c.set k.toNat true) v) 87 (0, 0)) ∧ KeepBut w w' gd none ∧ Below B w0 w' := by
 have HA := Aside0.mk ha
 have HC := Aside0.mk hc
 have HK := Aside0.mk hk
 have BK := Aside0.mk hb
 have HBB := Aside0.mk HB
 have HG := Aside0.mk hg
 have HV := Aside0.mk hv
 have hu := Try.underlying118
 have p : (0 ≤ k) = True := eq_true hk.1
 have q : (k < 32) = True := eq_true (by omega)
 clear ha hc hk hb HB hg hv
 go_enter Try.func55, Try.ntmps55
 go_wp2_with (fail)
 have BX := Aside0.mk (blk_new w (.cells #[.int .i64 k, .int .i64 n] 118))
 have BD := Aside0.mk (blk_alloc BK.out (.cells #[.int .i64 k, .int .i64 n] 118))
 have HB1 := Aside0.mk (HBB.out.alloc (Nat.le_trans HG.out (Nat.le_of_lt (blk_lt BK.out))) (.cells #[.int .i64 k, .int .i64 n] 118))
 have K1 := Aside0.mk (keep_alloc (KeepBut.refl w gd none) (.cells #[.int .i64 k, .int .i64 n] 118))
 generalize (w.alloc (Obj.cells #[Value.int IntKind.i64 k, .int .i64 n] 118)) = W1 at BX BD HB1 K1 ⊢
 generalize w.heap.size = n1 at BX ⊢
 have xk : W1.cell? ⟨gd, k.toNat, none⟩ = some (.int .i64 (a.getD k.toNat 0)) := (blk_cell BD.out k.toNat).trans (dCells_val _ (by have := HA.out; have := HK.out; omega))
 have xn : W1.cell? ⟨n1, 0, none⟩ = some (.int .i64 k) := (blk_cell BX.out 0).trans rfl
 have xm : W1.cell? ⟨n1, 1, none⟩ = some (.int .i64 n) := (blk_cell BX.out 1).trans rfl
 generalize hY : a.getD k.toNat 0 = y at xk HV
 have HY := Aside0.mk hY
 clear hY
 refine start_ (n := 14) (S := fun w' => w'.cell? ⟨n1, 0, none⟩ = some (.int .i64 k) ∧ w'.cell? ⟨n1, 1, none⟩ = some (.int .i64 n) ∧ w'.cell? ⟨gd, k.toNat, none⟩ = some (.int .i64 y)) (ds := [13]) (bt_ 14 0) (by kernel_rfl) rfl rfl ⟨xn, xm, xk⟩ (fun hHeld => ?_)
 refine pu_ 0 (some 40) (bt_ 14 1) (by kernel_rfl) ?_
 refine pu_ 1 (some 41) (bt_ 14 3) (by kernel_rfl) ?_
 refine pu_ 3 (some 43) (bt_ 14 11) (by kernel_rfl) ?_
 refine pu_ 4 (some 44) (bt_ 14 27) (by kernel_rfl) ?_
 refine pu_ 6 (some 46) (bt_ 14 91) (by kernel_rfl) ?_
 refine pu_ 7 (some 47) (bt_ 14 219) (by kernel_rfl) ?_
 refine pu_ 10 (some 50) (bt_ 14 1243) (by kernel_rfl) ?_
 refine take_ (i := 2) (N := some 42) (v := ?_) (a' := ?_) (bt_ 14 1247) rfl rfl (by kernel_rfl) (fun _ _ _ h => h) (Or.inl ⟨by rfl, ?_⟩) hHeld ?_ ?_
 rotate_left
 ·rintro w' ⟨s0, s1, s2⟩
  go_simp
  with_reducible rfl
 rotate_left
 ·simp only [Act.put, List.setIfInBounds_toArray, List.set_cons_zero, List.set_cons_succ, i64_w, i32_w]
  rfl
 refine take_ (i := 5) (N := some 45) (v := ?_) (a' := ?_) (bt_ 14 1279) rfl rfl (by kernel_rfl) (fun _ _ _ h => h) (Or.inl ⟨by rfl, ?_⟩) hHeld ?_ ?_
 rotate_left
 ·rintro w' ⟨s0, s1, s2⟩
  go_simp
  with_reducible rfl
 rotate_left
 ·simp only [Act.put, List.setIfInBounds_toArray, List.set_cons_zero, List.set_cons_succ, i64_w, i32_w]
  rfl
 refine pu_ 8 (some 48) (bt_ 14 1535) (by kernel_rfl) ?_
 refine take_ (i := 9) (N := some 49) (v := ?_) (a' := ?_) (bt_ 14 2047) rfl rfl (by kernel_rfl) (fun _ _ _ h => h) (Or.inl ⟨by rfl, ?_⟩) hHeld ?_ ?_
 rotate_left
 ·rintro w' ⟨s0, s1, s2⟩
  go_simp
  with_reducible rfl
 rotate_left
 ·simp only [Act.put, List.setIfInBounds_toArray, List.set_cons_zero, List.set_cons_succ, i64_w, i32_w]
  rfl
 refine take_ (i := 11) (N := some 51) (v := ?_) (a' := ?_) (bt_ 14 4095) rfl rfl (by kernel_rfl) (fun _ _ _ h => h) (Or.inl ⟨by rfl, ?_⟩) hHeld ?_ ?_
 rotate_left
 ·rintro w' ⟨s0, s1, s2⟩
  go_simp
  with_reducible rfl
 rotate_left
 ·simp only [Act.put, List.setIfInBounds_toArray, List.set_cons_zero, List.set_cons_succ, i64_w, i32_w]
  rfl
 refine pu_ 12 (some 52) (bt_ 14 8191) (by kernel_rfl) ?_
 refine last_ (i := 13) (N := some 53) (bt_ 14 16383) rfl rfl (by kernel_rfl) (by decide) (fun K hK => ?_)
 refine goes_ Try.func82 (by kernel_rfl) rfl #[.pointer (some ⟨gd, 0, none⟩), .int .i64 k, .int .i64 (wrap64 (y + n))] (by rfl) rfl rfl (by simp only [List.map_toArray, List.map_cons, List.map_nil]; rfl) ?_
 with_reducible refine (set_done gd a c v k _ B w0 _ HA.out HC.out HK.out HV.out (blk_drew BD.out) (below_drew HB1.out) HG.out).mono ?_
 rintro e w2 ⟨rfl, hb, hk, hbl⟩
 refine ⟨_, rfl, ?_⟩
 refine hK.out _ _ ?_
 clear hK K
 refine norm_ (a' := ?_) ?_ ?_
 rotate_left
 ·show Act.put _ (some 53) _ = _
  simp only [Act.put, List.setIfInBounds_toArray, List.set_cons_zero, List.set_cons_succ, i64_w, i32_w]
  rfl
 refine done_ (by kernel_rfl) ?_

 go_end0
 rw [HY.out]
 exact ⟨rfl, hb, KeepBut.trans (show KeepBut w W1.drew gd none from K1.out) hk (.inl rfl), hbl⟩
set_option maxHeartbeats 8000000 in
set_option maxRecDepth 100000 in
theorem do_over (gd : Nat) (a : List Int) (c : List Bool) (v : Value) (got : List Int) (k n : Int) (B : Nat) (w0 w : World) (ha : a.length = 32) (hc : c.length = 32) (hk : 0 ≤ k ∧ k ≤ 31) (hv : ¬ (-9999 ≤ wrap64 (a.getD k.toNat 0 + n) ∧ wrap64 (a.getD k.toNat 0 + n) ≤ 9999)) (hb : w.heap[gd]? = some (.cells (dCells a c v) 87 (0, 0)))
 (HB : Below B w0 w) (hg : B ≤ gd) :
 Calls Try.prog 55 #[.pointer (some ⟨gd, 0, none⟩), .iface 118 (.agg #[.int .i64 k, .int .i64 n])] w fun e w' => e = .panicked [{ v := .iface 82 (.agg #[.int .i64 2]), recovered := false }] ∧ Below w.heap.size w w' := by
 have HA := Aside0.mk ha
 have HC := Aside0.mk hc
 have HK := Aside0.mk hk
 have BK := Aside0.mk hb
 have HBB := Aside0.mk HB
 have HG := Aside0.mk hg
 have HV := Aside0.mk hv
 have hu := Try.underlying118
 have p : (0 ≤ k) = True := eq_true hk.1
 have q : (k < 32) = True := eq_true (by omega)
 clear ha hc hk hb HB hg hv
 go_enter Try.func55, Try.ntmps55
 go_wp2_with (fail)
 have BX := Aside0.mk (blk_new w (.cells #[.int .i64 k, .int .i64 n] 118))
 have BD := Aside0.mk (blk_alloc BK.out (.cells #[.int .i64 k, .int .i64 n] 118))
 have HB1 := Aside0.mk (HBB.out.alloc (Nat.le_trans HG.out (Nat.le_of_lt (blk_lt BK.out))) (.cells #[.int .i64 k, .int .i64 n] 118))
 have K1 := Aside0.mk (below_alloc (Below.refl _ w) (.cells #[.int .i64 k, .int .i64 n] 118))
 generalize (w.alloc (Obj.cells #[Value.int IntKind.i64 k, .int .i64 n] 118)) = W1 at BX BD HB1 K1 ⊢
 generalize w.heap.size = n1 at BX ⊢
 have xk : W1.cell? ⟨gd, k.toNat, none⟩ = some (.int .i64 (a.getD k.toNat 0)) := (blk_cell BD.out k.toNat).trans (dCells_val _ (by have := HA.out; have := HK.out; omega))
 have xn : W1.cell? ⟨n1, 0, none⟩ = some (.int .i64 k) := (blk_cell BX.out 0).trans rfl
 have xm : W1.cell? ⟨n1, 1, none⟩ = some (.int .i64 n) := (blk_cell BX.out 1).trans rfl
 generalize hY : a.getD k.toNat 0 = y at xk HV
 have HY := Aside0.mk hY
 clear hY
 refine start_ (n := 14) (S := fun w' => w'.cell? ⟨n1, 0, none⟩ = some (.int .i64 k) ∧ w'.cell? ⟨n1, 1, none⟩ = some (.int .i64 n) ∧ w'.cell? ⟨gd, k.toNat, none⟩ = some (.int .i64 y)) (ds := [13]) (bt_ 14 0) (by kernel_rfl) rfl rfl ⟨xn, xm, xk⟩ (fun hHeld => ?_)
 refine pu_ 0 (some 40) (bt_ 14 1) (by kernel_rfl) ?_
 refine pu_ 1 (some 41) (bt_ 14 3) (by kernel_rfl) ?_
 refine pu_ 3 (some 43) (bt_ 14 11) (by kernel_rfl) ?_
 refine pu_ 4 (some 44) (bt_ 14 27) (by kernel_rfl) ?_
 refine pu_ 6 (some 46) (bt_ 14 91) (by kernel_rfl) ?_
 refine pu_ 7 (some 47) (bt_ 14 219) (by kernel_rfl) ?_
 refine pu_ 10 (some 50) (bt_ 14 1243) (by kernel_rfl) ?_
 refine take_ (i := 2) (N := some 42) (v := ?_) (a' := ?_) (bt_ 14 1247) rfl rfl (by kernel_rfl) (fun _ _ _ h => h) (Or.inl ⟨by rfl, ?_⟩) hHeld ?_ ?_
 rotate_left
 ·rintro w' ⟨s0, s1, s2⟩
  go_simp
  with_reducible rfl
 rotate_left
 ·simp only [Act.put, List.setIfInBounds_toArray, List.set_cons_zero, List.set_cons_succ, i64_w, i32_w]
  rfl
 refine take_ (i := 5) (N := some 45) (v := ?_) (a' := ?_) (bt_ 14 1279) rfl rfl (by kernel_rfl) (fun _ _ _ h => h) (Or.inl ⟨by rfl, ?_⟩) hHeld ?_ ?_
 rotate_left
 ·rintro w' ⟨s0, s1, s2⟩
  go_simp
  with_reducible rfl
 rotate_left
 ·simp only [Act.put, List.setIfInBounds_toArray, List.set_cons_zero, List.set_cons_succ, i64_w, i32_w]
  rfl
 refine pu_ 8 (some 48) (bt_ 14 1535) (by kernel_rfl) ?_
 refine take_ (i := 9) (N := some 49) (v := ?_) (a' := ?_) (bt_ 14 2047) rfl rfl (by kernel_rfl) (fun _ _ _ h => h) (Or.inl ⟨by rfl, ?_⟩) hHeld ?_ ?_
 rotate_left
 ·rintro w' ⟨s0, s1, s2⟩
  go_simp
  with_reducible rfl
 rotate_left
 ·simp only [Act.put, List.setIfInBounds_toArray, List.set_cons_zero, List.set_cons_succ, i64_w, i32_w]
  rfl
 refine take_ (i := 11) (N := some 51) (v := ?_) (a' := ?_) (bt_ 14 4095) rfl rfl (by kernel_rfl) (fun _ _ _ h => h) (Or.inl ⟨by rfl, ?_⟩) hHeld ?_ ?_
 rotate_left
 ·rintro w' ⟨s0, s1, s2⟩
  go_simp
  with_reducible rfl
 rotate_left
 ·simp only [Act.put, List.setIfInBounds_toArray, List.set_cons_zero, List.set_cons_succ, i64_w, i32_w]
  rfl
 refine pu_ 12 (some 52) (bt_ 14 8191) (by kernel_rfl) ?_
 refine last_ (i := 13) (N := some 53) (bt_ 14 16383) rfl rfl (by kernel_rfl) (by decide) (fun K hK => ?_)
 refine falls_ Try.func82 (by kernel_rfl) rfl #[.pointer (some ⟨gd, 0, none⟩), .int .i64 k, .int .i64 (wrap64 (y + n))] (by rfl) rfl rfl (by simp only [List.map_toArray, List.map_cons, List.map_nil]; rfl) ?_
 with_reducible refine (set_over gd k _ _ HV.out).mono ?_
 rintro e w2 ⟨rfl, ⟨nd, rfl⟩⟩
 refine ⟨_, rfl, ?_⟩
 exact ⟨rfl, rfl, pw_below_drewN (below_drew K1.out) _⟩
set_option maxHeartbeats 8000000 in
set_option maxRecDepth 100000 in
theorem do_need (gd : Nat) (a : List Int) (c : List Bool) (v : Value) (k n : Int) (B : Nat) (w0 w : World) (ha : a.length = 32) (hk : 0 ≤ k ∧ k ≤ 31) (hv : ¬ a.getD k.toNat 0 < n) (hb : w.heap[gd]? = some (.cells (dCells a c v) 87 (0, 0)))
 (HB : Below B w0 w) (hg : B ≤ gd) :
 Calls Try.prog 55 #[.pointer (some ⟨gd, 0, none⟩), .iface 119 (.agg #[.int .i64 k, .int .i64 n])] w fun e w' => e = .returned (.tuple #[]) ∧ w'.heap[gd]? = some (.cells (dCells a c v) 87 (0, 0)) ∧ KeepBut w w' gd none ∧ Below B w0 w' := by
 have HA := Aside0.mk ha
 have HK := Aside0.mk hk
 have BK := Aside0.mk hb
 have HBB := Aside0.mk HB
 have HG := Aside0.mk hg
 have hu := Try.underlying119
 have p : (0 ≤ k) = True := eq_true hk.1
 have q : (k < 32) = True := eq_true (by omega)
 have xk : (w.alloc (Obj.cells #[Value.int IntKind.i64 k, .int .i64 n] 119)).cell? ⟨gd, k.toNat, none⟩ = some (.int .i64 (a.getD k.toNat 0)) := (World.cell?_alloc_lt _ _ _ (blk_lt hb)).trans ((blk_cell hb k.toNat).trans (dCells_val _ (by omega)))
 have hv1 : decide (a.getD k.toNat 0 < n) = false := decide_eq_false hv
 have hv2 : decide (n ≤ a.getD k.toNat 0) = true := decide_eq_true (by omega)
 clear ha hk hb HB hg hv
 generalize a.getD k.toNat 0 = y at xk hv1 hv2
 go_enter Try.func55, Try.ntmps55
 go_wp2_with (fail)
 go_quiet (fail)
 go_wp2_with (fail)
 go_end0
 exact ⟨rfl, blk_drewN (blk_alloc BK.out _) _, keep_drewN (keep_alloc (KeepBut.refl w gd none) _) _, pw_below_drewN (HBB.out.alloc (Nat.le_trans HG.out (Nat.le_of_lt (blk_lt BK.out))) _) _⟩
set_option maxHeartbeats 8000000 in
set_option maxRecDepth 100000 in
theorem do_refused (gd : Nat) (a : List Int) (c : List Bool) (v : Value) (k n : Int) (w : World) (ha : a.length = 32) (hk : 0 ≤ k ∧ k ≤ 31) (hv : a.getD k.toNat 0 < n) (hb : w.heap[gd]? = some (.cells (dCells a c v) 87 (0, 0))) :
 Calls Try.prog 55 #[.pointer (some ⟨gd, 0, none⟩), .iface 119 (.agg #[.int .i64 k, .int .i64 n])] w fun e w' => e = .panicked [{ v := .iface 82 (.agg #[.int .i64 1]), recovered := false }] ∧ Below w.heap.size w w' := by
 have HA := Aside0.mk ha
 have HK := Aside0.mk hk
 have BK := Aside0.mk hb
 have hu := Try.underlying119
 have p : (0 ≤ k) = True := eq_true hk.1
 have q : (k < 32) = True := eq_true (by omega)
 have xk : (w.alloc (Obj.cells #[Value.int IntKind.i64 k, .int .i64 n] 119)).cell? ⟨gd, k.toNat, none⟩ = some (.int .i64 (a.getD k.toNat 0)) := (World.cell?_alloc_lt _ _ _ (blk_lt hb)).trans ((blk_cell hb k.toNat).trans (dCells_val _ (by omega)))
 have hv1 : decide (a.getD k.toNat 0 < n) = true := decide_eq_true hv
 clear ha hk hb hv
 generalize a.getD k.toNat 0 = y at xk hv1
 go_enter Try.func55, Try.ntmps55
 go_wp2_with (fail)
 go_quiet (fail)
 go_wp2_with (fail)
 exact ⟨rfl, rfl, pw_below_drewN (below_alloc (Below.refl _ _) _) _⟩
theorem wp_norm {P : Program} {c : Code} {Q : Exit → Act → World → Prop} {a a' : Act} {w : World} (h : c.wp P Q a' w) (e : a = a') : c.wp P Q a w := e ▸ h
theorem as_refusal (v : Value) (xT : TypeId) (w : World) : (Instr.typeAssert (.iface 82 v) xT 82 true).run Try.prog w = .ok (.tuple #[v, .bool true]) w := by kernel_rfl
attribute [local go_sem] as_refusal
set_option maxHeartbeats 1000000 in
set_option maxRecDepth 100000 in
theorem run1_idle (p q r : Addr) (w : World) :
 CallsD Try.prog 54 #[.pointer (some p), .pointer (some q), .pointer (some r)] .returning w fun e u' w' => e = .returned (.tuple #[]) ∧ u' = .returning ∧ w = w' := by
 refine callsD_of_wpS Try.func54 rfl fun c₀ cs hu => ?_
 apply wpS_seq
 apply wpS_region
 simp [wpOpsS, go_sem, recoverD, hu, Try.ntmps54, Exit.thenS]
 apply wpS_seq
 apply wpS_region
 simp [wpOpsS, go_sem, recoverD, hu, Try.ntmps54, Exit.thenS]
 refine wpS_cond (t := false) (by simp [Act.eval, Array.replicate]) ?_
 simp only [Bool.false_eq_true, if_false]
 refine wpS_of_wp (wp_skip ?_)
 cases c₀
 simp_all [bodyPostS, results, Try.results54]
set_option maxHeartbeats 1000000 in
set_option maxRecDepth 100000 in
theorem run1_caught (g0 g1 g2 : Nat) (x code : Int) (v1 v2 : Value) (older : List PanicEntry) (w : World)
 (h0 : w.heap[g0]? = some (.cells #[.int .i64 x] 3 (0, 0))) (h1 : w.heap[g1]? = some (.cells #[v1] 31 (0, 0))) (h2 : w.heap[g2]? = some (.cells #[v2] 32 (0, 0))) :
 CallsD Try.prog 54 #[.pointer (some ⟨g0, 0, none⟩), .pointer (some ⟨g1, 0, none⟩), .pointer (some ⟨g2, 0, none⟩)] (.panicking ({ v := .iface 82 (.agg #[.int .i64 code]), recovered := false } :: older)) w fun e u' w' =>
  e = .returned (.tuple #[]) ∧ u' = .panicking ({ v := .iface 82 (.agg #[.int .i64 code]), recovered := true } :: older) ∧ w'.heap[g0]? = some (.cells #[.int .i64 code] 3 (0, 0)) ∧ w'.heap[g1]? = some (.cells #[.slice none 0 0] 31 (0, 0)) ∧ w'.heap[g2]? = some (.cells #[.slice none 0 0] 32 (0, 0)) ∧ ∀ B w0, Below B w0 w → B ≤ g0 → B ≤ g1 → B ≤ g2 → Below B w0 w' := by
 have n01 : g0 ≠ g1 := blk_ne h0 h1 (by decide)
 have n02 : g0 ≠ g2 := blk_ne h0 h2 (by decide)
 have n12 : g1 ≠ g2 := blk_ne h1 h2 (by decide)
 have hu := Try.underlying82
 have B0 := Aside0.mk h0
 have B1 := Aside0.mk h1
 have B2 := Aside0.mk h2
 clear h0 h1 h2
 refine callsD_of_wpS Try.func54 rfl fun c₀ cs hu => ?_
 apply wpS_seq
 apply wpS_region
 simp [wpOpsS, go_sem, recoverD, hu, Try.ntmps54, Exit.thenS]
 apply wpS_seq
 apply wpS_region
 simp [wpOpsS, go_sem, recoverD, hu, Try.ntmps54, Exit.thenS]
 refine wpS_cond (t := true) (by simp [Act.eval, Array.replicate]) ?_
 simp only [if_true]
 apply wpS_of_wp
 refine wp_norm (a' := { tmps := #[.pointer (some ⟨g0, 0, none⟩), .pointer (some ⟨g1, 0, none⟩), .pointer (some ⟨g2, 0, none⟩), .iface 82 (.agg #[.int .i64 code]), undef, undef, .iface 82 (.agg #[.int .i64 code]), .iface 82 (.agg #[.int .i64 code]), .bool true, undef, undef, undef, undef, undef, undef, undef, undef], defers := [] }) ?_ rfl
 have c0 : w.cell? ⟨g0, 0, none⟩ = some (.int .i64 x) := (blk_cell B0.out 0).trans rfl
 have c1 : w.cell? ⟨g1, 0, none⟩ = some v1 := (blk_cell B1.out 0).trans rfl
 have c2 : w.cell? ⟨g2, 0, none⟩ = some v2 := (blk_cell B2.out 0).trans rfl
 have z0 := blk_frozen B0.out 0
 have z1 := blk_frozen B1.out 0
 have z2 := blk_frozen B2.out 0
 have e01 : (g0 = g1) = False := eq_false n01
 have e10 : (g1 = g0) = False := eq_false (Ne.symm n01)
 have e02 : (g0 = g2) = False := eq_false n02
 have e20 : (g2 = g0) = False := eq_false (Ne.symm n02)
 have e12 : (g1 = g2) = False := eq_false n12
 have e21 : (g2 = g1) = False := eq_false (Ne.symm n12)
 have L0 := blk_lt B0.out
 have L1 := blk_lt B1.out
 have L2 := blk_lt B2.out
 go_wp2
 have A0 := blk_set B0.out 0 (.int .i64 9)
 have A1 := blk_far (p := ⟨g0, 0, none⟩) B1.out (Ne.symm n01) (.int .i64 9)
 have A2 := blk_far (p := ⟨g0, 0, none⟩) B2.out (Ne.symm n02) (.int .i64 9)
 have D0 := blk_far (p := ⟨g1, 0, none⟩) A0 n01 (.slice none 0 0)
 have D1 := blk_set A1 0 (.slice none 0 0)
 have D2 := blk_far (p := ⟨g1, 0, none⟩) A2 (Ne.symm n12) (.slice none 0 0)
 have F0 := blk_far (p := ⟨g2, 0, none⟩) D0 n02 (.slice none 0 0)
 have F1 := blk_far (p := ⟨g2, 0, none⟩) D1 n12 (.slice none 0 0)
 have F2 := blk_set D2 0 (.slice none 0 0)
 have G0 := blk_alloc (blk_set F0 0 (.int .i64 code)) (Obj.cells #[Value.int IntKind.i64 code] 82)
 have G1 := blk_alloc (blk_far (p := ⟨g0, 0, none⟩) F1 (Ne.symm n01) (.int .i64 code)) (Obj.cells #[Value.int IntKind.i64 code] 82)
 have G2 := blk_alloc (blk_far (p := ⟨g0, 0, none⟩) F2 (Ne.symm n02) (.int .i64 code)) (Obj.cells #[Value.int IntKind.i64 code] 82)
 have HH : ∀ B w0, Below B w0 w → B ≤ g0 → B ≤ g1 → B ≤ g2 → Below B w0 ((((w.setCell ⟨g0, 0, none⟩ (.int .i64 9)).setCell ⟨g1, 0, none⟩ (.slice none 0 0)).setCell ⟨g2, 0, none⟩ (.slice none 0 0)).setCell ⟨g0, 0, none⟩ (.int .i64 code) |>.alloc (Obj.cells #[Value.int IntKind.i64 code] 82)) := by
  intro B w0 hb h0 h1 h2
  refine ((((hb.setCell h0 _).setCell h1 _).setCell h2 _).setCell h0 _).alloc ?_ _
  simp only [World.size_setCell]
  omega
 generalize ((((w.setCell ⟨g0, 0, none⟩ (.int .i64 9)).setCell ⟨g1, 0, none⟩ (.slice none 0 0)).setCell ⟨g2, 0, none⟩ (.slice none 0 0)).setCell ⟨g0, 0, none⟩ (.int .i64 code) |>.alloc (Obj.cells #[Value.int IntKind.i64 code] 82)) = W9 at G0 G1 G2 HH ⊢
 refine ⟨rfl, _, rfl, _, ?_, rfl, rfl, by simpa using G0, by simpa using G1, by simpa using G2, HH⟩
 simp [results, Try.results54]
def isVl (n : Int) : Bool := decide (-9999 ≤ n ∧ n ≤ 9999)
/-- What a statement does: the code that it ends by (0: it goes on), and what it leaves. -/
def stepCode (s : S46) (a : List Int) : Int := if s.f0 = 1 then 0 else if s.f0 = 2 then 0 else if s.f0 = 3 then (if isVl (wrap64 (a.getD s.f1.toNat 0 + s.f2)) = true then 0 else 2) else (if a.getD s.f1.toNat 0 < s.f2 then 1 else 0)
def stepVals (s : S46) (a : List Int) : List Int := if s.f0 = 1 then a else if s.f0 = 2 then a.set s.f1.toNat s.f2 else if s.f0 = 3 then a.set s.f1.toNat (wrap64 (a.getD s.f1.toNat 0 + s.f2)) else a
def stepChg (s : S46) (c : List Bool) : List Bool := if s.f0 = 1 then c else if s.f0 = 2 then c.set s.f1.toNat true else if s.f0 = 3 then c.set s.f1.toNat true else c
def stepGot (s : S46) (a g : List Int) : List Int := if s.f0 = 1 then g ++ [a.getD s.f1.toNat 0] else g
def runFrom : List S46 → List Int → List Bool → List Int → Int × List Int × List Bool × List Int
 | [], a, c, g => (0, a, c, g)
 | s :: l, a, c, g => if stepCode s a = 0 then runFrom l (stepVals s a) (stepChg s c) (stepGot s a g) else (stepCode s a, a, c, g)
theorem stepCode_add (k n : Int) (a : List Int) : stepCode ⟨3, k, n⟩ a = if isVl (wrap64 (a.getD k.toNat 0 + n)) = true then 0 else 2 := rfl
theorem stepCode_need (k n : Int) (a : List Int) : stepCode ⟨4, k, n⟩ a = if a.getD k.toNat 0 < n then 1 else 0 := rfl
theorem stepVals_length (s : S46) (a : List Int) : (stepVals s a).length = a.length := by
 unfold stepVals
 repeat' split
 all_goals simp
theorem stepChg_length (s : S46) (c : List Bool) : (stepChg s c).length = c.length := by
 unfold stepChg
 repeat' split
 all_goals simp
theorem stepGot_length (s : S46) (a g : List Int) : (stepGot s a g).length ≤ g.length + 1 := by
 unfold stepGot
 split <;> simp
def falses : List Bool := [false, false, false, false, false, false, false, false, false, false, false, false, false, false, false, false, false, false, false, false, false, false, false, false, false, false, false, false, false, false, false, false]
def chOut (a : List Int) (c : List Bool) (k : Nat) : List S48 := ((List.range k).filter (fun j => c.getD j false)).map (fun j : Nat => (⟨(j : Int), a.getD j 0⟩ : S48))
theorem chOut_no (a : List Int) (c : List Bool) (k : Nat) (h : c.getD k false = false) : chOut a c (k + 1) = chOut a c k := by
 unfold chOut
 rw [List.range_succ, List.filter_append, show [k].filter (fun j => c.getD j false) = [] by rw [List.filter_cons_of_neg (by rw [h]; decide)]; rfl, List.append_nil]
theorem chOut_yes (a : List Int) (c : List Bool) (k : Nat) (h : c.getD k false = true) : chOut a c (k + 1) = chOut a c k ++ [⟨(k : Int), a.getD k 0⟩] := by
 unfold chOut
 rw [List.range_succ, List.filter_append, List.map_append, show [k].filter (fun j => c.getD j false) = [k] by rw [List.filter_cons_of_pos (p := fun j => c.getD j false) h]; rfl]
 rfl
theorem chOut_length (a : List Int) (c : List Bool) (k : Nat) : (chOut a c k).length ≤ k := by
 unfold chOut
 rw [List.length_map]
 exact Nat.le_trans (List.length_filter_le _ _) (by simp)
theorem keep_row {w w' : World} {g : Nat} (h : KeepBut w w' g none) (row : Option Nat) : KeepBut w w' g row := ⟨h.1, fun i hi hg _ => h.2 i hi hg (by simp)⟩
theorem dealR_keep {w w' : World} {gd B : Nat} {cs : Array Value} {v : Value} {got : List Int} (hR : Kd.R (Kd.int .i64) 3 w B (fun _ => True) v got) (hb : w.heap[gd]? = some (.cells cs 87 (0, 0))) (hk : KeepBut w w' gd none) : Kd.R (Kd.int .i64) 3 w' B (fun _ => True) v got :=
 Kd.R_mono (Kd.R_keep (Kd.R_types hR hb (by decide)) hk (fun _ hk => hk.2)) (fun _ _ => trivial)
theorem do_any (s : S46) (gd : Nat) (a : List Int) (c : List Bool) (v : Value) (got : List Int) (B : Nat) (w0 w : World) (hs : stOk s = true) (ha : a.length = 32) (hc : c.length = 32) (h0 : stepCode s a = 0) (hb : w.heap[gd]? = some (.cells (dCells a c v) 87 (0, 0)))
 (hR : Kd.R (Kd.int .i64) 3 w B (fun _ => True) v got) (HB : Below B w0 w) (hg : B ≤ gd) (hl : got.length ≤ 1000) :
 Calls Try.prog 55 #[.pointer (some ⟨gd, 0, none⟩), .iface (stTy s) (stVal s)] w fun e w' => e = .returned (.tuple #[]) ∧ ∃ v1, w'.heap[gd]? = some (.cells (dCells (stepVals s a) (stepChg s c) v1) 87 (0, 0)) ∧ Kd.R (Kd.int .i64) 3 w' B (fun _ => True) v1 (stepGot s a got) ∧ KeepBut w w' gd v.ownBlock ∧ Below B w0 w' := by
 obtain ⟨d, k, n⟩ := s
 obtain ⟨hk, hv, hd⟩ := (stOk_iff _).1 hs
 simp only at hk hv hd
 rcases hd with ⟨rfl, rfl⟩ | rfl | rfl | rfl
 ·exact do_get gd a c v got k B w0 w ha hc hk hb hR HB hg hl
 ·refine (do_put gd a c v got k n B w0 w ha hc hk hv hb HB hg).mono ?_
  rintro e w' ⟨rfl, hb', hk', hB'⟩
  exact ⟨rfl, v, hb', dealR_keep hR hb hk', keep_row hk' _, hB'⟩
 ·have hv' : -9999 ≤ wrap64 (a.getD k.toNat 0 + n) ∧ wrap64 (a.getD k.toNat 0 + n) ≤ 9999 := by
   by_cases h : isVl (wrap64 (a.getD k.toNat 0 + n)) = true
   ·exact of_decide_eq_true h
   ·rw [stepCode_add, if_neg h] at h0
    cases h0
  refine (do_add gd a c v got k n B w0 w ha hc hk hv' hb HB hg).mono ?_
  rintro e w' ⟨rfl, hb', hk', hB'⟩
  exact ⟨rfl, v, hb', dealR_keep hR hb hk', keep_row hk' _, hB'⟩
 ·have hv' : ¬ a.getD k.toNat 0 < n := by
   intro h
   rw [stepCode_need, if_pos h] at h0
   cases h0
  refine (do_need gd a c v k n B w0 w ha hk hv' hb HB hg).mono ?_
  rintro e w' ⟨rfl, hb', hk', hB'⟩
  exact ⟨rfl, v, hb', dealR_keep hR hb hk', keep_row hk' _, hB'⟩
theorem do_falls (s : S46) (gd : Nat) (a : List Int) (c : List Bool) (v : Value) (got : List Int) (B : Nat) (w0 w : World) (hs : stOk s = true) (ha : a.length = 32) (hc : c.length = 32) (h0 : stepCode s a ≠ 0) (hb : w.heap[gd]? = some (.cells (dCells a c v) 87 (0, 0)))
 (HB : Below B w0 w) (hg : B ≤ gd) :
 Calls Try.prog 55 #[.pointer (some ⟨gd, 0, none⟩), .iface (stTy s) (stVal s)] w fun e w' => e = .panicked [{ v := .iface 82 (.agg #[.int .i64 (stepCode s a)]), recovered := false }] ∧ Below w.heap.size w w' := by
 obtain ⟨d, k, n⟩ := s
 obtain ⟨hk, hv, hd⟩ := (stOk_iff _).1 hs
 simp only at hk hv hd
 rcases hd with ⟨rfl, rfl⟩ | rfl | rfl | rfl
 ·exact absurd rfl h0
 ·exact absurd rfl h0
 ·have hv' : ¬ (-9999 ≤ wrap64 (a.getD k.toNat 0 + n) ∧ wrap64 (a.getD k.toNat 0 + n) ≤ 9999) := fun h => h0 (by
   rw [stepCode_add, if_pos (show isVl _ = true from decide_eq_true h)])
  rw [show stepCode ⟨3, k, n⟩ a = 2 by
   rw [stepCode_add, if_neg (fun h : isVl _ = true => hv' (of_decide_eq_true h))]]
  exact do_over gd a c v got k n B w0 w ha hc hk hv' hb HB hg
 ·have hv' : a.getD k.toNat 0 < n := Classical.byContradiction fun h => h0 (by
   rw [stepCode_need, if_neg h])
  rw [show stepCode ⟨4, k, n⟩ a = 1 by
   rw [stepCode_need, if_pos hv']]
  exact do_refused gd a c v k n w ha hk hv' hb
/-- The post of a piece that does not leave by a panic, a return or an exit. -/
def calm (Q : Exit → Act → World → Prop) : Exit → Act → World → Prop
 | .normal, a, w => Q .normal a w
 | _, _, _ => False
theorem wp_calm {P : Program} {c : Code} {Q : Exit → Act → World → Prop} {a : Act} {w : World} (h : c.wp P (calm Q) a w) : c.wp P Q a w :=
 wp_mono h (fun e a' w' h => by
  cases e with
  | normal => exact h
  | _ => exact h.elim)
theorem results_three {fn : Func} (h : fn.results = #[.cell 4 3, .cell 5 31, .cell 6 32]) (tmps : Array Value) (w : World) {g0 g1 g2 : Nat} {u0 u1 u2 : Value} (h4 : tmps.getD 4 undef = .pointer (some ⟨g0, 0, none⟩)) (h5 : tmps.getD 5 undef = .pointer (some ⟨g1, 0, none⟩)) (h6 : tmps.getD 6 undef = .pointer (some ⟨g2, 0, none⟩))
 (b0 : w.heap[g0]? = some (.cells #[u0] 3 (0, 0))) (b1 : w.heap[g1]? = some (.cells #[u1] 31 (0, 0))) (b2 : w.heap[g2]? = some (.cells #[u2] 32 (0, 0))) :
 (results fn tmps).run Try.prog w = .ok (.tuple #[u0, u1, u2]) w := by
 have c0 : w.cell? ⟨g0, 0, none⟩ = some u0 := (blk_cell b0 0).trans rfl
 have c1 : w.cell? ⟨g1, 0, none⟩ = some u1 := (blk_cell b1 0).trans rfl
 have c2 : w.cell? ⟨g2, 0, none⟩ = some u2 := (blk_cell b2 0).trans rfl
 have h4' : tmps[4]?.getD undef = .pointer (some ⟨g0, 0, none⟩) := by simpa using h4
 have h5' : tmps[5]?.getD undef = .pointer (some ⟨g1, 0, none⟩) := by simpa using h5
 have h6' : tmps[6]?.getD undef = .pointer (some ⟨g2, 0, none⟩) := by simpa using h6
 simp [results, h, h4', h5', h6', go_sem, c0, c1, c2]
/-- The three variables of DealRun's results. -/
theorem three_new (w : World) (a b c : Obj) : ((((w.alloc a).alloc b).alloc c).heap[w.heap.size]? = some a ∧ (((w.alloc a).alloc b).alloc c).heap[w.heap.size + 1]? = some b ∧ (((w.alloc a).alloc b).alloc c).heap[w.heap.size + 1 + 1]? = some c) ∧ Below w.heap.size w (((w.alloc a).alloc b).alloc c) ∧ (((w.alloc a).alloc b).alloc c).heap.size = w.heap.size + 1 + 1 + 1 := by
 refine ⟨⟨blk_alloc (blk_alloc (blk_new w a) b) c, ?_, ?_⟩, below_alloc (below_alloc (below_alloc (Below.refl _ _) a) b) c, by simp⟩
 ·refine blk_alloc ?_ c
  have := blk_new (w.alloc a) b
  simpa using this
 ·have := blk_new ((w.alloc a).alloc b) c
  simpa using this
set_option maxHeartbeats 8000000 in
set_option maxRecDepth 100000 in
theorem DealRun_bad1 (A0 : Option Addr) (c0 : Nat) (l0 : List S46) (v1 : Value) (w : World) (hr0 : Kd.C k46 w A0 l0.length l0) (hc0 : l0.length ≤ c0) (hd : dealOk l0 = false) :
 Calls Try.prog 22 #[.slice A0 l0.length c0, v1] w fun e w' => e = .returned (.tuple #[.int .i64 9, .slice none 0 0, .slice none 0 0]) ∧ Below w.heap.size w w' := by
 have hmf : ∀ (fn : Fn) (first cap : Array Value) (w : World), (Instr.makeFunc fn first cap).run Try.prog w = .ok (.func fn first cap) w := fun _ _ _ _ => rfl
 have HR := Aside0.mk hr0
 have HC := Aside0.mk hc0
 have HD := Aside0.mk hd
 clear hr0 hc0 hd
 go_enter_defers Try.func22, Try.ntmps22
 go_wp2_with (fail)
 obtain ⟨⟨hx0, hx1, hx2⟩, hbw, hsz⟩ := three_new w (Obj.cells #[Value.int IntKind.i64 0] 3) (Obj.cells #[Value.slice none 0 0] 31) (Obj.cells #[Value.slice none 0 0] 32)
 generalize (((w.alloc (Obj.cells #[Value.int IntKind.i64 0] 3)).alloc (Obj.cells #[Value.slice none 0 0] 31)).alloc (Obj.cells #[Value.slice none 0 0] 32)) = W0 at hx0 hx1 hx2 hbw hsz ⊢
 refine (stepsOf_any A0 c0 l0 _ (Kd.C_below HR.out hbw) HC.out).mono ?_
 rintro e w1 ⟨v, rfl, _, hb⟩
 have B0 := Aside0.mk (blk_below hx0 hb)
 have B1 := Aside0.mk (blk_below hx1 hb)
 have B2 := Aside0.mk (blk_below hx2 hb)
 have HB := Aside0.mk (below_then hbw hbw.size hb)
 clear hx0 hx1 hx2 hbw hsz hb
 rw [HD.out]
 have c0 : w1.cell? ⟨w.heap.size, 0, none⟩ = some (.int .i64 0) := (blk_cell B0.out 0).trans rfl
 have c1 : w1.cell? ⟨w.heap.size + 1, 0, none⟩ = some (.slice none 0 0) := (blk_cell B1.out 0).trans rfl
 have c2 : w1.cell? ⟨w.heap.size + 1 + 1, 0, none⟩ = some (.slice none 0 0) := (blk_cell B2.out 0).trans rfl
 have z0 := blk_frozen B0.out 0
 have z1 := blk_frozen B1.out 0
 have z2 := blk_frozen B2.out 0
 go_wp2
 have n01 : w.heap.size ≠ w.heap.size + 1 := by omega
 have n02 : w.heap.size ≠ w.heap.size + 1 + 1 := by omega
 have n12 : w.heap.size + 1 ≠ w.heap.size + 1 + 1 := by omega
 have D0 := blk_far (p := ⟨w.heap.size + 1 + 1, 0, none⟩) (blk_far (p := ⟨w.heap.size + 1, 0, none⟩) (blk_put B0.out 0 (.int .i64 9) rfl) n01 (.slice none 0 0)) n02 (.slice none 0 0)
 have D1 := blk_far (p := ⟨w.heap.size + 1 + 1, 0, none⟩) (blk_put (blk_far (p := ⟨w.heap.size, 0, none⟩) B1.out (Ne.symm n01) (.int .i64 9)) 0 (.slice none 0 0) rfl) n12 (.slice none 0 0)
 have D2 := blk_put (blk_far (p := ⟨w.heap.size + 1, 0, none⟩) (blk_far (p := ⟨w.heap.size, 0, none⟩) B2.out (Ne.symm n02) (.int .i64 9)) (Ne.symm n12) (.slice none 0 0)) 0 (.slice none 0 0) rfl
 exact ⟨_, results_three rfl _ _ rfl rfl rfl D0 D1 D2, rfl, ((HB.out.setCell (Nat.le_refl _) _).setCell (Nat.le_succ _) _).setCell (Nat.le_trans (Nat.le_succ _) (Nat.le_succ _)) _⟩
set_option maxHeartbeats 8000000 in
set_option maxRecDepth 100000 in
theorem DealRun_bad2 (k : Nat) (A0 : Option Addr) (c0 : Nat) (l0 : List S46) (A1 : Option Addr) (c1 : Nat) (l1 : List S48) (w : World) (hr0 : Kd.C k46 w A0 l0.length l0) (hc0 : l0.length ≤ c0) (hr1 : Kd.C k48 w A1 l1.length l1) (hc1 : l1.length ≤ c1) (hd : dealOk l0 = true) (hp : impl_pairsOk.f k l1 = some false) :
 Calls Try.prog 22 #[.slice A0 l0.length c0, .slice A1 l1.length c1] w fun e w' => e = .returned (.tuple #[.int .i64 9, .slice none 0 0, .slice none 0 0]) ∧ Below w.heap.size w w' := by
 have hmf : ∀ (fn : Fn) (first cap : Array Value) (w : World), (Instr.makeFunc fn first cap).run Try.prog w = .ok (.func fn first cap) w := fun _ _ _ _ => rfl
 have HR := Aside0.mk hr0
 have HC := Aside0.mk hc0
 have HD := Aside0.mk hd
 have HR1 := Aside0.mk hr1
 have HC1 := Aside0.mk hc1
 have HP := Aside0.mk hp
 clear hr0 hc0 hd hr1 hc1 hp
 go_enter_defers Try.func22, Try.ntmps22
 go_wp2_with (fail)
 obtain ⟨⟨hx0, hx1, hx2⟩, hbw, hsz⟩ := three_new w (Obj.cells #[Value.int IntKind.i64 0] 3) (Obj.cells #[Value.slice none 0 0] 31) (Obj.cells #[Value.slice none 0 0] 32)
 generalize (((w.alloc (Obj.cells #[Value.int IntKind.i64 0] 3)).alloc (Obj.cells #[Value.slice none 0 0] 31)).alloc (Obj.cells #[Value.slice none 0 0] 32)) = W0 at hx0 hx1 hx2 hbw hsz ⊢
 refine (stepsOf_any A0 c0 l0 _ (Kd.C_below HR.out hbw) HC.out).mono ?_
 rintro e w1 ⟨v, rfl, _, hb⟩
 have B0 := blk_below hx0 hb
 have B1 := blk_below hx1 hb
 have B2 := blk_below hx2 hb
 have HB := below_then hbw hbw.size hb
 clear hx0 hx1 hx2 hbw hsz hb
 rw [HD.out]
 replace B0 := Aside0.mk B0
 replace B1 := Aside0.mk B1
 replace B2 := Aside0.mk B2
 replace HB := Aside0.mk HB
 go_wp2_with (fail)
 refine (impl_pairsOk.calls k A1 c1 l1 false _ (Kd.C_below HR1.out HB.out) HC1.out HP.out).mono ?_
 rintro e w2 ⟨rfl, hb⟩
 replace B0 := Aside0.mk (blk_below B0.out hb)
 replace B1 := Aside0.mk (blk_below B1.out hb)
 replace B2 := Aside0.mk (blk_below B2.out hb)
 replace HB := Aside0.mk (below_step HB.out hb)
 clear hb
 have c0 : w2.cell? ⟨w.heap.size, 0, none⟩ = some (.int .i64 0) := (blk_cell B0.out 0).trans rfl
 have c1 : w2.cell? ⟨w.heap.size + 1, 0, none⟩ = some (.slice none 0 0) := (blk_cell B1.out 0).trans rfl
 have c2 : w2.cell? ⟨w.heap.size + 1 + 1, 0, none⟩ = some (.slice none 0 0) := (blk_cell B2.out 0).trans rfl
 have z0 := blk_frozen B0.out 0
 have z1 := blk_frozen B1.out 0
 have z2 := blk_frozen B2.out 0
 go_wp2
 have n01 : w.heap.size ≠ w.heap.size + 1 := by omega
 have n02 : w.heap.size ≠ w.heap.size + 1 + 1 := by omega
 have n12 : w.heap.size + 1 ≠ w.heap.size + 1 + 1 := by omega
 have D0 := blk_far (p := ⟨w.heap.size + 1 + 1, 0, none⟩) (blk_far (p := ⟨w.heap.size + 1, 0, none⟩) (blk_put B0.out 0 (.int .i64 9) rfl) n01 (.slice none 0 0)) n02 (.slice none 0 0)
 have D1 := blk_far (p := ⟨w.heap.size + 1 + 1, 0, none⟩) (blk_put (blk_far (p := ⟨w.heap.size, 0, none⟩) B1.out (Ne.symm n01) (.int .i64 9)) 0 (.slice none 0 0) rfl) n12 (.slice none 0 0)
 have D2 := blk_put (blk_far (p := ⟨w.heap.size + 1, 0, none⟩) (blk_far (p := ⟨w.heap.size, 0, none⟩) B2.out (Ne.symm n02) (.int .i64 9)) (Ne.symm n12) (.slice none 0 0)) 0 (.slice none 0 0) rfl
 exact ⟨_, results_three rfl _ _ rfl rfl rfl D0 D1 D2, rfl, ((HB.out.setCell (Nat.le_refl _) _).setCell (Nat.le_succ _) _).setCell (Nat.le_trans (Nat.le_succ _) (Nat.le_succ _)) _⟩
theorem run_index_arrB {P : Program} (W : World) (t e : TypeId) (n : Nat) (cs : Array Value) (v : Value) (j : Nat) (ht : P.underlying t = some (.array n e)) (he : P.underlying e = some .bool)
 (hi : (P.info? e).map (fun i => (i.zero, i.size, i.bytes)) = some (some (.bool false), 1, 1)) (hj : j < n) (hv : cs[j]? = some v) : (Instr.index t (.agg cs) (.int .i64 (j : Int))).run P W = .ok v W := by
 obtain ⟨i0, hi0, hzz⟩ := Option.map_eq_some_iff.1 hi
 simp only [Prod.mk.injEq] at hzz
 have hj' : (0 : Int) ≤ (j : Int) ∧ (j : Int) < (n : Int) := by omega
 have hnj : ¬ n ≤ j := by omega
 simp [Instr.index, asIntOf, run_underlying ht, run_underlying he, hj', hnj, part, isAgg, sizeOf, typeInfo, hi0, hzz.2.1, hv]
theorem infoB : (Try.prog.info? 4).map (fun i => (i.zero, i.size, i.bytes)) = some (some (.bool false), 1, 1) := by kernel_rfl
theorem dealOk_at {l : List S46} (h : dealOk l = true) (x : Nat) (hx : x < l.length) : stOk (rd_T46 l (x : Int)) = true := by
 unfold dealOk at h
 rw [Bool.and_eq_true] at h
 have := List.all_eq_true.1 h.2 l[x] (List.getElem_mem hx)
 simpa [rd_T46, List.getD_eq_getElem?_getD, List.getElem?_eq_getElem hx] using this
theorem step_cell {w : World} {A : Option Addr} {l : List S46} (h : kStep.C w A l.length l) (x : Nat) (hx : x < l.length) : ∃ ad, A = some ad ∧ w.cell? (ad.add x) = some (.iface (stTy (rd_T46 l (x : Int))) (stVal (rd_T46 l (x : Int)))) := by
 obtain ⟨ad, c, hA, _, hK, hc⟩ := Kd.C_get h z46 (x : Int) (by omega) (by omega)
 have hK' : c = [encStep (rd_T46 l (x : Int))] := hK
 refine ⟨ad, hA, ?_⟩
 have := hc 0 (encStep (rd_T46 l (x : Int))) (by rw [hK']; rfl)
 simpa [kStep, Kd.scalar, encStep] using this
theorem run_drop (l : List S46) (x : Nat) (hx : x < l.length) (a : List Int) (c : List Bool) (g : List Int) : runFrom (l.drop x) a c g = if stepCode (rd_T46 l (x : Int)) a = 0 then runFrom (l.drop (x + 1)) (stepVals (rd_T46 l (x : Int)) a) (stepChg (rd_T46 l (x : Int)) c) (stepGot (rd_T46 l (x : Int)) a g) else (stepCode (rd_T46 l (x : Int)) a, a, c, g) := by
 have e : rd_T46 l (x : Int) = l[x] := by simp [rd_T46, List.getD_eq_getElem?_getD, List.getElem?_eq_getElem hx]
 rw [List.drop_eq_getElem_cons hx, e]
 rfl
def runOut (l0 : List S46) (l1 : List S48) : Int × List Int × List S48 :=
 let r := runFrom l0 (prPutAll prZeros l1) falses []
 if r.1 = 0 then (0, r.2.2.2, chOut r.2.1 r.2.2.1 32) else (r.1, [], [])
set_option maxHeartbeats 8000000 in
set_option maxRecDepth 100000 in
theorem DealRun_yes (k : Nat) (A0 : Option Addr) (c0 : Nat) (l0 : List S46) (A1 : Option Addr) (c1 : Nat) (l1 : List S48) (w : World) (hr0 : Kd.C k46 w A0 l0.length l0) (hc0 : l0.length ≤ c0) (hr1 : Kd.C k48 w A1 l1.length l1) (hc1 : l1.length ≤ c1) (hd : dealOk l0 = true) (hp : impl_pairsOk.f k l1 = some true) (hq : prKeysIn l1 = true) :
 Calls Try.prog 22 #[.slice A0 l0.length c0, .slice A1 l1.length c1] w fun e w' => ∃ v1 v2 : Value, e = .returned (.tuple #[.int .i64 (runOut l0 l1).1, v1, v2]) ∧ Kd.R (Kd.int .i64) 3 w' w.heap.size (fun _ => True) v1 (runOut l0 l1).2.1 ∧ Kd.R k48 48 w' w.heap.size (fun _ => True) v2 (runOut l0 l1).2.2 ∧ Below w.heap.size w w' := by
 have hmf : ∀ (fn : Fn) (first cap : Array Value) (w : World), (Instr.makeFunc fn first cap).run Try.prog w = .ok (.func fn first cap) w := fun _ _ _ _ => rfl
 have hu1 := Try.underlying48
 have hu2 := Try.underlying84
 have hu3 := Try.underlying87
 have HR := Aside0.mk hr0
 have HC := Aside0.mk hc0
 have HD := Aside0.mk hd
 have HR1 := Aside0.mk hr1
 have HC1 := Aside0.mk hc1
 have HP := Aside0.mk hp
 have HQ := Aside0.mk hq
 have hl6 := Aside0.mk (show l0.length ≤ 6 by unfold dealOk at hd; rw [Bool.and_eq_true] at hd; exact (of_decide_eq_true hd.1).2)
 have hm1 : l1.length ≤ 9223372036854775807 := hr1.2.1
 have hm0 : l0.length ≤ 9223372036854775807 := hr0.2.1
 clear hr0 hc0 hd hr1 hc1 hp hq
 go_enter_defers Try.func22, Try.ntmps22
 go_wp2_with (fail)
 obtain ⟨⟨hx0, hx1, hx2⟩, hbw, hsz⟩ := three_new w (Obj.cells #[Value.int IntKind.i64 0] 3) (Obj.cells #[Value.slice none 0 0] 31) (Obj.cells #[Value.slice none 0 0] 32)
 generalize (((w.alloc (Obj.cells #[Value.int IntKind.i64 0] 3)).alloc (Obj.cells #[Value.slice none 0 0] 31)).alloc (Obj.cells #[Value.slice none 0 0] 32)) = W0 at hx0 hx1 hx2 hbw hsz ⊢
 refine (stepsOf_any A0 c0 l0 _ (Kd.C_below HR.out hbw) HC.out).mono ?_
 rintro e w1 ⟨vs, rfl, hvs, hb⟩
 have B0 := blk_below hx0 hb
 have B1 := blk_below hx1 hb
 have B2 := blk_below hx2 hb
 have HB := below_then hbw hbw.size hb
 have HS := hvs HD.out
 clear hx0 hx1 hx2 hbw hsz hb hvs
 rw [HD.out]
 replace B0 := Aside0.mk B0
 replace B1 := Aside0.mk B1
 replace B2 := Aside0.mk B2
 replace HB := Aside0.mk HB
 obtain ⟨AS, cS, rfl, hcS, HS⟩ := Kd.R_reads HS
 replace HS := Aside0.mk HS
 clear hcS
 go_wp2_with (fail)
 refine (impl_pairsOk.calls k A1 c1 l1 true _ (Kd.C_below HR1.out HB.out) HC1.out HP.out).mono ?_
 rintro e W1 ⟨rfl, hb⟩
 replace B0 := Aside0.mk (blk_below B0.out hb)
 replace B1 := Aside0.mk (blk_below B1.out hb)
 replace B2 := Aside0.mk (blk_below B2.out hb)
 replace HB := Aside0.mk (below_step HB.out hb)
 replace HS := Aside0.mk (Kd.C_below HS.out hb)
 have HR1' := Aside0.mk (Kd.C_below HR1.out HB.out)
 clear hb
 go_wp2_with ((with_reducible refine gate_dst (N := 9) rfl ?_); refine box_event ?hg (N := 9) ?hd (cs := dCells prZeros falses (.slice none 0 0)) (t := 87) ?hr ?_; (case hd => rfl); (case hg => rfl); (case hr => first | (go_simp; done) | (go_simp; rfl)); intro gd hg w3 hbox hb; have BD := Aside0.mk hbox; have GD := Aside0.mk (show W1.heap.size ≤ gd by rw [hg]; exact Nat.le_refl _); have HL := Aside0.mk hb; clear hb hbox hg)
 go_loopw [31] (fun i wr => ∃ x : Nat, x ≤ l1.length ∧ i = .int .i64 x ∧ Aside0 (wr.heap[gd]? = some (.cells (dCells (prPutAll prZeros (l1.take x)) falses (.slice none 0 0)) 87 (0, 0))) ∧ Aside0 (Below W1.heap.size W1 wr)) (fun i _ => l1.length - (intOf i).toNat)
 case atStart => exact ⟨0, Nat.zero_le _, rfl, BD, HL⟩
 case round =>
  obtain ⟨x, hx, rfl, BA, HL⟩ := hrel
  by_cases hlt : x < l1.length
  ·obtain ⟨ad, hA, hx0, hx1⟩ := at_T48 HR1.out (x : Int) (by omega) (by omega)
   subst hA
   have hy0 := (HL.out.cell (World.block_lt_of_cell? W1 _ ((HB.out.cell (World.block_lt_of_cell? w _ hx0)).trans hx0))).trans ((HB.out.cell (World.block_lt_of_cell? w _ hx0)).trans hx0)
   have hy1 := (HL.out.cell (World.block_lt_of_cell? W1 _ ((HB.out.cell (World.block_lt_of_cell? w _ hx1)).trans hx1))).trans ((HB.out.cell (World.block_lt_of_cell? w _ hx1)).trans hx1)
   have hk32 := prKeysIn_at HQ.out x hlt
   have hsn := prPutAll_snoc prZeros l1 x hlt
   have HSN := Aside0.mk hsn
   simp only [Int.toNat_natCast] at hy0 hy1
   generalize rd_T48 l1 x = pr at hy0 hy1 hk32 HSN
   obtain ⟨pk, pv⟩ := pr
   simp only at hy0 hy1 hk32
   have HSN := Aside0.mk HSN.out
   simp only at HSN
   have p1 : (0 ≤ pk) = True := eq_true hk32.1
   have p2 : (pk < 32) = True := eq_true hk32.2
   have LA := Aside0.mk (show pk.toNat < (prPutAll prZeros (l1.take x)).length by rw [prPutAll_length, show prZeros.length = 32 from rfl]; omega)
   have hz5 : (wr.alloc (Obj.cells #[.int .i64 pk, .int .i64 pv] 48)).cell? ⟨gd, pk.toNat, none⟩ = some (.int .i64 ((prPutAll prZeros (l1.take x)).getD pk.toNat 0)) := (World.cell?_alloc_lt _ _ _ (blk_lt BA.out)).trans ((blk_cell BA.out pk.toNat).trans (dCells_val _ LA.out))
   have hzf5 : (wr.alloc (Obj.cells #[.int .i64 pk, .int .i64 pv] 48)).frozen? ⟨gd, pk.toNat, none⟩ = false := blk_frozen (blk_alloc BA.out _) pk.toNat
   have hdl : decide (x < l1.length) = true := decide_eq_true hlt
   clear hx0 hx1 hsn hk32
   go_wp2
   go_roundw
   case rel => exact ⟨x + 1, by omega, by go_num, ⟨blk_put (blk_alloc BA.out _) pk.toNat _ (by rw [HSN.out]; exact dCells_setVal _ _ LA.out)⟩, ⟨below_set (below_alloc HL.out _) GD.out⟩⟩
   case measure => simp [intOf]; omega
  ·obtain rfl : x = l1.length := by omega
   rw [List.take_length] at BA
   clear hlt hx
   have HA0 := Aside0.mk (show (prPutAll prZeros l1).length = 32 by rw [prPutAll_length]; rfl)
   generalize hq0 : prPutAll prZeros l1 = a0 at BA HA0
   have HQ0 := Aside0.mk hq0
   clear hq0
   go_wp2_with (fail)
   go_loopw [44] (fun i wr => ∃ (x : Nat) (a : List Int) (c : List Bool) (v : Value) (g : List Int), x ≤ l0.length ∧ i = .int .i64 x ∧ Aside0 (a.length = 32 ∧ c.length = 32 ∧ g.length ≤ x) ∧ Aside0 (runFrom l0 a0 falses [] = runFrom (l0.drop x) a c g) ∧ Aside0 (wr.heap[gd]? = some (.cells (dCells a c v) 87 (0, 0))) ∧ Aside0 (Kd.R (Kd.int .i64) 3 wr W1.heap.size (fun _ => True) v g) ∧ Aside0 (Below W1.heap.size W1 wr)) (fun i _ => l0.length - (intOf i).toNat)
   case atStart => exact ⟨0, a0, falses, .slice none 0 0, [], Nat.zero_le _, rfl, ⟨HA0.out, rfl, Nat.le_refl _⟩, ⟨rfl⟩, BA, ⟨Kd.R_nil _ _ _ _ _⟩, HL⟩
   case round =>
    obtain ⟨x, a, c, v, g, hx, rfl, HAC, HRUN, BA, HG, HL⟩ := hrel
    by_cases hlt : x < l0.length
    ·have hst := dealOk_at HD.out x hlt
     obtain ⟨ad, hA, hc⟩ := step_cell HS.out x hlt
     subst hA
     have hy := (HL.out.cell (World.block_lt_of_cell? W1 _ hc)).trans hc
     have hdr := run_drop l0 x hlt a c g
     have hdl : decide (x < l0.length) = true := decide_eq_true hlt
     generalize rd_T46 l0 (x : Int) = s at hst hy hdr
     replace hst := Aside0.mk hst
     clear hc
     by_cases h0 : stepCode s a = 0
     ·rw [if_pos h0] at hdr
      have HDR := Aside0.mk (HRUN.out.trans hdr)
      have H0 := Aside0.mk h0
      clear hdr h0
      go_wp2_with (fail)
      refine (do_any s gd a c v g W1.heap.size W1 _ hst.out HAC.out.1 HAC.out.2.1 H0.out BA.out HG.out HL.out GD.out (by have := HAC.out; have := hl6.out; omega)).mono ?_
      rintro e w5 ⟨rfl, v5, hb5, hR5, hk5, hB5⟩
      have BA5 := Aside0.mk hb5
      have HG5 := Aside0.mk hR5
      have HL5 := Aside0.mk hB5
      clear hb5 hR5 hk5 hB5
      go_wp2_with (fail)
      go_roundw
      case rel => exact ⟨x + 1, stepVals s a, stepChg s c, v5, stepGot s a g, by omega, by go_num, ⟨by rw [stepVals_length]; exact HAC.out.1, by rw [stepChg_length]; exact HAC.out.2.1, by have := stepGot_length s a g; have := HAC.out; omega⟩, HDR, BA5, HG5, HL5⟩
      case measure => simp [intOf]; omega
     ·rw [if_neg h0] at hdr
      have HDR := Aside0.mk (HRUN.out.trans hdr)
      have H0 := Aside0.mk h0
      clear hdr h0
      go_wp2_with (fail)
      refine (do_falls s gd a c v g W1.heap.size W1 _ hst.out HAC.out.1 HAC.out.2.1 H0.out BA.out HL.out GD.out).mono ?_
      rintro e w5 ⟨rfl, hb5⟩
      have F0 := blk_below (blk_below B0.out HL.out) hb5
      have F1 := blk_below (blk_below B1.out HL.out) hb5
      have F2 := blk_below (blk_below B2.out HL.out) hb5
      have HB5 := Aside0.mk (below_step (below_step HB.out HL.out) hb5)
      clear hb5
      refine leaves_cons (f := 54) (args := #[.pointer (some ⟨w.heap.size, 0, none⟩), .pointer (some ⟨w.heap.size + 1, 0, none⟩), .pointer (some ⟨w.heap.size + 1 + 1, 0, none⟩)]) (by simp) (by simp [go_sem]) ?_
      refine (run1_caught w.heap.size (w.heap.size + 1) (w.heap.size + 1 + 1) 0 (stepCode s a) (.slice none 0 0) (.slice none 0 0) [] _ F0 F1 F2).mono ?_
      rintro e u' w6 ⟨rfl, rfl, G0, G1, G2, hB6⟩
      refine ⟨_, results_three rfl _ _ rfl rfl rfl G0 G1 G2, ?_⟩
      have hro : runOut l0 l1 = (stepCode s a, [], []) := by
       unfold runOut
       rw [HQ0.out, HDR.out]
       simp only
       rw [if_neg H0.out]
      rw [hro]
      exact ⟨_, _, rfl, Kd.R_nil _ _ _ _ _, Kd.R_nil _ _ _ _ _, hB6 _ _ HB5.out (Nat.le_refl _) (Nat.le_succ _) (Nat.le_trans (Nat.le_succ _) (Nat.le_succ _))⟩
    ·obtain rfl : x = l0.length := by omega
     have hru := HRUN.out
     rw [List.drop_length] at hru
     replace HRUN := Aside0.mk (show runFrom l0 a0 falses [] = (0, a, c, g) from hru)
     clear hru hlt hx
     have hca : ∀ j v, (c.map Value.bool)[j]? = some v → wr.cell? ((⟨gd, 32, none⟩ : Addr).add j) = some v := by
      intro j v hj
      rw [List.getElem?_map] at hj
      obtain ⟨b, hb, rfl⟩ := Option.map_eq_some_iff.1 hj
      have hjl : j < c.length := (List.getElem?_eq_some_iff.1 hb).1
      have e : ((⟨gd, 32, none⟩ : Addr).add j) = ⟨gd, 32 + j, none⟩ := by unfold Addr.add; split <;> simp_all
      rw [e, (blk_cell BA.out (32 + j)), dCells_chg HAC.out.1 j hjl]
      simp [List.getD_eq_getElem?_getD, hb]
     have HCA := Aside0.mk hca
     have HSZ := Aside0.mk (show (Try.prog.info? 85).map (·.size) = some (c.map Value.bool).length by rw [List.length_map, HAC.out.2.1]; kernel_rfl)
     clear hca
     go_wp2_with ((with_reducible refine gate_dst (N := 52) rfl ?_); refine wpList_load_cells rfl 85 (.tmp 51) rfl ⟨gd, 32, none⟩ rfl (c.map Value.bool) _ HCA.out Try.underlying85 rfl HSZ.out ?_)
     have hidx : ∀ (j : Nat), j < 32 → ∀ W : World, (Instr.index 85 (.agg (c.map Value.bool).toArray) (.int .i64 (j : Int))).run Try.prog W = .ok (.bool (c.getD j false)) W := fun j hj W =>
      run_index_arrB W 85 4 32 _ _ j Try.underlying85 Try.underlying4 infoB hj (by have := HAC.out; simp [List.getElem?_eq_getElem (show j < c.length by omega), List.getD_eq_getElem?_getD])
     have HIX := Aside0.mk hidx
     have F0 := Aside0.mk (blk_below B0.out HL.out)
     have F1 := Aside0.mk (blk_below B1.out HL.out)
     have F2 := Aside0.mk (blk_below B2.out HL.out)
     have HB3 := Aside0.mk (below_step HB.out HL.out)
     have HG3 := Aside0.mk (Kd.R_lower (Kd.R_mono (ok' := fun k => w.heap.size + 1 + 1 < k) (Kd.R_bound HG.out) (fun k hk => Nat.lt_of_lt_of_le (blk_lt B2.out) hk.2.1)) HB.out.size)
     have GD3 := Aside0.mk (Nat.le_trans HB.out.size GD.out)
     clear hidx
     go_loopw [53] (fun i wr => ∃ (x : Nat) (vc : Value), x ≤ 32 ∧ i = .int .i64 x ∧ Aside0 (wr.heap[w.heap.size + 1 + 1]? = some (.cells #[vc] 32 (0, 0))) ∧ Aside0 (Kd.R k48 48 wr w.heap.size (fun _ => True) vc (chOut a c x)) ∧ Aside0 (wr.heap[gd]? = some (.cells (dCells a c v) 87 (0, 0))) ∧ Aside0 (Kd.R (Kd.int .i64) 3 wr w.heap.size (fun k => w.heap.size + 1 + 1 < k) v g) ∧ Aside0 (wr.heap[w.heap.size]? = some (.cells #[.int .i64 0] 3 (0, 0))) ∧ Aside0 (wr.heap[w.heap.size + 1]? = some (.cells #[.slice none 0 0] 31 (0, 0))) ∧ Aside0 (Below w.heap.size w wr)) (fun i _ => 32 - (intOf i).toNat)
     case atStart => exact ⟨0, .slice none 0 0, Nat.zero_le _, rfl, F2, ⟨Kd.R_nil _ _ _ _ _⟩, BA, HG3, F0, F1, HB3⟩
     case round =>
      obtain ⟨x, vc, hx, rfl, F2, HO, BA, HG, F0, F1, HB⟩ := hrel
      by_cases hlt : x < 32
      ·have hix := HIX.out x hlt
       have hdl : decide ((x : Int) < 32) = true := decide_eq_true (by omega)
       by_cases hcx : c.getD x false = true
       ·rw [hcx] at hix
        have hsn := Aside0.mk (chOut_yes a c x hcx)
        have HX := Aside0.mk hlt
        have LEN := Aside0.mk (chOut_length a c x)
        have p : (0 ≤ (x : Int)) = True := eq_true (by omega)
        have q : ((x : Int) < 32) = True := eq_true (by omega)
        have xk : wr.cell? ⟨gd, x, none⟩ = some (.int .i64 (a.getD x 0)) := (blk_cell BA.out x).trans (dCells_val _ (by have := HAC.out; omega))
        have xb : wr.cell? ⟨w.heap.size + 1 + 1, 0, none⟩ = some vc := (blk_cell F2.out 0).trans rfl
        have xb' : ∀ o, (wr.alloc o).cell? ⟨w.heap.size + 1 + 1, 0, none⟩ = some vc := fun o => (World.cell?_alloc_lt _ _ _ (blk_lt F2.out)).trans ((blk_cell F2.out 0).trans rfl)
        have xk' : ∀ o, (wr.alloc o).cell? ⟨gd, x, none⟩ = some (.int .i64 (a.getD x 0)) := fun o => (World.cell?_alloc_lt _ _ _ (blk_lt BA.out)).trans ((blk_cell BA.out x).trans (dCells_val _ (by have := HAC.out; omega)))
        have xk0 := Aside0.mk (dCells_val (c := c) (v := v) x (show x < a.length by have := HAC.out; omega))
        clear hcx
        generalize hY : a.getD x 0 = y at xk xk' xk0
        have HY := Aside0.mk hY
        clear hY
        go_wp2_with (fail)
        refine wp_calm ?_
        refine start_ (n := 10) (S := fun w' => w'.cell? ⟨w.heap.size + 1 + 1, 0, none⟩ = some vc ∧ w'.cell? ⟨gd, x, none⟩ = some (.int .i64 y)) (ds := [9]) (bt_ 10 0) (by kernel_rfl) rfl rfl ⟨xb, xk⟩ (fun hHeld => ?_)
        refine pu_ 1 (some 59) (bt_ 10 2) (by kernel_rfl) ?_
        refine pu_ 2 (some 60) (bt_ 10 6) (by kernel_rfl) ?_
        refine pu_ 3 (some 61) (bt_ 10 14) (by kernel_rfl) ?_
        refine pu_ 4 (some 62) (bt_ 10 30) (by kernel_rfl) ?_
        refine take_ (i := 0) (N := some 58) (v := ?_) (a' := ?_) (bt_ 10 31) rfl rfl (by kernel_rfl) (fun _ _ _ h => h) (Or.inl ⟨by rfl, ?_⟩) hHeld ?_ ?_
        rotate_left
        ·rintro w' ⟨s0, s1⟩
         go_simp
         with_reducible rfl
        rotate_left
        ·simp only [Act.put, List.setIfInBounds_toArray, List.set_cons_zero, List.set_cons_succ, i64_w, i32_w]
         rfl
        refine take_ (i := 5) (N := some 63) (v := ?_) (a' := ?_) (bt_ 10 63) rfl rfl (by kernel_rfl) (fun _ _ _ h => h) (Or.inl ⟨by rfl, ?_⟩) hHeld ?_ ?_
        rotate_left
        ·rintro w' ⟨s0, s1⟩
         go_simp
         with_reducible rfl
        rotate_left
        ·simp only [Act.put, List.setIfInBounds_toArray, List.set_cons_zero, List.set_cons_succ, i64_w, i32_w]
         rfl
        refine pu_ 6 (some 64) (bt_ 10 127) (by kernel_rfl) ?_
        refine one_ (i := 7) (N := some 65) (bt_ 10 255) rfl rfl (by kernel_rfl) (by decide) (fun K hK => ?_)
        refine value_ (w1 := ?_) (v := ?_) (by rfl) rfl ?_ ?_
        rotate_left 2
        ·go_simp
         constructor
         ·rfl
         ·rfl
        refine hK.out _ _ ⟨xb' _, xk' _⟩ (fun hHeld => ?_)
        clear hK K
        refine norm_ (a' := ?_) ?_ ?_
        rotate_left
        ·show Act.put _ (some 65) _ = _
         simp only [Act.put, List.setIfInBounds_toArray, List.set_cons_zero, List.set_cons_succ, i64_w, i32_w]
         rfl
        refine one_ (i := 8) (N := some 66) (bt_ 10 511) rfl rfl (by kernel_rfl) (by decide) (fun K hK => ?_)
        refine Kd.R_append_step k48 (w0 := w) (W := wr.drew) w.heap.size ?aW (.tmp 58) (.tmp 65) 32 48 (.agg #[(.int .i64 0), (.int .i64 0)]) 16 rfl Try.underlying32 info48 rfl (by decide) (by omega) vc (chOut a c x) (⟨(x : Int), y⟩ : S48) [.int .i64 (x : Int), .int .i64 y] (fun _ => True) (fun _ => False) rfl rfl ?aP (fun _ h => h.elim) ?aF ?aO ?aB ?aS ?aL ?_
        case aW => rfl
        case aP => exact k48_mkM _ _ _ (⟨(x : Int), y⟩ : S48)
        case aF => exact fun _ _ => trivial
        case aO => exact Kd.R_drew HO.out
        case aB => exact below_drew HB.out
        case aS => exact HB.out.size
        case aL => have := LEN.out; omega
        intro v7 w7 ho hb7 hg hat
        obtain ⟨A7, c7, e7⟩ := Kd.R_slice ho
        subst e7
        have HO7 := Aside0.mk ho
        have HB7 := Aside0.mk hb7
        have F27 := Aside0.mk (blk_grown (blk_drew F2.out) hg (Kd.R_ne HO.out F2.out (by decide)))
        have F07 := Aside0.mk (blk_grown (blk_drew F0.out) hg (Kd.R_ne HO.out F0.out (by decide)))
        have F17 := Aside0.mk (blk_grown (blk_drew F1.out) hg (Kd.R_ne HO.out F1.out (by decide)))
        have BA7 := Aside0.mk (blk_grown (blk_drew BA.out) hg (Kd.R_ne HO.out BA.out (by decide)))
        have HG7 := Aside0.mk (Kd.R_over' (Kd.R_drew HG.out) (fun k hk => Kd.R_typed (Kd.R_drew HO.out) k hk) (by decide) hg)
        clear ho hb7 hg hat
        have yb : w7.cell? ⟨w.heap.size + 1 + 1, 0, none⟩ = some vc := (blk_cell F27.out 0).trans rfl
        have zb := blk_frozen F27.out 0
        refine hK.out _ _ ⟨yb, ((blk_cell BA7.out x).trans (xk0.out))⟩ (fun hHeld => ?_)
        clear hK K
        refine norm_ (a' := ?_) ?_ ?_
        rotate_left
        ·show Act.put _ (some 66) _ = _
         simp only [Act.put, List.setIfInBounds_toArray, List.set_cons_zero, List.set_cons_succ, i64_w, i32_w]
         rfl
        refine last_ (i := 9) (N := none) (bt_ 10 1023) rfl rfl (by kernel_rfl) (by decide) (fun K hK => ?_)
        refine skip_ (w1 := ?_) (by rfl) rfl ?_ ?_
        rotate_left
        ·go_simp
         rfl
        refine hK.out _ _ ?_
        clear hK K
        refine done_ (by kernel_rfl) ?_

        simp only [calm]
        go_wp2_with (fail)
        go_roundw
        case rel =>
         have n01 : w.heap.size ≠ w.heap.size + 1 + 1 := by omega
         have n12 : w.heap.size + 1 ≠ w.heap.size + 1 + 1 := by omega
         refine ⟨x + 1, .slice A7 (chOut a c x ++ [(⟨(x : Int), y⟩ : S48)]).length c7, by have := HX.out; omega, by go_num, ⟨blk_put F27.out 0 _ (by simp)⟩, ⟨?_⟩, ⟨blk_far (p := ⟨w.heap.size + 1 + 1, 0, none⟩) BA7.out (blk_ne BA7.out F27.out (by decide)) _⟩, ⟨Kd.R_set HG7.out F27.out (by decide) 0 _⟩, ⟨blk_far (p := ⟨w.heap.size + 1 + 1, 0, none⟩) F07.out n01 _⟩, ⟨blk_far (p := ⟨w.heap.size + 1 + 1, 0, none⟩) F17.out n12 _⟩, ⟨HB7.out.setCell (Nat.le_trans (Nat.le_succ _) (Nat.le_succ _)) _⟩⟩
         rw [hsn.out, HY.out]
         exact Kd.R_set HO7.out F27.out (by decide) 0 _
        case measure => have := HX.out; simp [intOf]; omega
       ·have hcx : c.getD x false = false := by simpa using hcx
        rw [hcx] at hix
        have hsn := Aside0.mk (chOut_no a c x hcx)
        have HX := Aside0.mk hlt
        clear hcx
        go_wp2_with (fail)
        go_roundw
        case rel => exact ⟨x + 1, vc, by have := HX.out; omega, by go_num, F2, ⟨by rw [hsn.out]; exact HO.out⟩, BA, HG, F0, F1, HB⟩
        case measure => have := HX.out; simp [intOf]; omega
      ·obtain rfl : x = 32 := by omega
       clear hlt hx
       obtain ⟨Ag, cg, eg⟩ := Kd.R_slice HG.out
       subst eg
       obtain ⟨Av, cv, ev⟩ := Kd.R_slice HO.out
       subst ev
       have xg : wr.cell? ⟨gd, 64, none⟩ = some (.slice Ag g.length cg) := (blk_cell BA.out 64).trans (dCells_got HAC.out.1 HAC.out.2.1)
       have xb : wr.cell? ⟨w.heap.size + 1 + 1, 0, none⟩ = some (.slice Av (chOut a c 32).length cv) := (blk_cell F2.out 0).trans rfl
       have x0 : wr.cell? ⟨w.heap.size, 0, none⟩ = some (.int .i64 0) := (blk_cell F0.out 0).trans rfl
       have x1 : wr.cell? ⟨w.heap.size + 1, 0, none⟩ = some (.slice none 0 0) := (blk_cell F1.out 0).trans rfl
       have z0 := blk_frozen F0.out 0
       have z1 := blk_frozen F1.out 0
       have z2 := blk_frozen F2.out 0
       go_wp2_with (fail)
       refine wp_calm ?_
       go_region
       simp only [calm]
       have n01 : w.heap.size ≠ w.heap.size + 1 := by omega
       have n02 : w.heap.size ≠ w.heap.size + 1 + 1 := by omega
       have n12 : w.heap.size + 1 ≠ w.heap.size + 1 + 1 := by omega
       have D0 := blk_drew (blk_far (p := ⟨w.heap.size + 1 + 1, 0, none⟩) (blk_far (p := ⟨w.heap.size + 1, 0, none⟩) (blk_put F0.out 0 (.int .i64 0) rfl) n01 (.slice Ag g.length cg)) n02 (.slice Av (chOut a c 32).length cv))
       have D1 := blk_drew (blk_far (p := ⟨w.heap.size + 1 + 1, 0, none⟩) (blk_put (blk_far (p := ⟨w.heap.size, 0, none⟩) F1.out (Ne.symm n01) (.int .i64 0)) 0 (.slice Ag g.length cg) rfl) n12 (.slice Av (chOut a c 32).length cv))
       have D2 := blk_drew (blk_put (blk_far (p := ⟨w.heap.size + 1, 0, none⟩) (blk_far (p := ⟨w.heap.size, 0, none⟩) F2.out (Ne.symm n02) (.int .i64 0)) (Ne.symm n12) (.slice Ag g.length cg)) 0 (.slice Av (chOut a c 32).length cv) rfl)
       have K0 := Kd.R_far (p := ⟨w.heap.size, 0, none⟩) HG.out (fun k hk => by show k ≠ w.heap.size; omega) (.int .i64 0)
       have K1 := Kd.R_far (p := ⟨w.heap.size + 1, 0, none⟩) K0 (fun k hk => by show k ≠ w.heap.size + 1; omega) (.slice Ag g.length cg)
       have K2 := Kd.R_drew (Kd.R_far (p := ⟨w.heap.size + 1 + 1, 0, none⟩) K1 (fun k hk => by show k ≠ w.heap.size + 1 + 1; omega) (.slice Av (chOut a c 32).length cv))
       have E0 := Kd.R_set HO.out F0.out (by decide) 0 (.int .i64 0)
       have E1 := Kd.R_set E0 (blk_far (p := ⟨w.heap.size, 0, none⟩) F1.out (Ne.symm n01) (.int .i64 0)) (by decide) 0 (.slice Ag g.length cg)
       have E2 := Kd.R_drew (Kd.R_set E1 (blk_far (p := ⟨w.heap.size + 1, 0, none⟩) (blk_far (p := ⟨w.heap.size, 0, none⟩) F2.out (Ne.symm n02) (.int .i64 0)) (Ne.symm n12) (.slice Ag g.length cg)) (by decide) 0 (.slice Av (chOut a c 32).length cv))
       have L9 := below_drew (((HB.out.setCell (p := ⟨w.heap.size, 0, none⟩) (Nat.le_refl _) (.int .i64 0)).setCell (p := ⟨w.heap.size + 1, 0, none⟩) (Nat.le_succ _) (.slice Ag g.length cg)).setCell (p := ⟨w.heap.size + 1 + 1, 0, none⟩) (Nat.le_trans (Nat.le_succ _) (Nat.le_succ _)) (.slice Av (chOut a c 32).length cv))
       generalize (((wr.setCell ⟨w.heap.size, 0, none⟩ (.int .i64 0)).setCell ⟨w.heap.size + 1, 0, none⟩ (.slice Ag g.length cg)).setCell ⟨w.heap.size + 1 + 1, 0, none⟩ (.slice Av (chOut a c 32).length cv)).drew = W9 at D0 D1 D2 K2 E2 L9 ⊢
       clear x0 x1 xg xb z0 z1 z2 K0 K1 E0 E1
       replace D0 := Aside0.mk D0
       replace D1 := Aside0.mk D1
       replace D2 := Aside0.mk D2
       replace K2 := Aside0.mk K2
       replace E2 := Aside0.mk E2
       replace L9 := Aside0.mk L9
       go_wp2_with (fail)
       refine leaves_cons (f := 54) (args := #[.pointer (some ⟨w.heap.size, 0, none⟩), .pointer (some ⟨w.heap.size + 1, 0, none⟩), .pointer (some ⟨w.heap.size + 1 + 1, 0, none⟩)]) (by simp) (by simp [go_sem]) ?_
       refine (run1_idle _ _ _ _).mono ?_
       rintro e u' w6 ⟨rfl, rfl, rfl⟩
       refine ⟨_, results_three rfl _ _ rfl rfl rfl D0.out D1.out D2.out, ?_⟩
       have hro : runOut l0 l1 = (0, g, chOut a c 32) := by
        unfold runOut
        rw [HQ0.out, HRUN.out]
        rfl
       rw [hro]
       exact ⟨_, _, rfl, Kd.R_mono K2.out (fun _ _ => trivial), E2.out, L9.out⟩
def impl_DealRun.f (k : Nat) (l0 : List (S46)) (l1 : List (S48)) : Option (Int × List Int × (List (S48))) := if dealOk l0 = true then (impl_pairsOk.f k l1).bind fun b => (if b = true then (if prKeysIn l1 = true then some (runOut l0 l1) else none) else some (9, [], [])) else some (9, [], [])
theorem impl_DealRun.mono : ∀ a0 a1 k, LeO (impl_DealRun.f k a0 a1) (impl_DealRun.f (k + 1) a0 a1) := by
 intro a0 a1 k
 unfold impl_DealRun.f
 repeat' first
  | (with_reducible exact impl_pairsOk.mono _ _)
  | (with_reducible exact LeO.refl _)
  | (with_reducible exact LeO.none _)
  | (with_reducible refine LeO.ite ?_ ?_)
  | (with_reducible refine LeO.bind ?_ (fun _ => ?_))
  | exact impl_pairsOk.mono _ _
  | exact LeO.none _
  | refine LeO.ite ?_ ?_
  | refine LeO.bind ?_ (fun _ => ?_)
set_option maxHeartbeats 8000000 in
set_option maxRecDepth 100000 in
theorem impl_DealRun.calls (k : Nat) (A0 : Option Addr) (c0 : Nat) (l0 : List (S46)) (A1 : Option Addr) (c1 : Nat) (l1 : List (S48)) (r1 : Int) (r2 : List Int) (r3 : List (S48)) (w : World) (hr0 : Kd.C k46 w A0 l0.length l0) (hc0 : l0.length ≤ c0) (hr1 : Kd.C k48 w A1 l1.length l1) (hc1 : l1.length ≤ c1) (h : impl_DealRun.f k l0 l1 = some (r1, r2, r3)) :
 Calls Try.prog 22 #[.slice A0 l0.length c0, .slice A1 l1.length c1] w fun e w' => ∃ v1_ v2_ : Value, e = .returned (.tuple #[.int .i64 r1, v1_, v2_]) ∧ Kd.R (Kd.int .i64) 3 w' w.heap.size (fun _ => True) v1_ r2 ∧ Kd.R k48 48 w' w.heap.size (fun _ => True) v2_ r3 ∧ Below w.heap.size w w' := by
 unfold impl_DealRun.f at h
 by_cases hd : dealOk l0 = true
 ·rw [if_pos hd] at h
  obtain ⟨b, hb, h⟩ := Option.bind_eq_some_iff.mp h
  cases b with
  | false =>
   rw [if_neg (by decide)] at h
   simp only [Option.some.injEq, Prod.mk.injEq] at h
   obtain ⟨rfl, rfl, rfl⟩ := h
   refine (DealRun_bad2 k A0 c0 l0 A1 c1 l1 w hr0 hc0 hr1 hc1 hd hb).mono ?_
   rintro e w' ⟨rfl, hB⟩
   exact ⟨_, _, rfl, Kd.R_nil _ _ _ _ _, Kd.R_nil _ _ _ _ _, hB⟩
  | true =>
   rw [if_pos rfl] at h
   by_cases hq : prKeysIn l1 = true
   ·rw [if_pos hq] at h
    have hm := Option.some.inj h
    have := DealRun_yes k A0 c0 l0 A1 c1 l1 w hr0 hc0 hr1 hc1 hd hb hq
    rw [hm] at this
    exact this
   ·rw [if_neg hq] at h
    cases h
 ·rw [if_neg hd] at h
  simp only [Option.some.injEq, Prod.mk.injEq] at h
  obtain ⟨rfl, rfl, rfl⟩ := h
  refine (DealRun_bad1 A0 c0 l0 (.slice A1 l1.length c1) w hr0 hc0 (by simpa using hd)).mono ?_
  rintro e w' ⟨rfl, hB⟩
  exact ⟨_, _, rfl, Kd.R_nil _ _ _ _ _, Kd.R_nil _ _ _ _ _, hB⟩

end Go.Proofs.Ytdjiclhjficgfaa.PX
