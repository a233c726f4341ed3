import Derived.Test.YtdjiclhjficgfaaPXx0
namespace Go.Proofs.Ytdjiclhjficgfaa.PX
open Go.RowKit Go.Proofs.YtdjiclhjficgfaaW.PrintWords Go.Proofs.YtdjiclhjficgfaaW.PrintLast Go.Proofs.YtdjiclhjficgfaaW.PrintMore
attribute [local go_sem] max2_int min2_int max_two min_two max_three min_three max_four min_four
set_option linter.unusedVariables false
set_option linter.unusedSimpArgs false

def prOut (a : List Int) (k : Nat) : List S48 := ((List.range k).filter (fun j => a.getD j 0 != 0)).map (fun j : Nat => (⟨(j : Int), a.getD j 0⟩ : S48))
theorem run_index_arr {P : Program} (W : World) (t e : TypeId) (n : Nat) (cs : Array Value) (v : Value) (j : Nat) (ht : P.underlying t = some (.array n e)) (he : P.underlying e = some (.int .i64))
 (hi : (P.info? e).map (fun i => (i.zero, i.size, i.bytes)) = some (some (.int .i64 0), 1, 8)) (hj : j < n) (hv : cs[j]? = some v) : (Instr.index t (.agg cs) (.int .i64 (j : Int))).run P W = .ok v W := by
 obtain ⟨i0, hi0, hzz⟩ := Option.map_eq_some_iff.1 hi
 simp only [Prod.mk.injEq] at hzz
 have hj' : (0 : Int) ≤ (j : Int) ∧ (j : Int) < (n : Int) := by omega
 have hnj : ¬ n ≤ j := by omega
 simp [Instr.index, asIntOf, run_underlying ht, run_underlying he, hj', hnj, part, isAgg, sizeOf, typeInfo, hi0, hzz.2.1, hv]
theorem prOut_succ (a : List Int) (k : Nat) : prOut a (k + 1) = prOut a k ++ (if a.getD k 0 != 0 then [⟨(k : Int), a.getD k 0⟩] else []) := by
 unfold prOut
 rw [List.range_succ, List.filter_append, List.map_append]
 congr 1
 by_cases h : a[k]?.getD 0 = 0 <;> simp [h]
theorem prOut_zero (a : List Int) (k : Nat) (h : a.getD k 0 = 0) : prOut a (k + 1) = prOut a k := by
 rw [prOut_succ, h]; simp
theorem prOut_one (a : List Int) (k : Nat) (h : ¬ a.getD k 0 = 0) : prOut a (k + 1) = prOut a k ++ [⟨(k : Int), a.getD k 0⟩] := by
 rw [prOut_succ, if_pos (bne_iff_ne.mpr h)]
theorem prOut_length (a : List Int) (k : Nat) : (prOut a k).length ≤ k := by
 unfold prOut
 rw [List.length_map]
 exact Nat.le_trans (List.length_filter_le _ _) (by simp)
def prPutAll (a : List Int) (l : List S48) : List Int := l.foldl (fun a p => a.set p.f0.toNat p.f1) a
def prZeros : List Int := [0, 0, 0, 0, 0, 0, 0, 0, 0, 0, 0, 0, 0, 0, 0, 0, 0, 0, 0, 0, 0, 0, 0, 0, 0, 0, 0, 0, 0, 0, 0, 0]
def prKeysIn (l : List S48) : Bool := l.all (fun p => decide (0 ≤ p.f0 ∧ p.f0 < 32))
theorem prPutAll_length (a : List Int) (l : List S48) : (prPutAll a l).length = a.length := by
 unfold prPutAll
 induction l generalizing a with
 | nil => rfl
 | cons p l ih => simp [ih]
theorem prPutAll_snoc (a : List Int) (l : List S48) (k : Nat) (h : k < l.length) : prPutAll a (l.take (k + 1)) = (prPutAll a (l.take k)).set (rd_T48 l k).f0.toNat (rd_T48 l k).f1 := by
 unfold prPutAll
 rw [List.take_succ_eq_append_getElem h, List.foldl_append]
 simp [rd_T48, List.getD_eq_getElem?_getD, List.getElem?_eq_getElem h]
theorem prKeysIn_at {l : List S48} (h : prKeysIn l = true) (k : Nat) (hk : k < l.length) : 0 ≤ (rd_T48 l k).f0 ∧ (rd_T48 l k).f0 < 32 := by
 have := List.all_eq_true.1 h (l[k]) (List.getElem_mem hk)
 simpa [rd_T48, List.getD_eq_getElem?_getD, List.getElem?_eq_getElem hk] using this

end Go.Proofs.Ytdjiclhjficgfaa.PX
