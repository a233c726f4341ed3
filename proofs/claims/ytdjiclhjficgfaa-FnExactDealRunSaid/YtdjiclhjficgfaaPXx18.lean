-- Written by a program of this workplace (wip/xprint.py over the kit's print.py) out of the translation.
import Derived.Test.YtdjiclhjficgfaaPXx0
import Derived.Test.YtdjiclhjficgfaaPXx3
import Derived.Test.YtdjiclhjficgfaaPXx4
import Derived.Test.YtdjiclhjficgfaaPXx5
import Derived.Test.YtdjiclhjficgfaaPXx7
import Derived.Test.YtdjiclhjficgfaaPXx10
import Derived.Test.YtdjiclhjficgfaaPXx11
import Derived.Test.YtdjiclhjficgfaaPXx12
import Derived.Test.YtdjiclhjficgfaaPXx13
import Derived.Test.YtdjiclhjficgfaaPXx14
import Derived.Test.YtdjiclhjficgfaaPXx15
import Derived.Test.YtdjiclhjficgfaaPXx16
import Derived.Test.YtdjiclhjficgfaaPXx17
namespace Go.Proofs.Ytdjiclhjficgfaa.PX
open Go.RowKit Go.Proofs.YtdjiclhjficgfaaW.PrintWords Go.Proofs.YtdjiclhjficgfaaW.PrintLast Go.Proofs.YtdjiclhjficgfaaW.PrintMore
attribute [local go_sem] max2_int min2_int max_two min_two max_three min_three max_four min_four   -- for this text's walks alone
set_option linter.unusedVariables false
set_option linter.unusedSimpArgs false

/-! ### laws_FnExactDealRun: function 4 -/
mutual
def laws_FnExactDealRun.j0 : Nat → List (S72) → List (S80) → Int → List Int → List (S48) → List (S46) → List (S48) → Int → List Int → List (S48) → Bool → Option (Bool)
  | 0, _, _, _, _, _, _, _, _, _, _, _ => none
  | k + 1, x0, x1, x6, x7, x8, x9, x10, x11, x12, x13, x64 => if x64 = true then (some false) else ((laws_toStatementS.f k x0).bind fun t50031 => ((laws_eqStatementS.f k x9 t50031).bind fun t50034 => (if t50034 = true then ((laws_toPairS.f k x1).bind fun t50035 => ((laws_eqPairS.f k x10 t50035).bind fun t50038 => (if t50038 = true then ((laws_markStatementS.f k x9 1).bind fun bt50039 => ((laws_markPairS.f k x10 bt50039.1).bind fun bt50041 => (if bt50041.1 < 0 then (laws_FnExactDealRun.j1 k x0 x1 x6 x7 x8 x12 x13 true) else (if x11 = x6 then ((laws_eqIntS.f k x12 x7).bind fun t50043 => (if t50043 = true then ((laws_eqPairS.f k x13 x8).bind fun t50044 => (laws_FnExactDealRun.j1 k x0 x1 x6 x7 x8 x12 x13 (!t50044))) else (laws_FnExactDealRun.j1 k x0 x1 x6 x7 x8 x12 x13 true))) else (laws_FnExactDealRun.j1 k x0 x1 x6 x7 x8 x12 x13 true))))) else (some false)))) else (some false))))
def laws_FnExactDealRun.j1 : Nat → List (S72) → List (S80) → Int → List Int → List (S48) → List Int → List (S48) → Bool → Option (Bool)
  | 0, _, _, _, _, _, _, _, _ => none
  | k + 1, x0, x1, x6, x7, x8, x12, x13, x99 => if x99 = true then (some false) else ((laws_markIntS.f k x12 1).bind fun bt50045 => ((laws_markPairS.f k x13 bt50045.1).bind fun bt50047 => ((laws_heldIntS.f k bt50045.2 1).bind fun t50049 => (if t50049 < 0 then (some false) else ((laws_heldPairS.f k bt50047.2 t50049).bind fun t50050 => (if t50050 < 0 then (some false) else (if t50050 = bt50047.1 then ((laws_toStatementS.f k x0).bind fun t50051 => ((laws_toPairS.f k x1).bind fun t50054 => ((impl_DealRun.f k t50051 t50054).bind fun bt50057 => (if bt50057.1 = x6 then ((laws_eqIntS.f k bt50057.2.1 x7).bind fun t50064 => (if t50064 = true then ((laws_eqPairS.f k bt50057.2.2 x8).bind fun t50065 => (laws_FnExactDealRun.j2 k bt50045.2 bt50047.2 bt50047.1 (!t50065))) else (laws_FnExactDealRun.j2 k bt50045.2 bt50047.2 bt50047.1 true))) else (laws_FnExactDealRun.j2 k bt50045.2 bt50047.2 bt50047.1 true))))) else (some false))))))))
def laws_FnExactDealRun.j2 : Nat → List Int → List (S48) → Int → Bool → Option (Bool)
  | 0, _, _, _, _ => none
  | k + 1, x12, x13, x15, x142 => if x142 = true then (some false) else ((laws_heldIntS.f k x12 1).bind fun t50066 => (if t50066 < 0 then (some false) else ((laws_heldPairS.f k x13 t50066).bind fun t50067 => (if t50067 < 0 then (some false) else (if t50067 = x15 then (some true) else (some false))))))
end
def laws_FnExactDealRun.f (k : Nat) (l0 : List (S72)) (l1 : List (S80)) : Option (Bool) := (laws_szStatementS.f l0 1048576).bind fun t50001 => (if t50001 < 0 then (some true) else ((laws_szPairS.f l1 t50001).bind fun t50002 => (if t50002 < 0 then (some true) else ((laws_toStatementS.f k l0).bind fun t50003 => ((laws_toPairS.f k l1).bind fun t50006 => ((spec_DealRun.f k t50003 t50006).bind fun bt50009 => ((laws_toStatementS.f k l0).bind fun t50016 => ((laws_toPairS.f k l1).bind fun t50019 => ((impl_DealRun.f k t50016 t50019).bind fun bt50022 => (if bt50022.1 = bt50009.1 then ((laws_eqIntS.f k bt50022.2.1 bt50009.2.1).bind fun t50029 => (if t50029 = true then ((laws_eqPairS.f k bt50022.2.2 bt50009.2.2).bind fun t50030 => (laws_FnExactDealRun.j0 k l0 l1 bt50009.1 bt50009.2.1 bt50009.2.2 t50016 t50019 bt50022.1 bt50022.2.1 bt50022.2.2 (!t50030))) else (laws_FnExactDealRun.j0 k l0 l1 bt50009.1 bt50009.2.1 bt50009.2.2 t50016 t50019 bt50022.1 bt50022.2.1 bt50022.2.2 true))) else (laws_FnExactDealRun.j0 k l0 l1 bt50009.1 bt50009.2.1 bt50009.2.2 t50016 t50019 bt50022.1 bt50022.2.1 bt50022.2.2 true)))))))))))
theorem laws_FnExactDealRun.mono_l : ∀ k, (∀ y0 y1 y2 y3 y4 y5 y6 y7 y8 y9 y10, LeO (laws_FnExactDealRun.j0 k y0 y1 y2 y3 y4 y5 y6 y7 y8 y9 y10) (laws_FnExactDealRun.j0 (k + 1) y0 y1 y2 y3 y4 y5 y6 y7 y8 y9 y10)) ∧ (∀ y0 y1 y2 y3 y4 y5 y6 y7, LeO (laws_FnExactDealRun.j1 k y0 y1 y2 y3 y4 y5 y6 y7) (laws_FnExactDealRun.j1 (k + 1) y0 y1 y2 y3 y4 y5 y6 y7)) ∧ (∀ y0 y1 y2 y3, LeO (laws_FnExactDealRun.j2 k y0 y1 y2 y3) (laws_FnExactDealRun.j2 (k + 1) y0 y1 y2 y3))
  | 0 => ⟨fun _ _ _ _ _ _ _ _ _ _ _ r h => by simp [laws_FnExactDealRun.j0] at h, fun _ _ _ _ _ _ _ _ r h => by simp [laws_FnExactDealRun.j1] at h, fun _ _ _ _ r h => by simp [laws_FnExactDealRun.j2] at h⟩
  | k + 1 => by
    obtain ⟨ih0, ih1, ih2⟩ := laws_FnExactDealRun.mono_l k
    refine ⟨?_, ?_, ?_⟩
    · intro y0 y1 y2 y3 y4 y5 y6 y7 y8 y9 y10
      unfold laws_FnExactDealRun.j0
      repeat' first
      | (with_reducible exact ih0 _ _ _ _ _ _ _ _ _ _ _)
      | (with_reducible exact ih1 _ _ _ _ _ _ _ _)
      | (with_reducible exact ih2 _ _ _ _)
      | (with_reducible exact impl_DealRun.mono _ _ _)
      | (with_reducible exact laws_eqIntS.mono _ _ _)
      | (with_reducible exact laws_eqPairS.mono _ _ _)
      | (with_reducible exact laws_eqStatementS.mono _ _ _)
      | (with_reducible exact laws_heldIntS.mono _ _ _)
      | (with_reducible exact laws_heldPairS.mono _ _ _)
      | (with_reducible exact laws_markIntS.mono _ _ _)
      | (with_reducible exact laws_markPairS.mono _ _ _)
      | (with_reducible exact laws_markStatementS.mono _ _ _)
      | (with_reducible exact laws_toPairS.mono _ _)
      | (with_reducible exact laws_toStatementS.mono _ _)
      | (with_reducible exact spec_DealRun.mono _ _ _)
      | (with_reducible exact LeO.refl _)
      | (with_reducible exact LeO.none _)
      | (with_reducible refine LeO.ite ?_ ?_)
      | (with_reducible refine LeO.bind ?_ (fun _ => ?_))
      | exact ih0 _ _ _ _ _ _ _ _ _ _ _
      | exact ih1 _ _ _ _ _ _ _ _
      | exact ih2 _ _ _ _
      | exact impl_DealRun.mono _ _ _
      | exact laws_eqIntS.mono _ _ _
      | exact laws_eqPairS.mono _ _ _
      | exact laws_eqStatementS.mono _ _ _
      | exact laws_heldIntS.mono _ _ _
      | exact laws_heldPairS.mono _ _ _
      | exact laws_markIntS.mono _ _ _
      | exact laws_markPairS.mono _ _ _
      | exact laws_markStatementS.mono _ _ _
      | exact laws_toPairS.mono _ _
      | exact laws_toStatementS.mono _ _
      | exact spec_DealRun.mono _ _ _
      | exact LeO.none _
      | refine LeO.ite ?_ ?_
      | refine LeO.bind ?_ (fun _ => ?_)
    · intro y0 y1 y2 y3 y4 y5 y6 y7
      unfold laws_FnExactDealRun.j1
      repeat' first
      | (with_reducible exact ih0 _ _ _ _ _ _ _ _ _ _ _)
      | (with_reducible exact ih1 _ _ _ _ _ _ _ _)
      | (with_reducible exact ih2 _ _ _ _)
      | (with_reducible exact impl_DealRun.mono _ _ _)
      | (with_reducible exact laws_eqIntS.mono _ _ _)
      | (with_reducible exact laws_eqPairS.mono _ _ _)
      | (with_reducible exact laws_eqStatementS.mono _ _ _)
      | (with_reducible exact laws_heldIntS.mono _ _ _)
      | (with_reducible exact laws_heldPairS.mono _ _ _)
      | (with_reducible exact laws_markIntS.mono _ _ _)
      | (with_reducible exact laws_markPairS.mono _ _ _)
      | (with_reducible exact laws_markStatementS.mono _ _ _)
      | (with_reducible exact laws_toPairS.mono _ _)
      | (with_reducible exact laws_toStatementS.mono _ _)
      | (with_reducible exact spec_DealRun.mono _ _ _)
      | (with_reducible exact LeO.refl _)
      | (with_reducible exact LeO.none _)
      | (with_reducible refine LeO.ite ?_ ?_)
      | (with_reducible refine LeO.bind ?_ (fun _ => ?_))
      | exact ih0 _ _ _ _ _ _ _ _ _ _ _
      | exact ih1 _ _ _ _ _ _ _ _
      | exact ih2 _ _ _ _
      | exact impl_DealRun.mono _ _ _
      | exact laws_eqIntS.mono _ _ _
      | exact laws_eqPairS.mono _ _ _
      | exact laws_eqStatementS.mono _ _ _
      | exact laws_heldIntS.mono _ _ _
      | exact laws_heldPairS.mono _ _ _
      | exact laws_markIntS.mono _ _ _
      | exact laws_markPairS.mono _ _ _
      | exact laws_markStatementS.mono _ _ _
      | exact laws_toPairS.mono _ _
      | exact laws_toStatementS.mono _ _
      | exact spec_DealRun.mono _ _ _
      | exact LeO.none _
      | refine LeO.ite ?_ ?_
      | refine LeO.bind ?_ (fun _ => ?_)
    · intro y0 y1 y2 y3
      unfold laws_FnExactDealRun.j2
      repeat' first
      | (with_reducible exact ih0 _ _ _ _ _ _ _ _ _ _ _)
      | (with_reducible exact ih1 _ _ _ _ _ _ _ _)
      | (with_reducible exact ih2 _ _ _ _)
      | (with_reducible exact impl_DealRun.mono _ _ _)
      | (with_reducible exact laws_eqIntS.mono _ _ _)
      | (with_reducible exact laws_eqPairS.mono _ _ _)
      | (with_reducible exact laws_eqStatementS.mono _ _ _)
      | (with_reducible exact laws_heldIntS.mono _ _ _)
      | (with_reducible exact laws_heldPairS.mono _ _ _)
      | (with_reducible exact laws_markIntS.mono _ _ _)
      | (with_reducible exact laws_markPairS.mono _ _ _)
      | (with_reducible exact laws_markStatementS.mono _ _ _)
      | (with_reducible exact laws_toPairS.mono _ _)
      | (with_reducible exact laws_toStatementS.mono _ _)
      | (with_reducible exact spec_DealRun.mono _ _ _)
      | (with_reducible exact LeO.refl _)
      | (with_reducible exact LeO.none _)
      | (with_reducible refine LeO.ite ?_ ?_)
      | (with_reducible refine LeO.bind ?_ (fun _ => ?_))
      | exact ih0 _ _ _ _ _ _ _ _ _ _ _
      | exact ih1 _ _ _ _ _ _ _ _
      | exact ih2 _ _ _ _
      | exact impl_DealRun.mono _ _ _
      | exact laws_eqIntS.mono _ _ _
      | exact laws_eqPairS.mono _ _ _
      | exact laws_eqStatementS.mono _ _ _
      | exact laws_heldIntS.mono _ _ _
      | exact laws_heldPairS.mono _ _ _
      | exact laws_markIntS.mono _ _ _
      | exact laws_markPairS.mono _ _ _
      | exact laws_markStatementS.mono _ _ _
      | exact laws_toPairS.mono _ _
      | exact laws_toStatementS.mono _ _
      | exact spec_DealRun.mono _ _ _
      | exact LeO.none _
      | refine LeO.ite ?_ ?_
      | refine LeO.bind ?_ (fun _ => ?_)
theorem laws_FnExactDealRun.mono : ∀ a0 a1 k, LeO (laws_FnExactDealRun.f k a0 a1) (laws_FnExactDealRun.f (k + 1) a0 a1) := by
  intro a0 a1 k
  obtain ⟨ih0, ih1, ih2⟩ := laws_FnExactDealRun.mono_l k
  unfold laws_FnExactDealRun.f
  repeat' first
      | (with_reducible exact ih0 _ _ _ _ _ _ _ _ _ _ _)
      | (with_reducible exact ih1 _ _ _ _ _ _ _ _)
      | (with_reducible exact ih2 _ _ _ _)
      | (with_reducible exact impl_DealRun.mono _ _ _)
      | (with_reducible exact laws_eqIntS.mono _ _ _)
      | (with_reducible exact laws_eqPairS.mono _ _ _)
      | (with_reducible exact laws_eqStatementS.mono _ _ _)
      | (with_reducible exact laws_heldIntS.mono _ _ _)
      | (with_reducible exact laws_heldPairS.mono _ _ _)
      | (with_reducible exact laws_markIntS.mono _ _ _)
      | (with_reducible exact laws_markPairS.mono _ _ _)
      | (with_reducible exact laws_markStatementS.mono _ _ _)
      | (with_reducible exact laws_toPairS.mono _ _)
      | (with_reducible exact laws_toStatementS.mono _ _)
      | (with_reducible exact spec_DealRun.mono _ _ _)
      | (with_reducible exact LeO.refl _)
      | (with_reducible exact LeO.none _)
      | (with_reducible refine LeO.ite ?_ ?_)
      | (with_reducible refine LeO.bind ?_ (fun _ => ?_))
      | exact ih0 _ _ _ _ _ _ _ _ _ _ _
      | exact ih1 _ _ _ _ _ _ _ _
      | exact ih2 _ _ _ _
      | exact impl_DealRun.mono _ _ _
      | exact laws_eqIntS.mono _ _ _
      | exact laws_eqPairS.mono _ _ _
      | exact laws_eqStatementS.mono _ _ _
      | exact laws_heldIntS.mono _ _ _
      | exact laws_heldPairS.mono _ _ _
      | exact laws_markIntS.mono _ _ _
      | exact laws_markPairS.mono _ _ _
      | exact laws_markStatementS.mono _ _ _
      | exact laws_toPairS.mono _ _
      | exact laws_toStatementS.mono _ _
      | exact spec_DealRun.mono _ _ _
      | exact LeO.none _
      | refine LeO.ite ?_ ?_
      | refine LeO.bind ?_ (fun _ => ?_)
set_option maxHeartbeats 8000000 in
set_option maxRecDepth 100000 in
theorem laws_FnExactDealRun.calls (k : Nat) (A0 : Option Addr) (c0 : Nat) (l0 : List (S72)) (A1 : Option Addr) (c1 : Nat) (l1 : List (S80)) (r : Bool) (w : World) (hr0 : Kd.C k72 w A0 l0.length l0) (hc0 : l0.length ≤ c0) (hr1 : Kd.C k80 w A1 l1.length l1) (hc1 : l1.length ≤ c1) (hr_ : r = true) (h : laws_FnExactDealRun.f k l0 l1 = some r) :
    Calls Try.prog 4 #[.slice A0 l0.length c0, .slice A1 l1.length c1] w fun e w' => e = .returned (.bool r) ∧ Below w.heap.size w w' := by
  subst hr_
  have HR0 := Aside0.mk hr0
  have HC0 := Aside0.mk hc0
  clear hr0 hc0
  have HR1 := Aside0.mk hr1
  have HC1 := Aside0.mk hc1
  clear hr1 hc1
  have HB := Aside0.mk (Below.refl w.heap.size w)
  have H : ((laws_szStatementS.f l0 1048576).bind fun t50001 => (if t50001 < 0 then (some true) else ((laws_szPairS.f l1 t50001).bind fun t50002 => (if t50002 < 0 then (some true) else ((laws_toStatementS.f k l0).bind fun t50003 => ((laws_toPairS.f k l1).bind fun t50006 => ((spec_DealRun.f k t50003 t50006).bind fun bt50009 => ((laws_toStatementS.f k l0).bind fun t50016 => ((laws_toPairS.f k l1).bind fun t50019 => ((impl_DealRun.f k t50016 t50019).bind fun bt50022 => (if bt50022.1 = bt50009.1 then ((laws_eqIntS.f k bt50022.2.1 bt50009.2.1).bind fun t50029 => (if t50029 = true then ((laws_eqPairS.f k bt50022.2.2 bt50009.2.2).bind fun t50030 => (laws_FnExactDealRun.j0 k l0 l1 bt50009.1 bt50009.2.1 bt50009.2.2 t50016 t50019 bt50022.1 bt50022.2.1 bt50022.2.2 (!t50030))) else (laws_FnExactDealRun.j0 k l0 l1 bt50009.1 bt50009.2.1 bt50009.2.2 t50016 t50019 bt50022.1 bt50022.2.1 bt50022.2.2 true))) else (laws_FnExactDealRun.j0 k l0 l1 bt50009.1 bt50009.2.1 bt50009.2.2 t50016 t50019 bt50022.1 bt50022.2.1 bt50022.2.2 true)))))))))))) = some true := h
  clear h
  replace H := Option.bind_eq_some_iff.mp H
  obtain ⟨t50001, A30, H⟩ := H
  replace H : (if t50001 < 0 then (some true) else ((laws_szPairS.f l1 t50001).bind fun t50002 => (if t50002 < 0 then (some true) else ((laws_toStatementS.f k l0).bind fun t50003 => ((laws_toPairS.f k l1).bind fun t50006 => ((spec_DealRun.f k t50003 t50006).bind fun bt50009 => ((laws_toStatementS.f k l0).bind fun t50016 => ((laws_toPairS.f k l1).bind fun t50019 => ((impl_DealRun.f k t50016 t50019).bind fun bt50022 => (if bt50022.1 = bt50009.1 then ((laws_eqIntS.f k bt50022.2.1 bt50009.2.1).bind fun t50029 => (if t50029 = true then ((laws_eqPairS.f k bt50022.2.2 bt50009.2.2).bind fun t50030 => (laws_FnExactDealRun.j0 k l0 l1 bt50009.1 bt50009.2.1 bt50009.2.2 t50016 t50019 bt50022.1 bt50022.2.1 bt50022.2.2 (!t50030))) else (laws_FnExactDealRun.j0 k l0 l1 bt50009.1 bt50009.2.1 bt50009.2.2 t50016 t50019 bt50022.1 bt50022.2.1 bt50022.2.2 true))) else (laws_FnExactDealRun.j0 k l0 l1 bt50009.1 bt50009.2.1 bt50009.2.2 t50016 t50019 bt50022.1 bt50022.2.1 bt50022.2.2 true))))))))))) = some true := H
  have A3 := Aside0.mk A30
  clear A30
  by_cases c4 : t50001 < 0
  · rw [if_pos c4] at H
    have c4b0 : decide (t50001 < 0) = true := decide_eq_true c4
    clear c4
    clear H
    go_enter Try.func4, Try.ntmps4
    go_wp2_with (first | ((with_reducible refine gate_callee (f := 14) rfl ?_); refine goesL_ (some 22) rfl rfl Try.func14 (by kernel_rfl) rfl #[.slice A0 l0.length c0, .int .i64 1048576] rfl (by (try simp only [List.map_toArray, List.map_cons, List.map_nil]); first | done | rfl | (simp only [List.length_drop, List.length_take]; rfl)) ?_; (with_reducible refine (laws_szStatementS.calls _ _ l0 1048576 t50001 _ ?side1 ?side2 A3.out).mono ?_); (case side1 => repeat (first | exact HR0.out | (with_reducible refine Kd.C_alloc ?_ _) | (with_reducible refine Kd.C_drewN ?_ _) | (with_reducible refine Kd.C_drew ?_))); (case side2 => exact HC0.out); rintro e w' ⟨rfl, ⟨nd, rfl⟩⟩; refine ⟨_, rfl, ?_⟩))
    go_ret
    exact ⟨by first | rfl | (simp [errW_none, errW_some] <;> rfl) | (simp [*, errW_none, errW_some] <;> rfl), by repeat (first | (with_reducible first | exact HB.out | apply below_alloc | apply pw_below_drewN | apply below_drew1) | exact HB.out)⟩
  · rw [if_neg c4] at H
    have c4b0 : decide (t50001 < 0) = false := decide_eq_false c4
    clear c4
    replace H := Option.bind_eq_some_iff.mp H
    obtain ⟨t50002, A50, H⟩ := H
    replace H : (if t50002 < 0 then (some true) else ((laws_toStatementS.f k l0).bind fun t50003 => ((laws_toPairS.f k l1).bind fun t50006 => ((spec_DealRun.f k t50003 t50006).bind fun bt50009 => ((laws_toStatementS.f k l0).bind fun t50016 => ((laws_toPairS.f k l1).bind fun t50019 => ((impl_DealRun.f k t50016 t50019).bind fun bt50022 => (if bt50022.1 = bt50009.1 then ((laws_eqIntS.f k bt50022.2.1 bt50009.2.1).bind fun t50029 => (if t50029 = true then ((laws_eqPairS.f k bt50022.2.2 bt50009.2.2).bind fun t50030 => (laws_FnExactDealRun.j0 k l0 l1 bt50009.1 bt50009.2.1 bt50009.2.2 t50016 t50019 bt50022.1 bt50022.2.1 bt50022.2.2 (!t50030))) else (laws_FnExactDealRun.j0 k l0 l1 bt50009.1 bt50009.2.1 bt50009.2.2 t50016 t50019 bt50022.1 bt50022.2.1 bt50022.2.2 true))) else (laws_FnExactDealRun.j0 k l0 l1 bt50009.1 bt50009.2.1 bt50009.2.2 t50016 t50019 bt50022.1 bt50022.2.1 bt50022.2.2 true))))))))) = some true := H
    have A5 := Aside0.mk A50
    clear A50
    by_cases c6 : t50002 < 0
    · rw [if_pos c6] at H
      have c6b0 : decide (t50002 < 0) = true := decide_eq_true c6
      clear c6
      clear H
      go_enter Try.func4, Try.ntmps4
      go_wp2_with (first | ((with_reducible refine gate_callee (f := 14) rfl ?_); refine goesL_ (some 22) rfl rfl Try.func14 (by kernel_rfl) rfl #[.slice A0 l0.length c0, .int .i64 1048576] rfl (by (try simp only [List.map_toArray, List.map_cons, List.map_nil]); first | done | rfl | (simp only [List.length_drop, List.length_take]; rfl)) ?_; (with_reducible refine (laws_szStatementS.calls _ _ l0 1048576 t50001 _ ?side1 ?side2 A3.out).mono ?_); (case side1 => repeat (first | exact HR0.out | (with_reducible refine Kd.C_alloc ?_ _) | (with_reducible refine Kd.C_drewN ?_ _) | (with_reducible refine Kd.C_drew ?_))); (case side2 => exact HC0.out); rintro e w' ⟨rfl, ⟨nd, rfl⟩⟩; refine ⟨_, rfl, ?_⟩) | ((with_reducible refine gate_callee (f := 19) rfl ?_); refine goesL_ (some 27) rfl rfl Try.func19 (by kernel_rfl) rfl #[.slice A1 l1.length c1, .int .i64 t50001] rfl (by (try simp only [List.map_toArray, List.map_cons, List.map_nil]); first | done | rfl | (simp only [List.length_drop, List.length_take]; rfl)) ?_; (with_reducible refine (laws_szPairS.calls _ _ l1 t50001 t50002 _ ?side1 ?side2 A5.out).mono ?_); (case side1 => repeat (first | exact HR1.out | (with_reducible refine Kd.C_alloc ?_ _) | (with_reducible refine Kd.C_drewN ?_ _) | (with_reducible refine Kd.C_drew ?_))); (case side2 => exact HC1.out); rintro e w' ⟨rfl, ⟨nd, rfl⟩⟩; refine ⟨_, rfl, ?_⟩))
      go_ret
      exact ⟨by first | rfl | (simp [errW_none, errW_some] <;> rfl) | (simp [*, errW_none, errW_some] <;> rfl), by repeat (first | (with_reducible first | exact HB.out | apply below_alloc | apply pw_below_drewN | apply below_drew1) | exact HB.out)⟩
    · rw [if_neg c6] at H
      have c6b0 : decide (t50002 < 0) = false := decide_eq_false c6
      clear c6
      replace H := Option.bind_eq_some_iff.mp H
      obtain ⟨t50003, A70, H⟩ := H
      replace H : ((laws_toPairS.f k l1).bind fun t50006 => ((spec_DealRun.f k t50003 t50006).bind fun bt50009 => ((laws_toStatementS.f k l0).bind fun t50016 => ((laws_toPairS.f k l1).bind fun t50019 => ((impl_DealRun.f k t50016 t50019).bind fun bt50022 => (if bt50022.1 = bt50009.1 then ((laws_eqIntS.f k bt50022.2.1 bt50009.2.1).bind fun t50029 => (if t50029 = true then ((laws_eqPairS.f k bt50022.2.2 bt50009.2.2).bind fun t50030 => (laws_FnExactDealRun.j0 k l0 l1 bt50009.1 bt50009.2.1 bt50009.2.2 t50016 t50019 bt50022.1 bt50022.2.1 bt50022.2.2 (!t50030))) else (laws_FnExactDealRun.j0 k l0 l1 bt50009.1 bt50009.2.1 bt50009.2.2 t50016 t50019 bt50022.1 bt50022.2.1 bt50022.2.2 true))) else (laws_FnExactDealRun.j0 k l0 l1 bt50009.1 bt50009.2.1 bt50009.2.2 t50016 t50019 bt50022.1 bt50022.2.1 bt50022.2.2 true))))))) = some true := H
      have A7 := Aside0.mk A70
      clear A70
      replace H := Option.bind_eq_some_iff.mp H
      obtain ⟨t50006, A80, H⟩ := H
      replace H : ((spec_DealRun.f k t50003 t50006).bind fun bt50009 => ((laws_toStatementS.f k l0).bind fun t50016 => ((laws_toPairS.f k l1).bind fun t50019 => ((impl_DealRun.f k t50016 t50019).bind fun bt50022 => (if bt50022.1 = bt50009.1 then ((laws_eqIntS.f k bt50022.2.1 bt50009.2.1).bind fun t50029 => (if t50029 = true then ((laws_eqPairS.f k bt50022.2.2 bt50009.2.2).bind fun t50030 => (laws_FnExactDealRun.j0 k l0 l1 bt50009.1 bt50009.2.1 bt50009.2.2 t50016 t50019 bt50022.1 bt50022.2.1 bt50022.2.2 (!t50030))) else (laws_FnExactDealRun.j0 k l0 l1 bt50009.1 bt50009.2.1 bt50009.2.2 t50016 t50019 bt50022.1 bt50022.2.1 bt50022.2.2 true))) else (laws_FnExactDealRun.j0 k l0 l1 bt50009.1 bt50009.2.1 bt50009.2.2 t50016 t50019 bt50022.1 bt50022.2.1 bt50022.2.2 true)))))) = some true := H
      have A8 := Aside0.mk A80
      clear A80
      replace H := Option.bind_eq_some_iff.mp H
      obtain ⟨⟨t50009, t50010, t50013⟩, A90, H⟩ := H
      replace H : ((laws_toStatementS.f k l0).bind fun t50016 => ((laws_toPairS.f k l1).bind fun t50019 => ((impl_DealRun.f k t50016 t50019).bind fun bt50022 => (if bt50022.1 = t50009 then ((laws_eqIntS.f k bt50022.2.1 t50010).bind fun t50029 => (if t50029 = true then ((laws_eqPairS.f k bt50022.2.2 t50013).bind fun t50030 => (laws_FnExactDealRun.j0 k l0 l1 t50009 t50010 t50013 t50016 t50019 bt50022.1 bt50022.2.1 bt50022.2.2 (!t50030))) else (laws_FnExactDealRun.j0 k l0 l1 t50009 t50010 t50013 t50016 t50019 bt50022.1 bt50022.2.1 bt50022.2.2 true))) else (laws_FnExactDealRun.j0 k l0 l1 t50009 t50010 t50013 t50016 t50019 bt50022.1 bt50022.2.1 bt50022.2.2 true))))) = some true := H
      have A9 := Aside0.mk A90
      clear A90
      replace H := Option.bind_eq_some_iff.mp H
      obtain ⟨t50016, A100, H⟩ := H
      replace H : ((laws_toPairS.f k l1).bind fun t50019 => ((impl_DealRun.f k t50016 t50019).bind fun bt50022 => (if bt50022.1 = t50009 then ((laws_eqIntS.f k bt50022.2.1 t50010).bind fun t50029 => (if t50029 = true then ((laws_eqPairS.f k bt50022.2.2 t50013).bind fun t50030 => (laws_FnExactDealRun.j0 k l0 l1 t50009 t50010 t50013 t50016 t50019 bt50022.1 bt50022.2.1 bt50022.2.2 (!t50030))) else (laws_FnExactDealRun.j0 k l0 l1 t50009 t50010 t50013 t50016 t50019 bt50022.1 bt50022.2.1 bt50022.2.2 true))) else (laws_FnExactDealRun.j0 k l0 l1 t50009 t50010 t50013 t50016 t50019 bt50022.1 bt50022.2.1 bt50022.2.2 true)))) = some true := H
      have A10 := Aside0.mk A100
      clear A100
      replace H := Option.bind_eq_some_iff.mp H
      obtain ⟨t50019, A110, H⟩ := H
      replace H : ((impl_DealRun.f k t50016 t50019).bind fun bt50022 => (if bt50022.1 = t50009 then ((laws_eqIntS.f k bt50022.2.1 t50010).bind fun t50029 => (if t50029 = true then ((laws_eqPairS.f k bt50022.2.2 t50013).bind fun t50030 => (laws_FnExactDealRun.j0 k l0 l1 t50009 t50010 t50013 t50016 t50019 bt50022.1 bt50022.2.1 bt50022.2.2 (!t50030))) else (laws_FnExactDealRun.j0 k l0 l1 t50009 t50010 t50013 t50016 t50019 bt50022.1 bt50022.2.1 bt50022.2.2 true))) else (laws_FnExactDealRun.j0 k l0 l1 t50009 t50010 t50013 t50016 t50019 bt50022.1 bt50022.2.1 bt50022.2.2 true))) = some true := H
      have A11 := Aside0.mk A110
      clear A110
      replace H := Option.bind_eq_some_iff.mp H
      obtain ⟨⟨t50022, t50023, t50024⟩, A120, H⟩ := H
      replace H : (if t50022 = t50009 then ((laws_eqIntS.f k t50023 t50010).bind fun t50029 => (if t50029 = true then ((laws_eqPairS.f k t50024 t50013).bind fun t50030 => (laws_FnExactDealRun.j0 k l0 l1 t50009 t50010 t50013 t50016 t50019 t50022 t50023 t50024 (!t50030))) else (laws_FnExactDealRun.j0 k l0 l1 t50009 t50010 t50013 t50016 t50019 t50022 t50023 t50024 true))) else (laws_FnExactDealRun.j0 k l0 l1 t50009 t50010 t50013 t50016 t50019 t50022 t50023 t50024 true)) = some true := H
      have A12 := Aside0.mk A120
      clear A120
      have HC13 := Aside0.mk H
      clear H
      go_enter Try.func4, Try.ntmps4
      go_upto_region 12 with (first | ((with_reducible refine gate_callee (f := 14) rfl ?_); refine goesL_ (some 22) rfl rfl Try.func14 (by kernel_rfl) rfl #[.slice A0 l0.length c0, .int .i64 1048576] rfl (by (try simp only [List.map_toArray, List.map_cons, List.map_nil]); first | done | rfl | (simp only [List.length_drop, List.length_take]; rfl)) ?_; (with_reducible refine (laws_szStatementS.calls _ _ l0 1048576 t50001 _ ?side1 ?side2 A3.out).mono ?_); (case side1 => repeat (first | exact HR0.out | (with_reducible refine Kd.C_alloc ?_ _) | (with_reducible refine Kd.C_drewN ?_ _) | (with_reducible refine Kd.C_drew ?_))); (case side2 => exact HC0.out); rintro e w' ⟨rfl, ⟨nd, rfl⟩⟩; refine ⟨_, rfl, ?_⟩) | ((with_reducible refine gate_callee (f := 19) rfl ?_); refine goesL_ (some 27) rfl rfl Try.func19 (by kernel_rfl) rfl #[.slice A1 l1.length c1, .int .i64 t50001] rfl (by (try simp only [List.map_toArray, List.map_cons, List.map_nil]); first | done | rfl | (simp only [List.length_drop, List.length_take]; rfl)) ?_; (with_reducible refine (laws_szPairS.calls _ _ l1 t50001 t50002 _ ?side1 ?side2 A5.out).mono ?_); (case side1 => repeat (first | exact HR1.out | (with_reducible refine Kd.C_alloc ?_ _) | (with_reducible refine Kd.C_drewN ?_ _) | (with_reducible refine Kd.C_drew ?_))); (case side2 => exact HC1.out); rintro e w' ⟨rfl, ⟨nd, rfl⟩⟩; refine ⟨_, rfl, ?_⟩) | ((with_reducible refine gate_callee (f := 16) rfl ?_); refine goesL_ (some 32) rfl rfl Try.func16 (by kernel_rfl) rfl #[.slice A0 l0.length c0] rfl (by (try simp only [List.map_toArray, List.map_cons, List.map_nil]); first | done | rfl | (simp only [List.length_drop, List.length_take]; rfl)) ?_; (with_reducible refine (laws_toStatementS.calls k _ _ l0 t50003 _ ?side1 ?side2 A7.out).mono ?_); (case side1 => repeat (first | exact HR0.out | (with_reducible refine Kd.C_alloc ?_ _) | (with_reducible refine Kd.C_drewN ?_ _) | (with_reducible refine Kd.C_drew ?_))); (case side2 => exact HC0.out); rintro e w14 ⟨v50004, rfl, ho0, hb⟩; refine ⟨_, rfl, ?_⟩; have n0_ := Aside0.mk (Kd.R_lower ho0 (below_size (by repeat (first | (with_reducible first | exact HB.out | apply below_alloc | apply pw_below_drewN | apply below_drew1) | exact HB.out)))); have n1_ := Aside0.mk (below_step (by repeat (first | (with_reducible first | exact HB.out | apply below_alloc | apply pw_below_drewN | apply below_drew1) | exact HB.out)) hb); clear HB; have HO50005 := n0_; have HB := n1_; clear n0_ n1_; (try clear hb); (try clear hb2); (try clear hk); (try clear hi); (try clear ho0)) | ((with_reducible refine gate_callee (f := 21) rfl ?_); refine goesL_ (some 34) rfl rfl Try.func21 (by kernel_rfl) rfl #[.slice A1 l1.length c1] rfl (by (try simp only [List.map_toArray, List.map_cons, List.map_nil]); first | done | rfl | (simp only [List.length_drop, List.length_take]; rfl)) ?_; (with_reducible refine (laws_toPairS.calls k _ _ l1 t50006 _ ?side1 ?side2 A8.out).mono ?_); (case side1 => repeat (first | exact (Kd.C_below HR1.out HB.out) | (with_reducible refine Kd.C_alloc ?_ _) | (with_reducible refine Kd.C_drewN ?_ _) | (with_reducible refine Kd.C_drew ?_))); (case side2 => exact HC1.out); rintro e w15 ⟨v50007, rfl, ho0, hb⟩; refine ⟨_, rfl, ?_⟩; have n0_ := Aside0.mk (Kd.R_below (by (with_reducible repeat (first | apply Kd.R_alloc | apply Kd.R_drewN | apply Kd.R_drew)); exact HO50005.out) hb); have n1_ := Aside0.mk (Kd.R_lower ho0 (below_size (by repeat (first | (with_reducible first | exact HB.out | apply below_alloc | apply pw_below_drewN | apply below_drew1) | exact HB.out)))); have n2_ := Aside0.mk (below_step (by repeat (first | (with_reducible first | exact HB.out | apply below_alloc | apply pw_below_drewN | apply below_drew1) | exact HB.out)) hb); clear HO50005; clear HB; have HO50005 := n0_; have HO50008 := n1_; have HB := n2_; clear n0_ n1_ n2_; (try clear hb); (try clear hb2); (try clear hk); (try clear hi); (try clear ho0); obtain ⟨Ao16, co16, eo16⟩ := Kd.R_slice HO50005.out; subst eo16; obtain ⟨Ao17, co17, eo17⟩ := Kd.R_slice HO50008.out; subst eo17) | ((with_reducible refine gate_callee (f := 20) rfl ?_); refine goesL_ (some 35) rfl rfl Try.func20 (by kernel_rfl) rfl #[.slice Ao16 t50003.length co16, .slice Ao17 t50006.length co17] rfl (by (try simp only [List.map_toArray, List.map_cons, List.map_nil]); first | done | rfl | (simp only [List.length_drop, List.length_take]; rfl)) ?_; (with_reducible refine (spec_DealRun.calls k _ _ t50003 (fun k_ => some k_ = (.slice Ao17 t50006.length co17 : Value).ownBlock) _ _ t50006 t50009 t50010 t50013 _ ?side1 ?side2 ?side3 A9.out).mono ?_); (case side1 => repeat (first | exact (Kd.R_reads' HO50005.out).2.2 | (with_reducible refine Kd.C_alloc ?_ _) | (with_reducible refine Kd.C_drewN ?_ _) | (with_reducible refine Kd.C_drew ?_))); (case side2 => exact (Kd.R_reads' HO50005.out).2.1); (case side3 => exact Kd.R_V (Kd.R_tight rfl (Kd.R_apart' (HO50008.out) (Kd.R_typed HO50005.out) (by decide)))); rintro e w18 ⟨v50011, v50014, rfl, ho0, ho1, hb⟩; refine ⟨_, rfl, ?_⟩; have n0_ := Aside0.mk (Kd.R_below (by (with_reducible repeat (first | apply Kd.R_alloc | apply Kd.R_drewN | apply Kd.R_drew)); exact HO50005.out) hb); have n1_ := Aside0.mk (Kd.R_elder' (by (with_reducible repeat (first | apply Kd.R_alloc | apply Kd.R_drewN | apply Kd.R_drew)); exact HO50008.out) (Kd.R_base ho1) hb); have n2_ := Aside0.mk (Kd.R_lower (Kd.R_mono (ok' := fun k_ => True) ho0 (fun _ hk_ => trivial)) (below_size (by repeat (first | (with_reducible first | exact HB.out | apply below_alloc | apply pw_below_drewN | apply below_drew1) | exact HB.out)))); have n3_ := Aside0.mk (Kd.R_lower (Kd.R_new' (Kd.R_mono (ok' := fun k_ => True) ho1 (fun _ hk_ => trivial)) (Kd.R_lt (by (with_reducible repeat (first | apply Kd.R_alloc | apply Kd.R_drewN | apply Kd.R_drew)); exact HO50008.out))) (below_size (by repeat (first | (with_reducible first | exact HB.out | apply below_alloc | apply pw_below_drewN | apply below_drew1) | exact HB.out)))); have n4_ := Aside0.mk (below_step (by repeat (first | (with_reducible first | exact HB.out | apply below_alloc | apply pw_below_drewN | apply below_drew1) | exact HB.out)) hb); clear HO50005; clear HO50008; clear HB; have HO50005 := n0_; have HO50008 := n1_; have HO50012 := n2_; have HO50015 := n3_; have HB := n4_; clear n0_ n1_ n2_ n3_ n4_; (try clear hb); (try clear hb2); (try clear hk); (try clear hi); (try clear ho0); (try clear ho1)) | ((with_reducible refine gate_callee (f := 16) rfl ?_); refine goesL_ (some 40) rfl rfl Try.func16 (by kernel_rfl) rfl #[.slice A0 l0.length c0] rfl (by (try simp only [List.map_toArray, List.map_cons, List.map_nil]); first | done | rfl | (simp only [List.length_drop, List.length_take]; rfl)) ?_; (with_reducible refine (laws_toStatementS.calls k _ _ l0 t50016 _ ?side1 ?side2 A10.out).mono ?_); (case side1 => repeat (first | exact (Kd.C_below HR0.out HB.out) | (with_reducible refine Kd.C_alloc ?_ _) | (with_reducible refine Kd.C_drewN ?_ _) | (with_reducible refine Kd.C_drew ?_))); (case side2 => exact HC0.out); rintro e w19 ⟨v50017, rfl, ho0, hb⟩; refine ⟨_, rfl, ?_⟩; have n0_ := Aside0.mk (Kd.R_elder' (by (with_reducible repeat (first | apply Kd.R_alloc | apply Kd.R_drewN | apply Kd.R_drew)); exact HO50005.out) (Kd.R_base ho0) hb); have n1_ := Aside0.mk (Kd.R_below (by (with_reducible repeat (first | apply Kd.R_alloc | apply Kd.R_drewN | apply Kd.R_drew)); exact HO50008.out) hb); have n2_ := Aside0.mk (Kd.R_below (by (with_reducible repeat (first | apply Kd.R_alloc | apply Kd.R_drewN | apply Kd.R_drew)); exact HO50012.out) hb); have n3_ := Aside0.mk (Kd.R_below (by (with_reducible repeat (first | apply Kd.R_alloc | apply Kd.R_drewN | apply Kd.R_drew)); exact HO50015.out) hb); have n4_ := Aside0.mk (Kd.R_lower (Kd.R_new' ho0 (Kd.R_lt (by (with_reducible repeat (first | apply Kd.R_alloc | apply Kd.R_drewN | apply Kd.R_drew)); exact HO50005.out))) (below_size (by repeat (first | (with_reducible first | exact HB.out | apply below_alloc | apply pw_below_drewN | apply below_drew1) | exact HB.out)))); have n5_ := Aside0.mk (below_step (by repeat (first | (with_reducible first | exact HB.out | apply below_alloc | apply pw_below_drewN | apply below_drew1) | exact HB.out)) hb); clear HO50005; clear HO50008; clear HO50012; clear HO50015; clear HB; have HO50005 := n0_; have HO50008 := n1_; have HO50012 := n2_; have HO50015 := n3_; have HO50018 := n4_; have HB := n5_; clear n0_ n1_ n2_ n3_ n4_ n5_; (try clear hb); (try clear hb2); (try clear hk); (try clear hi); (try clear ho0)) | ((with_reducible refine gate_callee (f := 21) rfl ?_); refine goesL_ (some 42) rfl rfl Try.func21 (by kernel_rfl) rfl #[.slice A1 l1.length c1] rfl (by (try simp only [List.map_toArray, List.map_cons, List.map_nil]); first | done | rfl | (simp only [List.length_drop, List.length_take]; rfl)) ?_; (with_reducible refine (laws_toPairS.calls k _ _ l1 t50019 _ ?side1 ?side2 A11.out).mono ?_); (case side1 => repeat (first | exact (Kd.C_below HR1.out HB.out) | (with_reducible refine Kd.C_alloc ?_ _) | (with_reducible refine Kd.C_drewN ?_ _) | (with_reducible refine Kd.C_drew ?_))); (case side2 => exact HC1.out); rintro e w20 ⟨v50020, rfl, ho0, hb⟩; refine ⟨_, rfl, ?_⟩; have n0_ := Aside0.mk (Kd.R_below (by (with_reducible repeat (first | apply Kd.R_alloc | apply Kd.R_drewN | apply Kd.R_drew)); exact HO50005.out) hb); have n1_ := Aside0.mk (Kd.R_elder' (by (with_reducible repeat (first | apply Kd.R_alloc | apply Kd.R_drewN | apply Kd.R_drew)); exact HO50008.out) (Kd.R_base ho0) hb); have n2_ := Aside0.mk (Kd.R_below (by (with_reducible repeat (first | apply Kd.R_alloc | apply Kd.R_drewN | apply Kd.R_drew)); exact HO50012.out) hb); have n3_ := Aside0.mk (Kd.R_elder' (by (with_reducible repeat (first | apply Kd.R_alloc | apply Kd.R_drewN | apply Kd.R_drew)); exact HO50015.out) (Kd.R_base ho0) hb); have n4_ := Aside0.mk (Kd.R_below (by (with_reducible repeat (first | apply Kd.R_alloc | apply Kd.R_drewN | apply Kd.R_drew)); exact HO50018.out) hb); have n5_ := Aside0.mk (Kd.R_lower (Kd.R_new' (Kd.R_new' ho0 (Kd.R_lt (by (with_reducible repeat (first | apply Kd.R_alloc | apply Kd.R_drewN | apply Kd.R_drew)); exact HO50008.out))) (Kd.R_lt (by (with_reducible repeat (first | apply Kd.R_alloc | apply Kd.R_drewN | apply Kd.R_drew)); exact HO50015.out))) (below_size (by repeat (first | (with_reducible first | exact HB.out | apply below_alloc | apply pw_below_drewN | apply below_drew1) | exact HB.out)))); have n6_ := Aside0.mk (below_step (by repeat (first | (with_reducible first | exact HB.out | apply below_alloc | apply pw_below_drewN | apply below_drew1) | exact HB.out)) hb); clear HO50005; clear HO50008; clear HO50012; clear HO50015; clear HO50018; clear HB; have HO50005 := n0_; have HO50008 := n1_; have HO50012 := n2_; have HO50015 := n3_; have HO50018 := n4_; have HO50021 := n5_; have HB := n6_; clear n0_ n1_ n2_ n3_ n4_ n5_ n6_; (try clear hb); (try clear hb2); (try clear hk); (try clear hi); (try clear ho0); obtain ⟨Ao21, co21, eo21⟩ := Kd.R_slice HO50018.out; subst eo21; obtain ⟨Ao22, co22, eo22⟩ := Kd.R_slice HO50021.out; subst eo22) | ((with_reducible refine gate_callee (f := 22) rfl ?_); refine goesL_ (some 46) rfl rfl Try.func22 (by kernel_rfl) rfl #[.slice Ao21 t50016.length co21, .slice Ao22 t50019.length co22] rfl (by (try simp only [List.map_toArray, List.map_cons, List.map_nil]); first | done | rfl | (simp only [List.length_drop, List.length_take]; rfl)) ?_; (with_reducible refine (impl_DealRun.calls k _ _ t50016 _ _ t50019 t50022 t50023 t50024 _ ?side1 ?side2 ?side3 ?side4 A12.out).mono ?_); (case side1 => repeat (first | exact (Kd.R_reads' HO50018.out).2.2 | (with_reducible refine Kd.C_alloc ?_ _) | (with_reducible refine Kd.C_drewN ?_ _) | (with_reducible refine Kd.C_drew ?_))); (case side2 => exact (Kd.R_reads' HO50018.out).2.1); (case side3 => repeat (first | exact (Kd.R_reads' HO50021.out).2.2 | (with_reducible refine Kd.C_alloc ?_ _) | (with_reducible refine Kd.C_drewN ?_ _) | (with_reducible refine Kd.C_drew ?_))); (case side4 => exact (Kd.R_reads' HO50021.out).2.1); rintro e w23 ⟨v50025, v50027, rfl, ho0, ho1, hb⟩; refine ⟨_, rfl, ?_⟩; have n0_ := Aside0.mk (Kd.R_below (by (with_reducible repeat (first | apply Kd.R_alloc | apply Kd.R_drewN | apply Kd.R_drew)); exact HO50005.out) hb); have n1_ := Aside0.mk (Kd.R_elder' (by (with_reducible repeat (first | apply Kd.R_alloc | apply Kd.R_drewN | apply Kd.R_drew)); exact HO50008.out) (Kd.R_base ho1) hb); have n2_ := Aside0.mk (Kd.R_elder' (by (with_reducible repeat (first | apply Kd.R_alloc | apply Kd.R_drewN | apply Kd.R_drew)); exact HO50012.out) (Kd.R_base ho0) hb); have n3_ := Aside0.mk (Kd.R_elder' (by (with_reducible repeat (first | apply Kd.R_alloc | apply Kd.R_drewN | apply Kd.R_drew)); exact HO50015.out) (Kd.R_base ho1) hb); have n4_ := Aside0.mk (Kd.R_below (by (with_reducible repeat (first | apply Kd.R_alloc | apply Kd.R_drewN | apply Kd.R_drew)); exact HO50018.out) hb); have n5_ := Aside0.mk (Kd.R_elder' (by (with_reducible repeat (first | apply Kd.R_alloc | apply Kd.R_drewN | apply Kd.R_drew)); exact HO50021.out) (Kd.R_base ho1) hb); have n6_ := Aside0.mk (Kd.R_lower (Kd.R_new' ho0 (Kd.R_lt (by (with_reducible repeat (first | apply Kd.R_alloc | apply Kd.R_drewN | apply Kd.R_drew)); exact HO50012.out))) (below_size (by repeat (first | (with_reducible first | exact HB.out | apply below_alloc | apply pw_below_drewN | apply below_drew1) | exact HB.out)))); have n7_ := Aside0.mk (Kd.R_lower (Kd.R_new' (Kd.R_new' (Kd.R_new' ho1 (Kd.R_lt (by (with_reducible repeat (first | apply Kd.R_alloc | apply Kd.R_drewN | apply Kd.R_drew)); exact HO50008.out))) (Kd.R_lt (by (with_reducible repeat (first | apply Kd.R_alloc | apply Kd.R_drewN | apply Kd.R_drew)); exact HO50015.out))) (Kd.R_lt (by (with_reducible repeat (first | apply Kd.R_alloc | apply Kd.R_drewN | apply Kd.R_drew)); exact HO50021.out))) (below_size (by repeat (first | (with_reducible first | exact HB.out | apply below_alloc | apply pw_below_drewN | apply below_drew1) | exact HB.out)))); have n8_ := Aside0.mk (below_step (by repeat (first | (with_reducible first | exact HB.out | apply below_alloc | apply pw_below_drewN | apply below_drew1) | exact HB.out)) hb); clear HO50005; clear HO50008; clear HO50012; clear HO50015; clear HO50018; clear HO50021; clear HB; have HO50005 := n0_; have HO50008 := n1_; have HO50012 := n2_; have HO50015 := n3_; have HO50018 := n4_; have HO50021 := n5_; have HO50026 := n6_; have HO50028 := n7_; have HB := n8_; clear n0_ n1_ n2_ n3_ n4_ n5_ n6_ n7_ n8_; (try clear hb); (try clear hb2); (try clear hk); (try clear hi); (try clear ho0); (try clear ho1)))
      (try simp only [Act.put, List.setIfInBounds_toArray, List.set_cons_zero, List.set_cons_succ])
      go_cut [64] (fun v64 wc => ∃ (kq : Nat) (x64_12 : Bool), v64 = .bool x64_12 ∧ Aside0 (laws_FnExactDealRun.j0 kq l0 l1 t50009 t50010 t50013 t50016 t50019 t50022 t50023 t50024 x64_12 = some true) ∧ Aside0 (kq ≤ k) ∧ Aside0 (Kd.R (Kd.int .i64) 3 wc w.heap.size (fun k_ => some k_ ≠ (v50025 : Value).ownBlock) v50011 t50010) ∧ Aside0 (Kd.R k48 48 wc w.heap.size (fun k_ => some k_ ≠ ((.slice Ao22 t50019.length co22) : Value).ownBlock ∧ some k_ ≠ (v50027 : Value).ownBlock) v50014 t50013) ∧ Aside0 (Kd.R k46 46 wc w.heap.size (fun _ => True) (.slice Ao21 t50016.length co21) t50016) ∧ Aside0 (Kd.R k48 48 wc w.heap.size (fun k_ => some k_ ≠ (v50014 : Value).ownBlock ∧ some k_ ≠ (v50027 : Value).ownBlock) (.slice Ao22 t50019.length co22) t50019) ∧ Aside0 (Kd.R (Kd.int .i64) 3 wc w.heap.size (fun k_ => some k_ ≠ (v50011 : Value).ownBlock) v50025 t50023) ∧ Aside0 (Kd.R k48 48 wc w.heap.size (fun k_ => some k_ ≠ (v50014 : Value).ownBlock ∧ some k_ ≠ ((.slice Ao22 t50019.length co22) : Value).ownBlock) v50027 t50024) ∧ Aside0 (Below w.heap.size w wc))
      case first =>
        have H := HC13.out
        clear HC13
        by_cases c24 : t50022 = t50009
        · rw [if_pos c24] at H
          have c24b0 : (t50022 == t50009) = true := beq_iff_eq.mpr c24
          have c24b1 : (t50022 != t50009) = false := bne_eq_false_iff_eq.mpr c24
          clear c24
          (first | rw [c24b0] | (simp only [i64_w, i32_w]; rw [c24b0]) | skip)
          replace H := Option.bind_eq_some_iff.mp H
          obtain ⟨t50029, A250, H⟩ := H
          replace H : (if t50029 = true then ((laws_eqPairS.f k t50024 t50013).bind fun t50030 => (laws_FnExactDealRun.j0 k l0 l1 t50009 t50010 t50013 t50016 t50019 t50022 t50023 t50024 (!t50030))) else (laws_FnExactDealRun.j0 k l0 l1 t50009 t50010 t50013 t50016 t50019 t50022 t50023 t50024 true)) = some true := H
          have A25 := Aside0.mk A250
          clear A250
          by_cases c26 : t50029 = true
          · subst c26
            have H1 : ((laws_eqPairS.f k t50024 t50013).bind fun t50030 => (laws_FnExactDealRun.j0 k l0 l1 t50009 t50010 t50013 t50016 t50019 t50022 t50023 t50024 (!t50030))) = some true := by rw [if_pos rfl] at H; exact H
            clear H
            have H := H1
            clear H1
            replace H := Option.bind_eq_some_iff.mp H
            obtain ⟨t50030, A270, H⟩ := H
            replace H : (laws_FnExactDealRun.j0 k l0 l1 t50009 t50010 t50013 t50016 t50019 t50022 t50023 t50024 (!t50030)) = some true := H
            have A27 := Aside0.mk A270
            clear A270
            have H' := Aside0.mk H
            clear H
            obtain ⟨Ao28, co28, eo28⟩ := Kd.R_slice HO50026.out
            subst eo28
            obtain ⟨Ao29, co29, eo29⟩ := Kd.R_slice HO50012.out
            subst eo29
            go_wp2_with (first | (go_at_call 23; (with_reducible refine (laws_eqIntS.calls k _ _ t50023 _ _ t50010 true _ ?side1 ?side2 ?side3 ?side4 A25.out).mono ?_); (case side1 => repeat (first | exact (Kd.R_reads' HO50026.out).2.2 | (with_reducible refine Kd.C_alloc ?_ _) | (with_reducible refine Kd.C_drewN ?_ _) | (with_reducible refine Kd.C_drew ?_))); (case side2 => exact (Kd.R_reads' HO50026.out).2.1); (case side3 => repeat (first | exact (Kd.R_reads' HO50012.out).2.2 | (with_reducible refine Kd.C_alloc ?_ _) | (with_reducible refine Kd.C_drewN ?_ _) | (with_reducible refine Kd.C_drew ?_))); (case side4 => exact (Kd.R_reads' HO50012.out).2.1); rintro e w' ⟨rfl, ⟨nd, rfl⟩⟩; obtain ⟨Ao30, co30, eo30⟩ := Kd.R_slice HO50028.out; subst eo30; obtain ⟨Ao31, co31, eo31⟩ := Kd.R_slice HO50015.out; subst eo31) | (go_at_call 24; (with_reducible refine (laws_eqPairS.calls k _ _ t50024 _ _ t50013 t50030 _ ?side1 ?side2 ?side3 ?side4 A27.out).mono ?_); (case side1 => repeat (first | exact (Kd.R_reads' HO50028.out).2.2 | (with_reducible refine Kd.C_alloc ?_ _) | (with_reducible refine Kd.C_drewN ?_ _) | (with_reducible refine Kd.C_drew ?_))); (case side2 => exact (Kd.R_reads' HO50028.out).2.1); (case side3 => repeat (first | exact (Kd.R_reads' HO50015.out).2.2 | (with_reducible refine Kd.C_alloc ?_ _) | (with_reducible refine Kd.C_drewN ?_ _) | (with_reducible refine Kd.C_drew ?_))); (case side4 => exact (Kd.R_reads' HO50015.out).2.1); rintro e w32 ⟨rfl, hb⟩; have n0_ := Aside0.mk (Kd.R_below (by (with_reducible repeat (first | apply Kd.R_alloc | apply Kd.R_drewN | apply Kd.R_drew)); exact HO50005.out) hb); have n1_ := Aside0.mk (Kd.R_below (by (with_reducible repeat (first | apply Kd.R_alloc | apply Kd.R_drewN | apply Kd.R_drew)); exact HO50008.out) hb); have n2_ := Aside0.mk (Kd.R_below (by (with_reducible repeat (first | apply Kd.R_alloc | apply Kd.R_drewN | apply Kd.R_drew)); exact HO50012.out) hb); have n3_ := Aside0.mk (Kd.R_below (by (with_reducible repeat (first | apply Kd.R_alloc | apply Kd.R_drewN | apply Kd.R_drew)); exact HO50015.out) hb); have n4_ := Aside0.mk (Kd.R_below (by (with_reducible repeat (first | apply Kd.R_alloc | apply Kd.R_drewN | apply Kd.R_drew)); exact HO50018.out) hb); have n5_ := Aside0.mk (Kd.R_below (by (with_reducible repeat (first | apply Kd.R_alloc | apply Kd.R_drewN | apply Kd.R_drew)); exact HO50021.out) hb); have n6_ := Aside0.mk (Kd.R_below (by (with_reducible repeat (first | apply Kd.R_alloc | apply Kd.R_drewN | apply Kd.R_drew)); exact HO50026.out) hb); have n7_ := Aside0.mk (Kd.R_below (by (with_reducible repeat (first | apply Kd.R_alloc | apply Kd.R_drewN | apply Kd.R_drew)); exact HO50028.out) hb); have n8_ := Aside0.mk (below_step (by repeat (first | (with_reducible first | exact HB.out | apply below_alloc | apply pw_below_drewN | apply below_drew1) | exact HB.out)) hb); clear HO50005; clear HO50008; clear HO50012; clear HO50015; clear HO50018; clear HO50021; clear HO50026; clear HO50028; clear HB; have HO50005 := n0_; have HO50008 := n1_; have HO50012 := n2_; have HO50015 := n3_; have HO50018 := n4_; have HO50021 := n5_; have HO50026 := n6_; have HO50028 := n7_; have HB := n8_; clear n0_ n1_ n2_ n3_ n4_ n5_ n6_ n7_ n8_; (try clear hb); (try clear hb2); (try clear hk); (try clear hi)))
            go_meet
            case rel => exact ⟨_, (!t50030), (by first | rfl | (simp; done) | (simp [*]; done)), H', ⟨by first | omega | exact Nat.le_refl _⟩, ⟨by (with_reducible repeat (first | apply Kd.R_alloc | apply Kd.R_drewN | apply Kd.R_drew)); exact Kd.R_mono HO50012.out (fun _ hk => hk.2)⟩, ⟨by (with_reducible repeat (first | apply Kd.R_alloc | apply Kd.R_drewN | apply Kd.R_drew)); exact Kd.R_mono HO50015.out (fun _ hk => ⟨hk.1.2, hk.2⟩)⟩, ⟨by (with_reducible repeat (first | apply Kd.R_alloc | apply Kd.R_drewN | apply Kd.R_drew)); exact Kd.R_mono HO50018.out (fun _ hk => trivial)⟩, ⟨by (with_reducible repeat (first | apply Kd.R_alloc | apply Kd.R_drewN | apply Kd.R_drew)); exact Kd.R_mono HO50021.out (fun _ hk => ⟨hk.1.2, hk.2⟩)⟩, ⟨by (with_reducible repeat (first | apply Kd.R_alloc | apply Kd.R_drewN | apply Kd.R_drew)); exact Kd.R_mono HO50026.out (fun _ hk => hk.2)⟩, ⟨by (with_reducible repeat (first | apply Kd.R_alloc | apply Kd.R_drewN | apply Kd.R_drew)); exact Kd.R_mono HO50028.out (fun _ hk => ⟨hk.1.2, hk.2⟩)⟩, ⟨by repeat (first | (with_reducible first | exact HB.out | apply below_alloc | apply pw_below_drewN | apply below_drew1) | exact HB.out)⟩⟩
          · replace c26 := Bool.eq_false_iff.mpr c26
            subst c26
            have H1 : (laws_FnExactDealRun.j0 k l0 l1 t50009 t50010 t50013 t50016 t50019 t50022 t50023 t50024 true) = some true := by rw [if_neg (show ¬ (false = true) by decide)] at H; exact H
            clear H
            have H := H1
            clear H1
            have H' := Aside0.mk H
            clear H
            obtain ⟨Ao33, co33, eo33⟩ := Kd.R_slice HO50026.out
            subst eo33
            obtain ⟨Ao34, co34, eo34⟩ := Kd.R_slice HO50012.out
            subst eo34
            go_wp2_with (first | (go_at_call 23; (with_reducible refine (laws_eqIntS.calls k _ _ t50023 _ _ t50010 false _ ?side1 ?side2 ?side3 ?side4 A25.out).mono ?_); (case side1 => repeat (first | exact (Kd.R_reads' HO50026.out).2.2 | (with_reducible refine Kd.C_alloc ?_ _) | (with_reducible refine Kd.C_drewN ?_ _) | (with_reducible refine Kd.C_drew ?_))); (case side2 => exact (Kd.R_reads' HO50026.out).2.1); (case side3 => repeat (first | exact (Kd.R_reads' HO50012.out).2.2 | (with_reducible refine Kd.C_alloc ?_ _) | (with_reducible refine Kd.C_drewN ?_ _) | (with_reducible refine Kd.C_drew ?_))); (case side4 => exact (Kd.R_reads' HO50012.out).2.1); rintro e w' ⟨rfl, ⟨nd, rfl⟩⟩))
            go_meet
            case rel => exact ⟨_, (true), (by first | rfl | (simp; done) | (simp [*]; done)), H', ⟨by first | omega | exact Nat.le_refl _⟩, ⟨by (with_reducible repeat (first | apply Kd.R_alloc | apply Kd.R_drewN | apply Kd.R_drew)); exact Kd.R_mono HO50012.out (fun _ hk => hk.2)⟩, ⟨by (with_reducible repeat (first | apply Kd.R_alloc | apply Kd.R_drewN | apply Kd.R_drew)); exact Kd.R_mono HO50015.out (fun _ hk => ⟨hk.1.2, hk.2⟩)⟩, ⟨by (with_reducible repeat (first | apply Kd.R_alloc | apply Kd.R_drewN | apply Kd.R_drew)); exact Kd.R_mono HO50018.out (fun _ hk => trivial)⟩, ⟨by (with_reducible repeat (first | apply Kd.R_alloc | apply Kd.R_drewN | apply Kd.R_drew)); exact Kd.R_mono HO50021.out (fun _ hk => ⟨hk.1.2, hk.2⟩)⟩, ⟨by (with_reducible repeat (first | apply Kd.R_alloc | apply Kd.R_drewN | apply Kd.R_drew)); exact Kd.R_mono HO50026.out (fun _ hk => hk.2)⟩, ⟨by (with_reducible repeat (first | apply Kd.R_alloc | apply Kd.R_drewN | apply Kd.R_drew)); exact Kd.R_mono HO50028.out (fun _ hk => ⟨hk.1.2, hk.2⟩)⟩, ⟨by repeat (first | (with_reducible first | exact HB.out | apply below_alloc | apply pw_below_drewN | apply below_drew1) | exact HB.out)⟩⟩
        · rw [if_neg c24] at H
          have c24b0 : (t50022 == t50009) = false := beq_eq_false_iff_ne.mpr c24
          have c24b1 : (t50022 != t50009) = true := bne_iff_ne.mpr c24
          (first | rw [c24b0] | (simp only [i64_w, i32_w]; rw [c24b0]) | skip)
          have H' := Aside0.mk H
          clear H
          go_wp2
          go_meet
          case rel => exact ⟨_, (true), (by first | rfl | (simp; done) | (simp [*]; done)), H', ⟨by first | omega | exact Nat.le_refl _⟩, ⟨by (with_reducible repeat (first | apply Kd.R_alloc | apply Kd.R_drewN | apply Kd.R_drew)); exact Kd.R_mono HO50012.out (fun _ hk => hk.2)⟩, ⟨by (with_reducible repeat (first | apply Kd.R_alloc | apply Kd.R_drewN | apply Kd.R_drew)); exact Kd.R_mono HO50015.out (fun _ hk => ⟨hk.1.2, hk.2⟩)⟩, ⟨by (with_reducible repeat (first | apply Kd.R_alloc | apply Kd.R_drewN | apply Kd.R_drew)); exact Kd.R_mono HO50018.out (fun _ hk => trivial)⟩, ⟨by (with_reducible repeat (first | apply Kd.R_alloc | apply Kd.R_drewN | apply Kd.R_drew)); exact Kd.R_mono HO50021.out (fun _ hk => ⟨hk.1.2, hk.2⟩)⟩, ⟨by (with_reducible repeat (first | apply Kd.R_alloc | apply Kd.R_drewN | apply Kd.R_drew)); exact Kd.R_mono HO50026.out (fun _ hk => hk.2)⟩, ⟨by (with_reducible repeat (first | apply Kd.R_alloc | apply Kd.R_drewN | apply Kd.R_drew)); exact Kd.R_mono HO50028.out (fun _ hk => ⟨hk.1.2, hk.2⟩)⟩, ⟨by repeat (first | (with_reducible first | exact HB.out | apply below_alloc | apply pw_below_drewN | apply below_drew1) | exact HB.out)⟩⟩
      case rest =>
        clear HC13
        try clear c1
        try clear c2
        try clear p2
        try clear c4
        try clear c4b0
        try clear c6
        try clear c6b0
        try clear c14
        try clear c16
        try clear c19
        try clear c20
        try clear c21
        try clear c22
        try clear c24
        try clear c24b0
        try clear c24b1
        try clear c26
        obtain ⟨kq, x64_12, rfl, HA, HJ12, HO_7, HO_8, HO_9, HO_10, HO_12, HO_13, HB⟩ := hcut
        cases kq with
        | zero => exact absurd HA.out (by simp [laws_FnExactDealRun.j0])
        | succ kj12 =>
          have H := HA.out
          clear HA
          simp only [laws_FnExactDealRun.j0] at H
          by_cases c35 : x64_12 = true
          · subst c35
            have H1 : (some false) = some true := by rw [if_pos rfl] at H; exact H
            clear H
            have H := H1
            clear H1
            exact absurd H (by decide)
          · replace c35 := Bool.eq_false_iff.mpr c35
            subst c35
            have H1 : ((laws_toStatementS.f kj12 l0).bind fun t50031 => ((laws_eqStatementS.f kj12 t50016 t50031).bind fun t50034 => (if t50034 = true then ((laws_toPairS.f kj12 l1).bind fun t50035 => ((laws_eqPairS.f kj12 t50019 t50035).bind fun t50038 => (if t50038 = true then ((laws_markStatementS.f kj12 t50016 1).bind fun bt50039 => ((laws_markPairS.f kj12 t50019 bt50039.1).bind fun bt50041 => (if bt50041.1 < 0 then (laws_FnExactDealRun.j1 kj12 l0 l1 t50009 t50010 t50013 t50023 t50024 true) else (if t50022 = t50009 then ((laws_eqIntS.f kj12 t50023 t50010).bind fun t50043 => (if t50043 = true then ((laws_eqPairS.f kj12 t50024 t50013).bind fun t50044 => (laws_FnExactDealRun.j1 kj12 l0 l1 t50009 t50010 t50013 t50023 t50024 (!t50044))) else (laws_FnExactDealRun.j1 kj12 l0 l1 t50009 t50010 t50013 t50023 t50024 true))) else (laws_FnExactDealRun.j1 kj12 l0 l1 t50009 t50010 t50013 t50023 t50024 true))))) else (some false)))) else (some false)))) = some true := by rw [if_neg (show ¬ (false = true) by decide)] at H; exact H
            clear H
            have H := H1
            clear H1
            replace H := Option.bind_eq_some_iff.mp H
            obtain ⟨t50031, A360, H⟩ := H
            replace H : ((laws_eqStatementS.f kj12 t50016 t50031).bind fun t50034 => (if t50034 = true then ((laws_toPairS.f kj12 l1).bind fun t50035 => ((laws_eqPairS.f kj12 t50019 t50035).bind fun t50038 => (if t50038 = true then ((laws_markStatementS.f kj12 t50016 1).bind fun bt50039 => ((laws_markPairS.f kj12 t50019 bt50039.1).bind fun bt50041 => (if bt50041.1 < 0 then (laws_FnExactDealRun.j1 kj12 l0 l1 t50009 t50010 t50013 t50023 t50024 true) else (if t50022 = t50009 then ((laws_eqIntS.f kj12 t50023 t50010).bind fun t50043 => (if t50043 = true then ((laws_eqPairS.f kj12 t50024 t50013).bind fun t50044 => (laws_FnExactDealRun.j1 kj12 l0 l1 t50009 t50010 t50013 t50023 t50024 (!t50044))) else (laws_FnExactDealRun.j1 kj12 l0 l1 t50009 t50010 t50013 t50023 t50024 true))) else (laws_FnExactDealRun.j1 kj12 l0 l1 t50009 t50010 t50013 t50023 t50024 true))))) else (some false)))) else (some false))) = some true := H
            have A36 := Aside0.mk A360
            clear A360
            replace H := Option.bind_eq_some_iff.mp H
            obtain ⟨t50034, A370, H⟩ := H
            replace H : (if t50034 = true then ((laws_toPairS.f kj12 l1).bind fun t50035 => ((laws_eqPairS.f kj12 t50019 t50035).bind fun t50038 => (if t50038 = true then ((laws_markStatementS.f kj12 t50016 1).bind fun bt50039 => ((laws_markPairS.f kj12 t50019 bt50039.1).bind fun bt50041 => (if bt50041.1 < 0 then (laws_FnExactDealRun.j1 kj12 l0 l1 t50009 t50010 t50013 t50023 t50024 true) else (if t50022 = t50009 then ((laws_eqIntS.f kj12 t50023 t50010).bind fun t50043 => (if t50043 = true then ((laws_eqPairS.f kj12 t50024 t50013).bind fun t50044 => (laws_FnExactDealRun.j1 kj12 l0 l1 t50009 t50010 t50013 t50023 t50024 (!t50044))) else (laws_FnExactDealRun.j1 kj12 l0 l1 t50009 t50010 t50013 t50023 t50024 true))) else (laws_FnExactDealRun.j1 kj12 l0 l1 t50009 t50010 t50013 t50023 t50024 true))))) else (some false)))) else (some false)) = some true := H
            have A37 := Aside0.mk A370
            clear A370
            by_cases c38 : t50034 = true
            · subst c38
              have H1 : ((laws_toPairS.f kj12 l1).bind fun t50035 => ((laws_eqPairS.f kj12 t50019 t50035).bind fun t50038 => (if t50038 = true then ((laws_markStatementS.f kj12 t50016 1).bind fun bt50039 => ((laws_markPairS.f kj12 t50019 bt50039.1).bind fun bt50041 => (if bt50041.1 < 0 then (laws_FnExactDealRun.j1 kj12 l0 l1 t50009 t50010 t50013 t50023 t50024 true) else (if t50022 = t50009 then ((laws_eqIntS.f kj12 t50023 t50010).bind fun t50043 => (if t50043 = true then ((laws_eqPairS.f kj12 t50024 t50013).bind fun t50044 => (laws_FnExactDealRun.j1 kj12 l0 l1 t50009 t50010 t50013 t50023 t50024 (!t50044))) else (laws_FnExactDealRun.j1 kj12 l0 l1 t50009 t50010 t50013 t50023 t50024 true))) else (laws_FnExactDealRun.j1 kj12 l0 l1 t50009 t50010 t50013 t50023 t50024 true))))) else (some false)))) = some true := by rw [if_pos rfl] at H; exact H
              clear H
              have H := H1
              clear H1
              replace H := Option.bind_eq_some_iff.mp H
              obtain ⟨t50035, A390, H⟩ := H
              replace H : ((laws_eqPairS.f kj12 t50019 t50035).bind fun t50038 => (if t50038 = true then ((laws_markStatementS.f kj12 t50016 1).bind fun bt50039 => ((laws_markPairS.f kj12 t50019 bt50039.1).bind fun bt50041 => (if bt50041.1 < 0 then (laws_FnExactDealRun.j1 kj12 l0 l1 t50009 t50010 t50013 t50023 t50024 true) else (if t50022 = t50009 then ((laws_eqIntS.f kj12 t50023 t50010).bind fun t50043 => (if t50043 = true then ((laws_eqPairS.f kj12 t50024 t50013).bind fun t50044 => (laws_FnExactDealRun.j1 kj12 l0 l1 t50009 t50010 t50013 t50023 t50024 (!t50044))) else (laws_FnExactDealRun.j1 kj12 l0 l1 t50009 t50010 t50013 t50023 t50024 true))) else (laws_FnExactDealRun.j1 kj12 l0 l1 t50009 t50010 t50013 t50023 t50024 true))))) else (some false))) = some true := H
              have A39 := Aside0.mk A390
              clear A390
              replace H := Option.bind_eq_some_iff.mp H
              obtain ⟨t50038, A400, H⟩ := H
              replace H : (if t50038 = true then ((laws_markStatementS.f kj12 t50016 1).bind fun bt50039 => ((laws_markPairS.f kj12 t50019 bt50039.1).bind fun bt50041 => (if bt50041.1 < 0 then (laws_FnExactDealRun.j1 kj12 l0 l1 t50009 t50010 t50013 t50023 t50024 true) else (if t50022 = t50009 then ((laws_eqIntS.f kj12 t50023 t50010).bind fun t50043 => (if t50043 = true then ((laws_eqPairS.f kj12 t50024 t50013).bind fun t50044 => (laws_FnExactDealRun.j1 kj12 l0 l1 t50009 t50010 t50013 t50023 t50024 (!t50044))) else (laws_FnExactDealRun.j1 kj12 l0 l1 t50009 t50010 t50013 t50023 t50024 true))) else (laws_FnExactDealRun.j1 kj12 l0 l1 t50009 t50010 t50013 t50023 t50024 true))))) else (some false)) = some true := H
              have A40 := Aside0.mk A400
              clear A400
              by_cases c41 : t50038 = true
              · subst c41
                have H1 : ((laws_markStatementS.f kj12 t50016 1).bind fun bt50039 => ((laws_markPairS.f kj12 t50019 bt50039.1).bind fun bt50041 => (if bt50041.1 < 0 then (laws_FnExactDealRun.j1 kj12 l0 l1 t50009 t50010 t50013 t50023 t50024 true) else (if t50022 = t50009 then ((laws_eqIntS.f kj12 t50023 t50010).bind fun t50043 => (if t50043 = true then ((laws_eqPairS.f kj12 t50024 t50013).bind fun t50044 => (laws_FnExactDealRun.j1 kj12 l0 l1 t50009 t50010 t50013 t50023 t50024 (!t50044))) else (laws_FnExactDealRun.j1 kj12 l0 l1 t50009 t50010 t50013 t50023 t50024 true))) else (laws_FnExactDealRun.j1 kj12 l0 l1 t50009 t50010 t50013 t50023 t50024 true))))) = some true := by rw [if_pos rfl] at H; exact H
                clear H
                have H := H1
                clear H1
                replace H := Option.bind_eq_some_iff.mp H
                obtain ⟨⟨t50039, t50040⟩, A420, H⟩ := H
                replace H : ((laws_markPairS.f kj12 t50019 t50039).bind fun bt50041 => (if bt50041.1 < 0 then (laws_FnExactDealRun.j1 kj12 l0 l1 t50009 t50010 t50013 t50023 t50024 true) else (if t50022 = t50009 then ((laws_eqIntS.f kj12 t50023 t50010).bind fun t50043 => (if t50043 = true then ((laws_eqPairS.f kj12 t50024 t50013).bind fun t50044 => (laws_FnExactDealRun.j1 kj12 l0 l1 t50009 t50010 t50013 t50023 t50024 (!t50044))) else (laws_FnExactDealRun.j1 kj12 l0 l1 t50009 t50010 t50013 t50023 t50024 true))) else (laws_FnExactDealRun.j1 kj12 l0 l1 t50009 t50010 t50013 t50023 t50024 true)))) = some true := H
                have A42 := Aside0.mk A420
                clear A420
                replace H := Option.bind_eq_some_iff.mp H
                obtain ⟨⟨t50041, t50042⟩, A430, H⟩ := H
                replace H : (if t50041 < 0 then (laws_FnExactDealRun.j1 kj12 l0 l1 t50009 t50010 t50013 t50023 t50024 true) else (if t50022 = t50009 then ((laws_eqIntS.f kj12 t50023 t50010).bind fun t50043 => (if t50043 = true then ((laws_eqPairS.f kj12 t50024 t50013).bind fun t50044 => (laws_FnExactDealRun.j1 kj12 l0 l1 t50009 t50010 t50013 t50023 t50024 (!t50044))) else (laws_FnExactDealRun.j1 kj12 l0 l1 t50009 t50010 t50013 t50023 t50024 true))) else (laws_FnExactDealRun.j1 kj12 l0 l1 t50009 t50010 t50013 t50023 t50024 true))) = some true := H
                have A43 := Aside0.mk A430
                clear A430
                have HC44 := Aside0.mk H
                clear H
                go_upto_region 21 with (first | ((with_reducible refine gate_callee (f := 16) rfl ?_); refine goesL_ (some 67) rfl rfl Try.func16 (by kernel_rfl) rfl #[.slice A0 l0.length c0] rfl (by (try simp only [List.map_toArray, List.map_cons, List.map_nil]); first | done | rfl | (simp only [List.length_drop, List.length_take]; rfl)) ?_; (with_reducible refine (laws_toStatementS.calls kj12 _ _ l0 t50031 _ ?side1 ?side2 A36.out).mono ?_); (case side1 => repeat (first | exact (Kd.C_below HR0.out HB.out) | (with_reducible refine Kd.C_alloc ?_ _) | (with_reducible refine Kd.C_drewN ?_ _) | (with_reducible refine Kd.C_drew ?_))); (case side2 => exact HC0.out); rintro e w45 ⟨v50032, rfl, ho0, hb⟩; refine ⟨_, rfl, ?_⟩; have n0_ := Aside0.mk (Kd.R_below (by (with_reducible repeat (first | apply Kd.R_alloc | apply Kd.R_drewN | apply Kd.R_drew)); exact HO_7.out) hb); have n1_ := Aside0.mk (Kd.R_below (by (with_reducible repeat (first | apply Kd.R_alloc | apply Kd.R_drewN | apply Kd.R_drew)); exact HO_8.out) hb); have n2_ := Aside0.mk (Kd.R_elder' (by (with_reducible repeat (first | apply Kd.R_alloc | apply Kd.R_drewN | apply Kd.R_drew)); exact HO_9.out) (Kd.R_base ho0) hb); have n3_ := Aside0.mk (Kd.R_below (by (with_reducible repeat (first | apply Kd.R_alloc | apply Kd.R_drewN | apply Kd.R_drew)); exact HO_10.out) hb); have n4_ := Aside0.mk (Kd.R_below (by (with_reducible repeat (first | apply Kd.R_alloc | apply Kd.R_drewN | apply Kd.R_drew)); exact HO_12.out) hb); have n5_ := Aside0.mk (Kd.R_below (by (with_reducible repeat (first | apply Kd.R_alloc | apply Kd.R_drewN | apply Kd.R_drew)); exact HO_13.out) hb); have n6_ := Aside0.mk (Kd.R_lower (Kd.R_new' ho0 (Kd.R_lt (by (with_reducible repeat (first | apply Kd.R_alloc | apply Kd.R_drewN | apply Kd.R_drew)); exact HO_9.out))) (below_size (by repeat (first | (with_reducible first | exact HB.out | apply below_alloc | apply pw_below_drewN | apply below_drew1) | exact HB.out)))); have n7_ := Aside0.mk (below_step (by repeat (first | (with_reducible first | exact HB.out | apply below_alloc | apply pw_below_drewN | apply below_drew1) | exact HB.out)) hb); clear HO_7; clear HO_8; clear HO_9; clear HO_10; clear HO_12; clear HO_13; clear HB; have HO_7 := n0_; have HO_8 := n1_; have HO_9 := n2_; have HO_10 := n3_; have HO_12 := n4_; have HO_13 := n5_; have HO50033 := n6_; have HB := n7_; clear n0_ n1_ n2_ n3_ n4_ n5_ n6_ n7_; (try clear hb); (try clear hb2); (try clear hk); (try clear hi); (try clear ho0); obtain ⟨Ao46, co46, eo46⟩ := Kd.R_slice HO50033.out; subst eo46) | ((with_reducible refine gate_callee (f := 18) rfl ?_); refine goesL_ (some 68) rfl rfl Try.func18 (by kernel_rfl) rfl #[.slice Ao21 t50016.length co21, .slice Ao46 t50031.length co46] rfl (by (try simp only [List.map_toArray, List.map_cons, List.map_nil]); first | done | rfl | (simp only [List.length_drop, List.length_take]; rfl)) ?_; (with_reducible refine (laws_eqStatementS.calls kj12 _ _ t50016 _ _ t50031 true _ ?side1 ?side2 ?side3 ?side4 A37.out).mono ?_); (case side1 => repeat (first | exact (Kd.R_reads' HO_9.out).2.2 | (with_reducible refine Kd.C_alloc ?_ _) | (with_reducible refine Kd.C_drewN ?_ _) | (with_reducible refine Kd.C_drew ?_))); (case side2 => exact (Kd.R_reads' HO_9.out).2.1); (case side3 => repeat (first | exact (Kd.R_reads' HO50033.out).2.2 | (with_reducible refine Kd.C_alloc ?_ _) | (with_reducible refine Kd.C_drewN ?_ _) | (with_reducible refine Kd.C_drew ?_))); (case side4 => exact (Kd.R_reads' HO50033.out).2.1); rintro e w47 ⟨rfl, hb⟩; refine ⟨_, rfl, ?_⟩; have n0_ := Aside0.mk (Kd.R_below (by (with_reducible repeat (first | apply Kd.R_alloc | apply Kd.R_drewN | apply Kd.R_drew)); exact HO_7.out) hb); have n1_ := Aside0.mk (Kd.R_below (by (with_reducible repeat (first | apply Kd.R_alloc | apply Kd.R_drewN | apply Kd.R_drew)); exact HO_8.out) hb); have n2_ := Aside0.mk (Kd.R_below (by (with_reducible repeat (first | apply Kd.R_alloc | apply Kd.R_drewN | apply Kd.R_drew)); exact HO_9.out) hb); have n3_ := Aside0.mk (Kd.R_below (by (with_reducible repeat (first | apply Kd.R_alloc | apply Kd.R_drewN | apply Kd.R_drew)); exact HO_10.out) hb); have n4_ := Aside0.mk (Kd.R_below (by (with_reducible repeat (first | apply Kd.R_alloc | apply Kd.R_drewN | apply Kd.R_drew)); exact HO_12.out) hb); have n5_ := Aside0.mk (Kd.R_below (by (with_reducible repeat (first | apply Kd.R_alloc | apply Kd.R_drewN | apply Kd.R_drew)); exact HO_13.out) hb); have n6_ := Aside0.mk (Kd.R_below (by (with_reducible repeat (first | apply Kd.R_alloc | apply Kd.R_drewN | apply Kd.R_drew)); exact HO50033.out) hb); have n7_ := Aside0.mk (below_step (by repeat (first | (with_reducible first | exact HB.out | apply below_alloc | apply pw_below_drewN | apply below_drew1) | exact HB.out)) hb); clear HO_7; clear HO_8; clear HO_9; clear HO_10; clear HO_12; clear HO_13; clear HO50033; clear HB; have HO_7 := n0_; have HO_8 := n1_; have HO_9 := n2_; have HO_10 := n3_; have HO_12 := n4_; have HO_13 := n5_; have HO50033 := n6_; have HB := n7_; clear n0_ n1_ n2_ n3_ n4_ n5_ n6_ n7_; (try clear hb); (try clear hb2); (try clear hk); (try clear hi)) | ((with_reducible refine gate_callee (f := 21) rfl ?_); refine goesL_ (some 72) rfl rfl Try.func21 (by kernel_rfl) rfl #[.slice A1 l1.length c1] rfl (by (try simp only [List.map_toArray, List.map_cons, List.map_nil]); first | done | rfl | (simp only [List.length_drop, List.length_take]; rfl)) ?_; (with_reducible refine (laws_toPairS.calls kj12 _ _ l1 t50035 _ ?side1 ?side2 A39.out).mono ?_); (case side1 => repeat (first | exact (Kd.C_below HR1.out HB.out) | (with_reducible refine Kd.C_alloc ?_ _) | (with_reducible refine Kd.C_drewN ?_ _) | (with_reducible refine Kd.C_drew ?_))); (case side2 => exact HC1.out); rintro e w48 ⟨v50036, rfl, ho0, hb⟩; refine ⟨_, rfl, ?_⟩; have n0_ := Aside0.mk (Kd.R_below (by (with_reducible repeat (first | apply Kd.R_alloc | apply Kd.R_drewN | apply Kd.R_drew)); exact HO_7.out) hb); have n1_ := Aside0.mk (Kd.R_elder' (by (with_reducible repeat (first | apply Kd.R_alloc | apply Kd.R_drewN | apply Kd.R_drew)); exact HO_8.out) (Kd.R_base ho0) hb); have n2_ := Aside0.mk (Kd.R_below (by (with_reducible repeat (first | apply Kd.R_alloc | apply Kd.R_drewN | apply Kd.R_drew)); exact HO_9.out) hb); have n3_ := Aside0.mk (Kd.R_elder' (by (with_reducible repeat (first | apply Kd.R_alloc | apply Kd.R_drewN | apply Kd.R_drew)); exact HO_10.out) (Kd.R_base ho0) hb); have n4_ := Aside0.mk (Kd.R_below (by (with_reducible repeat (first | apply Kd.R_alloc | apply Kd.R_drewN | apply Kd.R_drew)); exact HO_12.out) hb); have n5_ := Aside0.mk (Kd.R_elder' (by (with_reducible repeat (first | apply Kd.R_alloc | apply Kd.R_drewN | apply Kd.R_drew)); exact HO_13.out) (Kd.R_base ho0) hb); have n6_ := Aside0.mk (Kd.R_below (by (with_reducible repeat (first | apply Kd.R_alloc | apply Kd.R_drewN | apply Kd.R_drew)); exact HO50033.out) hb); have n7_ := Aside0.mk (Kd.R_lower (Kd.R_new' (Kd.R_new' (Kd.R_new' ho0 (Kd.R_lt (by (with_reducible repeat (first | apply Kd.R_alloc | apply Kd.R_drewN | apply Kd.R_drew)); exact HO_8.out))) (Kd.R_lt (by (with_reducible repeat (first | apply Kd.R_alloc | apply Kd.R_drewN | apply Kd.R_drew)); exact HO_10.out))) (Kd.R_lt (by (with_reducible repeat (first | apply Kd.R_alloc | apply Kd.R_drewN | apply Kd.R_drew)); exact HO_13.out))) (below_size (by repeat (first | (with_reducible first | exact HB.out | apply below_alloc | apply pw_below_drewN | apply below_drew1) | exact HB.out)))); have n8_ := Aside0.mk (below_step (by repeat (first | (with_reducible first | exact HB.out | apply below_alloc | apply pw_below_drewN | apply below_drew1) | exact HB.out)) hb); clear HO_7; clear HO_8; clear HO_9; clear HO_10; clear HO_12; clear HO_13; clear HO50033; clear HB; have HO_7 := n0_; have HO_8 := n1_; have HO_9 := n2_; have HO_10 := n3_; have HO_12 := n4_; have HO_13 := n5_; have HO50033 := n6_; have HO50037 := n7_; have HB := n8_; clear n0_ n1_ n2_ n3_ n4_ n5_ n6_ n7_ n8_; (try clear hb); (try clear hb2); (try clear hk); (try clear hi); (try clear ho0); obtain ⟨Ao49, co49, eo49⟩ := Kd.R_slice HO50037.out; subst eo49) | ((with_reducible refine gate_callee (f := 24) rfl ?_); refine goesL_ (some 73) rfl rfl Try.func24 (by kernel_rfl) rfl #[.slice Ao22 t50019.length co22, .slice Ao49 t50035.length co49] rfl (by (try simp only [List.map_toArray, List.map_cons, List.map_nil]); first | done | rfl | (simp only [List.length_drop, List.length_take]; rfl)) ?_; (with_reducible refine (laws_eqPairS.calls kj12 _ _ t50019 _ _ t50035 true _ ?side1 ?side2 ?side3 ?side4 A40.out).mono ?_); (case side1 => repeat (first | exact (Kd.R_reads' HO_10.out).2.2 | (with_reducible refine Kd.C_alloc ?_ _) | (with_reducible refine Kd.C_drewN ?_ _) | (with_reducible refine Kd.C_drew ?_))); (case side2 => exact (Kd.R_reads' HO_10.out).2.1); (case side3 => repeat (first | exact (Kd.R_reads' HO50037.out).2.2 | (with_reducible refine Kd.C_alloc ?_ _) | (with_reducible refine Kd.C_drewN ?_ _) | (with_reducible refine Kd.C_drew ?_))); (case side4 => exact (Kd.R_reads' HO50037.out).2.1); rintro e w50 ⟨rfl, hb⟩; refine ⟨_, rfl, ?_⟩; have n0_ := Aside0.mk (Kd.R_below (by (with_reducible repeat (first | apply Kd.R_alloc | apply Kd.R_drewN | apply Kd.R_drew)); exact HO_7.out) hb); have n1_ := Aside0.mk (Kd.R_below (by (with_reducible repeat (first | apply Kd.R_alloc | apply Kd.R_drewN | apply Kd.R_drew)); exact HO_8.out) hb); have n2_ := Aside0.mk (Kd.R_below (by (with_reducible repeat (first | apply Kd.R_alloc | apply Kd.R_drewN | apply Kd.R_drew)); exact HO_9.out) hb); have n3_ := Aside0.mk (Kd.R_below (by (with_reducible repeat (first | apply Kd.R_alloc | apply Kd.R_drewN | apply Kd.R_drew)); exact HO_10.out) hb); have n4_ := Aside0.mk (Kd.R_below (by (with_reducible repeat (first | apply Kd.R_alloc | apply Kd.R_drewN | apply Kd.R_drew)); exact HO_12.out) hb); have n5_ := Aside0.mk (Kd.R_below (by (with_reducible repeat (first | apply Kd.R_alloc | apply Kd.R_drewN | apply Kd.R_drew)); exact HO_13.out) hb); have n6_ := Aside0.mk (Kd.R_below (by (with_reducible repeat (first | apply Kd.R_alloc | apply Kd.R_drewN | apply Kd.R_drew)); exact HO50033.out) hb); have n7_ := Aside0.mk (Kd.R_below (by (with_reducible repeat (first | apply Kd.R_alloc | apply Kd.R_drewN | apply Kd.R_drew)); exact HO50037.out) hb); have n8_ := Aside0.mk (below_step (by repeat (first | (with_reducible first | exact HB.out | apply below_alloc | apply pw_below_drewN | apply below_drew1) | exact HB.out)) hb); clear HO_7; clear HO_8; clear HO_9; clear HO_10; clear HO_12; clear HO_13; clear HO50033; clear HO50037; clear HB; have HO_7 := n0_; have HO_8 := n1_; have HO_9 := n2_; have HO_10 := n3_; have HO_12 := n4_; have HO_13 := n5_; have HO50033 := n6_; have HO50037 := n7_; have HB := n8_; clear n0_ n1_ n2_ n3_ n4_ n5_ n6_ n7_ n8_; (try clear hb); (try clear hb2); (try clear hk); (try clear hi)) | ((with_reducible refine gate_callee (f := 25) rfl ?_); refine goesL_ (some 77) rfl rfl Try.func25 (by kernel_rfl) rfl #[.slice Ao21 t50016.length co21, .int .i64 1] rfl (by (try simp only [List.map_toArray, List.map_cons, List.map_nil]); first | done | rfl | (simp only [List.length_drop, List.length_take]; rfl)) ?_; (with_reducible refine (laws_markStatementS.calls kj12 (fun k_ => some k_ = (.slice Ao21 t50016.length co21 : Value).ownBlock) (.slice Ao21 t50016.length co21) t50016 1 t50039 t50040 w _ ?side1 ?side2 A42.out).mono ?_); (case side1 => repeat (first | (with_reducible first | exact HB.out | apply below_alloc | apply pw_below_drewN | apply below_drew1) | exact HB.out)); (case side2 => exact Kd.R_tight rfl HO_9.out); rintro e w51 ⟨rfl, hy0, hb, hkp⟩; refine ⟨_, rfl, ?_⟩; have n0_ := Aside0.mk (Kd.R_mono (ok' := fun k_ => some k_ ≠ (v50025 : Value).ownBlock) (Kd.R_keptB ((Kd.R_apart' HO_7.out (Kd.R_typed HO_9.out) (by decide))) hkp (fun k_ hk_ hs_ => (hk_.2) hs_)) (fun k_ hk_ => hk_.1.1)); have n1_ := Aside0.mk (Kd.R_mono (ok' := fun k_ => some k_ ≠ (.slice Ao22 t50019.length co22 : Value).ownBlock ∧ some k_ ≠ (v50027 : Value).ownBlock ∧ some k_ ≠ (.slice Ao49 t50035.length co49 : Value).ownBlock) (Kd.R_keptB ((Kd.R_apart' HO_8.out (Kd.R_typed HO_9.out) (by decide))) hkp (fun k_ hk_ hs_ => (hk_.2) hs_)) (fun k_ hk_ => ⟨hk_.1.1.1.1, hk_.1.1.1.2, hk_.1.1.2⟩)); have n2_ := Aside0.mk (Kd.R_reok rfl hy0 (fun k_ e_ => HO_9.out.1 k_ e_)); have n3_ := Aside0.mk (Kd.R_mono (ok' := fun k_ => some k_ ≠ (v50014 : Value).ownBlock ∧ some k_ ≠ (v50027 : Value).ownBlock ∧ some k_ ≠ (.slice Ao49 t50035.length co49 : Value).ownBlock) (Kd.R_keptB ((Kd.R_apart' HO_10.out (Kd.R_typed HO_9.out) (by decide))) hkp (fun k_ hk_ hs_ => (hk_.2) hs_)) (fun k_ hk_ => ⟨hk_.1.1.1.1, hk_.1.1.1.2, hk_.1.1.2⟩)); have n4_ := Aside0.mk (Kd.R_mono (ok' := fun k_ => some k_ ≠ (v50011 : Value).ownBlock) (Kd.R_keptB ((Kd.R_apart' HO_12.out (Kd.R_typed HO_9.out) (by decide))) hkp (fun k_ hk_ hs_ => (hk_.2) hs_)) (fun k_ hk_ => hk_.1.1)); have n5_ := Aside0.mk (Kd.R_mono (ok' := fun k_ => some k_ ≠ (v50014 : Value).ownBlock ∧ some k_ ≠ (.slice Ao22 t50019.length co22 : Value).ownBlock ∧ some k_ ≠ (.slice Ao49 t50035.length co49 : Value).ownBlock) (Kd.R_keptB ((Kd.R_apart' HO_13.out (Kd.R_typed HO_9.out) (by decide))) hkp (fun k_ hk_ hs_ => (hk_.2) hs_)) (fun k_ hk_ => ⟨hk_.1.1.1.1, hk_.1.1.1.2, hk_.1.1.2⟩)); have n6_ := Aside0.mk (Kd.R_mono (ok' := fun k_ => some k_ ≠ (.slice Ao21 t50016.length co21 : Value).ownBlock) (Kd.R_keptB (HO50033.out) hkp (fun k_ hk_ hs_ => (hk_.2) hs_)) (fun k_ hk_ => hk_.1.2)); have n7_ := Aside0.mk (Kd.R_mono (ok' := fun k_ => some k_ ≠ (v50014 : Value).ownBlock ∧ some k_ ≠ (.slice Ao22 t50019.length co22 : Value).ownBlock ∧ some k_ ≠ (v50027 : Value).ownBlock) (Kd.R_keptB ((Kd.R_apart' HO50037.out (Kd.R_typed HO_9.out) (by decide))) hkp (fun k_ hk_ hs_ => (hk_.2) hs_)) (fun k_ hk_ => ⟨hk_.1.1.1.1.2, hk_.1.1.1.2, hk_.1.1.2⟩)); have n8_ := Aside0.mk (hb); clear HO_7; clear HO_8; clear HO_9; clear HO_10; clear HO_12; clear HO_13; clear HO50033; clear HO50037; clear HB; have HO_7 := n0_; have HO_8 := n1_; have HO_9 := n2_; have HO_10 := n3_; have HO_12 := n4_; have HO_13 := n5_; have HO50033 := n6_; have HO50037 := n7_; have HB := n8_; clear n0_ n1_ n2_ n3_ n4_ n5_ n6_ n7_ n8_; (try clear hb); (try clear hkp); (try clear hy0)) | ((with_reducible refine gate_callee (f := 26) rfl ?_); refine goesL_ (some 80) rfl rfl Try.func26 (by kernel_rfl) rfl #[.slice Ao22 t50019.length co22, .int .i64 t50039] rfl (by (try simp only [List.map_toArray, List.map_cons, List.map_nil]); first | done | rfl | (simp only [List.length_drop, List.length_take]; rfl)) ?_; (with_reducible refine (laws_markPairS.calls kj12 (fun k_ => some k_ = (.slice Ao22 t50019.length co22 : Value).ownBlock) (.slice Ao22 t50019.length co22) t50019 t50039 t50041 t50042 w _ ?side1 ?side2 A43.out).mono ?_); (case side1 => repeat (first | (with_reducible first | exact HB.out | apply below_alloc | apply pw_below_drewN | apply below_drew1) | exact HB.out)); (case side2 => exact Kd.R_tight rfl HO_10.out); rintro e w52 ⟨rfl, hy0, hb, hkp⟩; refine ⟨_, rfl, ?_⟩; have n0_ := Aside0.mk (Kd.R_mono (ok' := fun k_ => some k_ ≠ (v50025 : Value).ownBlock) (Kd.R_keptB ((Kd.R_apart' HO_7.out (Kd.R_typed HO_10.out) (by decide))) hkp (fun k_ hk_ hs_ => (hk_.2) hs_)) (fun k_ hk_ => hk_.1.1)); have n1_ := Aside0.mk (Kd.R_mono (ok' := fun k_ => some k_ ≠ (.slice Ao22 t50019.length co22 : Value).ownBlock ∧ some k_ ≠ (v50027 : Value).ownBlock ∧ some k_ ≠ (.slice Ao49 t50035.length co49 : Value).ownBlock) (Kd.R_keptB (HO_8.out) hkp (fun k_ hk_ hs_ => (hk_.1) hs_)) (fun k_ hk_ => ⟨hk_.1.1, hk_.1.2.1, hk_.1.2.2⟩)); have n2_ := Aside0.mk (Kd.R_mono (ok' := fun k_ => some k_ ≠ (.slice Ao46 t50031.length co46 : Value).ownBlock) (Kd.R_keptB ((Kd.R_apart' HO_9.out (Kd.R_typed HO_10.out) (by decide))) hkp (fun k_ hk_ hs_ => (hk_.2) hs_)) (fun k_ hk_ => hk_.1.1.2)); have n3_ := Aside0.mk (Kd.R_reok rfl hy0 (fun k_ e_ => HO_10.out.1 k_ e_)); have n4_ := Aside0.mk (Kd.R_mono (ok' := fun k_ => some k_ ≠ (v50011 : Value).ownBlock) (Kd.R_keptB ((Kd.R_apart' HO_12.out (Kd.R_typed HO_10.out) (by decide))) hkp (fun k_ hk_ hs_ => (hk_.2) hs_)) (fun k_ hk_ => hk_.1.1)); have n5_ := Aside0.mk (Kd.R_mono (ok' := fun k_ => some k_ ≠ (v50014 : Value).ownBlock ∧ some k_ ≠ (.slice Ao22 t50019.length co22 : Value).ownBlock ∧ some k_ ≠ (.slice Ao49 t50035.length co49 : Value).ownBlock) (Kd.R_keptB (HO_13.out) hkp (fun k_ hk_ hs_ => (hk_.2.1) hs_)) (fun k_ hk_ => ⟨hk_.1.1, hk_.1.2.1, hk_.1.2.2⟩)); have n6_ := Aside0.mk (Kd.R_mono (ok' := fun k_ => some k_ ≠ (.slice Ao21 t50016.length co21 : Value).ownBlock) (Kd.R_keptB ((Kd.R_apart' HO50033.out (Kd.R_typed HO_10.out) (by decide))) hkp (fun k_ hk_ hs_ => (hk_.2) hs_)) (fun k_ hk_ => hk_.1.1)); have n7_ := Aside0.mk (Kd.R_mono (ok' := fun k_ => some k_ ≠ (v50014 : Value).ownBlock ∧ some k_ ≠ (.slice Ao22 t50019.length co22 : Value).ownBlock ∧ some k_ ≠ (v50027 : Value).ownBlock) (Kd.R_keptB (HO50037.out) hkp (fun k_ hk_ hs_ => (hk_.2.1) hs_)) (fun k_ hk_ => ⟨hk_.1.1, hk_.1.2.1, hk_.1.2.2⟩)); have n8_ := Aside0.mk (hb); clear HO_7; clear HO_8; clear HO_9; clear HO_10; clear HO_12; clear HO_13; clear HO50033; clear HO50037; clear HB; have HO_7 := n0_; have HO_8 := n1_; have HO_9 := n2_; have HO_10 := n3_; have HO_12 := n4_; have HO_13 := n5_; have HO50033 := n6_; have HO50037 := n7_; have HB := n8_; clear n0_ n1_ n2_ n3_ n4_ n5_ n6_ n7_ n8_; (try clear hb); (try clear hkp); (try clear hy0)))
                (try simp only [Act.put, List.setIfInBounds_toArray, List.set_cons_zero, List.set_cons_succ])
                go_cut [99] (fun v99 wc => ∃ (kq : Nat) (x99_43 : Bool), v99 = .bool x99_43 ∧ Aside0 (laws_FnExactDealRun.j1 kq l0 l1 t50009 t50010 t50013 t50023 t50024 x99_43 = some true) ∧ Aside0 (kq ≤ kj12) ∧ Aside0 (Kd.R (Kd.int .i64) 3 wc w.heap.size (fun k_ => some k_ ≠ (v50025 : Value).ownBlock) v50011 t50010) ∧ Aside0 (Kd.R k48 48 wc w.heap.size (fun k_ => some k_ ≠ (v50027 : Value).ownBlock) v50014 t50013) ∧ Aside0 (Kd.R (Kd.int .i64) 3 wc w.heap.size (fun k_ => some k_ ≠ (v50011 : Value).ownBlock) v50025 t50023) ∧ Aside0 (Kd.R k48 48 wc w.heap.size (fun k_ => some k_ ≠ (v50014 : Value).ownBlock) v50027 t50024) ∧ Aside0 (Below w.heap.size w wc))
                case first =>
                  have H := HC44.out
                  clear HC44
                  by_cases c53 : t50041 < 0
                  · rw [if_pos c53] at H
                    have c53b0 : decide (t50041 < 0) = true := decide_eq_true c53
                    clear c53
                    (first | rw [c53b0] | (simp only [i64_w, i32_w]; rw [c53b0]) | skip)
                    have H' := Aside0.mk H
                    clear H
                    go_wp2
                    go_meet
                    case rel => exact ⟨_, (true), (by first | rfl | (simp; done) | (simp [*]; done)), H', ⟨by have := HJ12.out; first | omega | exact Nat.le_refl _⟩, ⟨by (with_reducible repeat (first | apply Kd.R_alloc | apply Kd.R_drewN | apply Kd.R_drew)); exact HO_7.out⟩, ⟨by (with_reducible repeat (first | apply Kd.R_alloc | apply Kd.R_drewN | apply Kd.R_drew)); exact Kd.R_mono HO_8.out (fun _ hk => hk.2.1)⟩, ⟨by (with_reducible repeat (first | apply Kd.R_alloc | apply Kd.R_drewN | apply Kd.R_drew)); exact HO_12.out⟩, ⟨by (with_reducible repeat (first | apply Kd.R_alloc | apply Kd.R_drewN | apply Kd.R_drew)); exact Kd.R_mono HO_13.out (fun _ hk => hk.1)⟩, ⟨by repeat (first | (with_reducible first | exact HB.out | apply below_alloc | apply pw_below_drewN | apply below_drew1) | exact HB.out)⟩⟩
                  · rw [if_neg c53] at H
                    have c53b0 : decide (t50041 < 0) = false := decide_eq_false c53
                    clear c53
                    (first | rw [c53b0] | (simp only [i64_w, i32_w]; rw [c53b0]) | skip)
                    by_cases c54 : t50022 = t50009
                    · rw [if_pos c54] at H
                      have c54b0 : (t50022 == t50009) = true := beq_iff_eq.mpr c54
                      have c54b1 : (t50022 != t50009) = false := bne_eq_false_iff_eq.mpr c54
                      clear c54
                      replace H := Option.bind_eq_some_iff.mp H
                      obtain ⟨t50043, A550, H⟩ := H
                      replace H : (if t50043 = true then ((laws_eqPairS.f kj12 t50024 t50013).bind fun t50044 => (laws_FnExactDealRun.j1 kj12 l0 l1 t50009 t50010 t50013 t50023 t50024 (!t50044))) else (laws_FnExactDealRun.j1 kj12 l0 l1 t50009 t50010 t50013 t50023 t50024 true)) = some true := H
                      have A55 := Aside0.mk A550
                      clear A550
                      by_cases c56 : t50043 = true
                      · subst c56
                        have H1 : ((laws_eqPairS.f kj12 t50024 t50013).bind fun t50044 => (laws_FnExactDealRun.j1 kj12 l0 l1 t50009 t50010 t50013 t50023 t50024 (!t50044))) = some true := by rw [if_pos rfl] at H; exact H
                        clear H
                        have H := H1
                        clear H1
                        replace H := Option.bind_eq_some_iff.mp H
                        obtain ⟨t50044, A570, H⟩ := H
                        replace H : (laws_FnExactDealRun.j1 kj12 l0 l1 t50009 t50010 t50013 t50023 t50024 (!t50044)) = some true := H
                        have A57 := Aside0.mk A570
                        clear A570
                        have H' := Aside0.mk H
                        clear H
                        obtain ⟨Ao58, co58, eo58⟩ := Kd.R_slice HO_12.out
                        subst eo58
                        obtain ⟨Ao59, co59, eo59⟩ := Kd.R_slice HO_7.out
                        subst eo59
                        go_wp2_with (first | (go_at_call 23; (with_reducible refine (laws_eqIntS.calls kj12 _ _ t50023 _ _ t50010 true _ ?side1 ?side2 ?side3 ?side4 A55.out).mono ?_); (case side1 => repeat (first | exact (Kd.R_reads' HO_12.out).2.2 | (with_reducible refine Kd.C_alloc ?_ _) | (with_reducible refine Kd.C_drewN ?_ _) | (with_reducible refine Kd.C_drew ?_))); (case side2 => exact (Kd.R_reads' HO_12.out).2.1); (case side3 => repeat (first | exact (Kd.R_reads' HO_7.out).2.2 | (with_reducible refine Kd.C_alloc ?_ _) | (with_reducible refine Kd.C_drewN ?_ _) | (with_reducible refine Kd.C_drew ?_))); (case side4 => exact (Kd.R_reads' HO_7.out).2.1); rintro e w' ⟨rfl, ⟨nd, rfl⟩⟩; obtain ⟨Ao60, co60, eo60⟩ := Kd.R_slice HO_13.out; subst eo60; obtain ⟨Ao61, co61, eo61⟩ := Kd.R_slice HO_8.out; subst eo61) | (go_at_call 24; (with_reducible refine (laws_eqPairS.calls kj12 _ _ t50024 _ _ t50013 t50044 _ ?side1 ?side2 ?side3 ?side4 A57.out).mono ?_); (case side1 => repeat (first | exact (Kd.R_reads' HO_13.out).2.2 | (with_reducible refine Kd.C_alloc ?_ _) | (with_reducible refine Kd.C_drewN ?_ _) | (with_reducible refine Kd.C_drew ?_))); (case side2 => exact (Kd.R_reads' HO_13.out).2.1); (case side3 => repeat (first | exact (Kd.R_reads' HO_8.out).2.2 | (with_reducible refine Kd.C_alloc ?_ _) | (with_reducible refine Kd.C_drewN ?_ _) | (with_reducible refine Kd.C_drew ?_))); (case side4 => exact (Kd.R_reads' HO_8.out).2.1); rintro e w62 ⟨rfl, hb⟩; have n0_ := Aside0.mk (Kd.R_below (by (with_reducible repeat (first | apply Kd.R_alloc | apply Kd.R_drewN | apply Kd.R_drew)); exact HO_7.out) hb); have n1_ := Aside0.mk (Kd.R_below (by (with_reducible repeat (first | apply Kd.R_alloc | apply Kd.R_drewN | apply Kd.R_drew)); exact HO_8.out) hb); have n2_ := Aside0.mk (Kd.R_below (by (with_reducible repeat (first | apply Kd.R_alloc | apply Kd.R_drewN | apply Kd.R_drew)); exact HO_9.out) hb); have n3_ := Aside0.mk (Kd.R_below (by (with_reducible repeat (first | apply Kd.R_alloc | apply Kd.R_drewN | apply Kd.R_drew)); exact HO_10.out) hb); have n4_ := Aside0.mk (Kd.R_below (by (with_reducible repeat (first | apply Kd.R_alloc | apply Kd.R_drewN | apply Kd.R_drew)); exact HO_12.out) hb); have n5_ := Aside0.mk (Kd.R_below (by (with_reducible repeat (first | apply Kd.R_alloc | apply Kd.R_drewN | apply Kd.R_drew)); exact HO_13.out) hb); have n6_ := Aside0.mk (Kd.R_below (by (with_reducible repeat (first | apply Kd.R_alloc | apply Kd.R_drewN | apply Kd.R_drew)); exact HO50033.out) hb); have n7_ := Aside0.mk (Kd.R_below (by (with_reducible repeat (first | apply Kd.R_alloc | apply Kd.R_drewN | apply Kd.R_drew)); exact HO50037.out) hb); have n8_ := Aside0.mk (below_step (by repeat (first | (with_reducible first | exact HB.out | apply below_alloc | apply pw_below_drewN | apply below_drew1) | exact HB.out)) hb); clear HO_7; clear HO_8; clear HO_9; clear HO_10; clear HO_12; clear HO_13; clear HO50033; clear HO50037; clear HB; have HO_7 := n0_; have HO_8 := n1_; have HO_9 := n2_; have HO_10 := n3_; have HO_12 := n4_; have HO_13 := n5_; have HO50033 := n6_; have HO50037 := n7_; have HB := n8_; clear n0_ n1_ n2_ n3_ n4_ n5_ n6_ n7_ n8_; (try clear hb); (try clear hb2); (try clear hk); (try clear hi)))
                        go_meet
                        case rel => exact ⟨_, (!t50044), (by first | rfl | (simp; done) | (simp [*]; done)), H', ⟨by have := HJ12.out; first | omega | exact Nat.le_refl _⟩, ⟨by (with_reducible repeat (first | apply Kd.R_alloc | apply Kd.R_drewN | apply Kd.R_drew)); exact HO_7.out⟩, ⟨by (with_reducible repeat (first | apply Kd.R_alloc | apply Kd.R_drewN | apply Kd.R_drew)); exact Kd.R_mono HO_8.out (fun _ hk => hk.2.1)⟩, ⟨by (with_reducible repeat (first | apply Kd.R_alloc | apply Kd.R_drewN | apply Kd.R_drew)); exact HO_12.out⟩, ⟨by (with_reducible repeat (first | apply Kd.R_alloc | apply Kd.R_drewN | apply Kd.R_drew)); exact Kd.R_mono HO_13.out (fun _ hk => hk.1)⟩, ⟨by repeat (first | (with_reducible first | exact HB.out | apply below_alloc | apply pw_below_drewN | apply below_drew1) | exact HB.out)⟩⟩
                      · replace c56 := Bool.eq_false_iff.mpr c56
                        subst c56
                        have H1 : (laws_FnExactDealRun.j1 kj12 l0 l1 t50009 t50010 t50013 t50023 t50024 true) = some true := by rw [if_neg (show ¬ (false = true) by decide)] at H; exact H
                        clear H
                        have H := H1
                        clear H1
                        have H' := Aside0.mk H
                        clear H
                        obtain ⟨Ao63, co63, eo63⟩ := Kd.R_slice HO_12.out
                        subst eo63
                        obtain ⟨Ao64, co64, eo64⟩ := Kd.R_slice HO_7.out
                        subst eo64
                        go_wp2_with (first | (go_at_call 23; (with_reducible refine (laws_eqIntS.calls kj12 _ _ t50023 _ _ t50010 false _ ?side1 ?side2 ?side3 ?side4 A55.out).mono ?_); (case side1 => repeat (first | exact (Kd.R_reads' HO_12.out).2.2 | (with_reducible refine Kd.C_alloc ?_ _) | (with_reducible refine Kd.C_drewN ?_ _) | (with_reducible refine Kd.C_drew ?_))); (case side2 => exact (Kd.R_reads' HO_12.out).2.1); (case side3 => repeat (first | exact (Kd.R_reads' HO_7.out).2.2 | (with_reducible refine Kd.C_alloc ?_ _) | (with_reducible refine Kd.C_drewN ?_ _) | (with_reducible refine Kd.C_drew ?_))); (case side4 => exact (Kd.R_reads' HO_7.out).2.1); rintro e w' ⟨rfl, ⟨nd, rfl⟩⟩))
                        go_meet
                        case rel => exact ⟨_, (true), (by first | rfl | (simp; done) | (simp [*]; done)), H', ⟨by have := HJ12.out; first | omega | exact Nat.le_refl _⟩, ⟨by (with_reducible repeat (first | apply Kd.R_alloc | apply Kd.R_drewN | apply Kd.R_drew)); exact HO_7.out⟩, ⟨by (with_reducible repeat (first | apply Kd.R_alloc | apply Kd.R_drewN | apply Kd.R_drew)); exact Kd.R_mono HO_8.out (fun _ hk => hk.2.1)⟩, ⟨by (with_reducible repeat (first | apply Kd.R_alloc | apply Kd.R_drewN | apply Kd.R_drew)); exact HO_12.out⟩, ⟨by (with_reducible repeat (first | apply Kd.R_alloc | apply Kd.R_drewN | apply Kd.R_drew)); exact Kd.R_mono HO_13.out (fun _ hk => hk.1)⟩, ⟨by repeat (first | (with_reducible first | exact HB.out | apply below_alloc | apply pw_below_drewN | apply below_drew1) | exact HB.out)⟩⟩
                    · rw [if_neg c54] at H
                      have c54b0 : (t50022 == t50009) = false := beq_eq_false_iff_ne.mpr c54
                      have c54b1 : (t50022 != t50009) = true := bne_iff_ne.mpr c54
                      have H' := Aside0.mk H
                      clear H
                      go_wp2
                      go_meet
                      case rel => exact ⟨_, (true), (by first | rfl | (simp; done) | (simp [*]; done)), H', ⟨by have := HJ12.out; first | omega | exact Nat.le_refl _⟩, ⟨by (with_reducible repeat (first | apply Kd.R_alloc | apply Kd.R_drewN | apply Kd.R_drew)); exact HO_7.out⟩, ⟨by (with_reducible repeat (first | apply Kd.R_alloc | apply Kd.R_drewN | apply Kd.R_drew)); exact Kd.R_mono HO_8.out (fun _ hk => hk.2.1)⟩, ⟨by (with_reducible repeat (first | apply Kd.R_alloc | apply Kd.R_drewN | apply Kd.R_drew)); exact HO_12.out⟩, ⟨by (with_reducible repeat (first | apply Kd.R_alloc | apply Kd.R_drewN | apply Kd.R_drew)); exact Kd.R_mono HO_13.out (fun _ hk => hk.1)⟩, ⟨by repeat (first | (with_reducible first | exact HB.out | apply below_alloc | apply pw_below_drewN | apply below_drew1) | exact HB.out)⟩⟩
                case rest =>
                  clear HC44
                  try clear c1
                  try clear c2
                  try clear p2
                  try clear c3
                  try clear c4
                  try clear c4b0
                  try clear c5
                  try clear c6
                  try clear c6b0
                  try clear c14
                  try clear c16
                  try clear c18
                  try clear c19
                  try clear c20
                  try clear c21
                  try clear c22
                  try clear c24
                  try clear c24b0
                  try clear c24b1
                  try clear c25
                  try clear c26
                  try clear c35
                  try clear c38
                  try clear c41
                  try clear c53
                  try clear c53b0
                  try clear c54
                  try clear c54b0
                  try clear c54b1
                  try clear c56
                  try clear p2
                  obtain ⟨kq, x99_43, rfl, HA, HJ43, HO_7, HO_8, HO_12, HO_13, HB⟩ := hcut
                  cases kq with
                  | zero => exact absurd HA.out (by simp [laws_FnExactDealRun.j1])
                  | succ kj43 =>
                    have H := HA.out
                    clear HA
                    simp only [laws_FnExactDealRun.j1] at H
                    by_cases c65 : x99_43 = true
                    · subst c65
                      have H1 : (some false) = some true := by rw [if_pos rfl] at H; exact H
                      clear H
                      have H := H1
                      clear H1
                      exact absurd H (by decide)
                    · replace c65 := Bool.eq_false_iff.mpr c65
                      subst c65
                      have H1 : ((laws_markIntS.f kj43 t50023 1).bind fun bt50045 => ((laws_markPairS.f kj43 t50024 bt50045.1).bind fun bt50047 => ((laws_heldIntS.f kj43 bt50045.2 1).bind fun t50049 => (if t50049 < 0 then (some false) else ((laws_heldPairS.f kj43 bt50047.2 t50049).bind fun t50050 => (if t50050 < 0 then (some false) else (if t50050 = bt50047.1 then ((laws_toStatementS.f kj43 l0).bind fun t50051 => ((laws_toPairS.f kj43 l1).bind fun t50054 => ((impl_DealRun.f kj43 t50051 t50054).bind fun bt50057 => (if bt50057.1 = t50009 then ((laws_eqIntS.f kj43 bt50057.2.1 t50010).bind fun t50064 => (if t50064 = true then ((laws_eqPairS.f kj43 bt50057.2.2 t50013).bind fun t50065 => (laws_FnExactDealRun.j2 kj43 bt50045.2 bt50047.2 bt50047.1 (!t50065))) else (laws_FnExactDealRun.j2 kj43 bt50045.2 bt50047.2 bt50047.1 true))) else (laws_FnExactDealRun.j2 kj43 bt50045.2 bt50047.2 bt50047.1 true))))) else (some false)))))))) = some true := by rw [if_neg (show ¬ (false = true) by decide)] at H; exact H
                      clear H
                      have H := H1
                      clear H1
                      replace H := Option.bind_eq_some_iff.mp H
                      obtain ⟨⟨t50045, t50046⟩, A660, H⟩ := H
                      replace H : ((laws_markPairS.f kj43 t50024 t50045).bind fun bt50047 => ((laws_heldIntS.f kj43 t50046 1).bind fun t50049 => (if t50049 < 0 then (some false) else ((laws_heldPairS.f kj43 bt50047.2 t50049).bind fun t50050 => (if t50050 < 0 then (some false) else (if t50050 = bt50047.1 then ((laws_toStatementS.f kj43 l0).bind fun t50051 => ((laws_toPairS.f kj43 l1).bind fun t50054 => ((impl_DealRun.f kj43 t50051 t50054).bind fun bt50057 => (if bt50057.1 = t50009 then ((laws_eqIntS.f kj43 bt50057.2.1 t50010).bind fun t50064 => (if t50064 = true then ((laws_eqPairS.f kj43 bt50057.2.2 t50013).bind fun t50065 => (laws_FnExactDealRun.j2 kj43 t50046 bt50047.2 bt50047.1 (!t50065))) else (laws_FnExactDealRun.j2 kj43 t50046 bt50047.2 bt50047.1 true))) else (laws_FnExactDealRun.j2 kj43 t50046 bt50047.2 bt50047.1 true))))) else (some false))))))) = some true := H
                      have A66 := Aside0.mk A660
                      clear A660
                      replace H := Option.bind_eq_some_iff.mp H
                      obtain ⟨⟨t50047, t50048⟩, A670, H⟩ := H
                      replace H : ((laws_heldIntS.f kj43 t50046 1).bind fun t50049 => (if t50049 < 0 then (some false) else ((laws_heldPairS.f kj43 t50048 t50049).bind fun t50050 => (if t50050 < 0 then (some false) else (if t50050 = t50047 then ((laws_toStatementS.f kj43 l0).bind fun t50051 => ((laws_toPairS.f kj43 l1).bind fun t50054 => ((impl_DealRun.f kj43 t50051 t50054).bind fun bt50057 => (if bt50057.1 = t50009 then ((laws_eqIntS.f kj43 bt50057.2.1 t50010).bind fun t50064 => (if t50064 = true then ((laws_eqPairS.f kj43 bt50057.2.2 t50013).bind fun t50065 => (laws_FnExactDealRun.j2 kj43 t50046 t50048 t50047 (!t50065))) else (laws_FnExactDealRun.j2 kj43 t50046 t50048 t50047 true))) else (laws_FnExactDealRun.j2 kj43 t50046 t50048 t50047 true))))) else (some false)))))) = some true := H
                      have A67 := Aside0.mk A670
                      clear A670
                      replace H := Option.bind_eq_some_iff.mp H
                      obtain ⟨t50049, A680, H⟩ := H
                      replace H : (if t50049 < 0 then (some false) else ((laws_heldPairS.f kj43 t50048 t50049).bind fun t50050 => (if t50050 < 0 then (some false) else (if t50050 = t50047 then ((laws_toStatementS.f kj43 l0).bind fun t50051 => ((laws_toPairS.f kj43 l1).bind fun t50054 => ((impl_DealRun.f kj43 t50051 t50054).bind fun bt50057 => (if bt50057.1 = t50009 then ((laws_eqIntS.f kj43 bt50057.2.1 t50010).bind fun t50064 => (if t50064 = true then ((laws_eqPairS.f kj43 bt50057.2.2 t50013).bind fun t50065 => (laws_FnExactDealRun.j2 kj43 t50046 t50048 t50047 (!t50065))) else (laws_FnExactDealRun.j2 kj43 t50046 t50048 t50047 true))) else (laws_FnExactDealRun.j2 kj43 t50046 t50048 t50047 true))))) else (some false))))) = some true := H
                      have A68 := Aside0.mk A680
                      clear A680
                      by_cases c69 : t50049 < 0
                      · rw [if_pos c69] at H
                        have c69b0 : decide (t50049 < 0) = true := decide_eq_true c69
                        clear c69
                        exact absurd H (by decide)
                      · rw [if_neg c69] at H
                        have c69b0 : decide (t50049 < 0) = false := decide_eq_false c69
                        clear c69
                        replace H := Option.bind_eq_some_iff.mp H
                        obtain ⟨t50050, A740, H⟩ := H
                        replace H : (if t50050 < 0 then (some false) else (if t50050 = t50047 then ((laws_toStatementS.f kj43 l0).bind fun t50051 => ((laws_toPairS.f kj43 l1).bind fun t50054 => ((impl_DealRun.f kj43 t50051 t50054).bind fun bt50057 => (if bt50057.1 = t50009 then ((laws_eqIntS.f kj43 bt50057.2.1 t50010).bind fun t50064 => (if t50064 = true then ((laws_eqPairS.f kj43 bt50057.2.2 t50013).bind fun t50065 => (laws_FnExactDealRun.j2 kj43 t50046 t50048 t50047 (!t50065))) else (laws_FnExactDealRun.j2 kj43 t50046 t50048 t50047 true))) else (laws_FnExactDealRun.j2 kj43 t50046 t50048 t50047 true))))) else (some false))) = some true := H
                        have A74 := Aside0.mk A740
                        clear A740
                        by_cases c75 : t50050 < 0
                        · rw [if_pos c75] at H
                          have c75b0 : decide (t50050 < 0) = true := decide_eq_true c75
                          clear c75
                          exact absurd H (by decide)
                        · rw [if_neg c75] at H
                          have c75b0 : decide (t50050 < 0) = false := decide_eq_false c75
                          clear c75
                          by_cases c80 : t50050 = t50047
                          · rw [if_pos c80] at H
                            have c80b0 : (t50050 == t50047) = true := beq_iff_eq.mpr c80
                            have c80b1 : (t50050 != t50047) = false := bne_eq_false_iff_eq.mpr c80
                            clear c80
                            replace H := Option.bind_eq_some_iff.mp H
                            obtain ⟨t50051, A810, H⟩ := H
                            replace H : ((laws_toPairS.f kj43 l1).bind fun t50054 => ((impl_DealRun.f kj43 t50051 t50054).bind fun bt50057 => (if bt50057.1 = t50009 then ((laws_eqIntS.f kj43 bt50057.2.1 t50010).bind fun t50064 => (if t50064 = true then ((laws_eqPairS.f kj43 bt50057.2.2 t50013).bind fun t50065 => (laws_FnExactDealRun.j2 kj43 t50046 t50048 t50047 (!t50065))) else (laws_FnExactDealRun.j2 kj43 t50046 t50048 t50047 true))) else (laws_FnExactDealRun.j2 kj43 t50046 t50048 t50047 true)))) = some true := H
                            have A81 := Aside0.mk A810
                            clear A810
                            replace H := Option.bind_eq_some_iff.mp H
                            obtain ⟨t50054, A820, H⟩ := H
                            replace H : ((impl_DealRun.f kj43 t50051 t50054).bind fun bt50057 => (if bt50057.1 = t50009 then ((laws_eqIntS.f kj43 bt50057.2.1 t50010).bind fun t50064 => (if t50064 = true then ((laws_eqPairS.f kj43 bt50057.2.2 t50013).bind fun t50065 => (laws_FnExactDealRun.j2 kj43 t50046 t50048 t50047 (!t50065))) else (laws_FnExactDealRun.j2 kj43 t50046 t50048 t50047 true))) else (laws_FnExactDealRun.j2 kj43 t50046 t50048 t50047 true))) = some true := H
                            have A82 := Aside0.mk A820
                            clear A820
                            replace H := Option.bind_eq_some_iff.mp H
                            obtain ⟨⟨t50057, t50058, t50059⟩, A830, H⟩ := H
                            replace H : (if t50057 = t50009 then ((laws_eqIntS.f kj43 t50058 t50010).bind fun t50064 => (if t50064 = true then ((laws_eqPairS.f kj43 t50059 t50013).bind fun t50065 => (laws_FnExactDealRun.j2 kj43 t50046 t50048 t50047 (!t50065))) else (laws_FnExactDealRun.j2 kj43 t50046 t50048 t50047 true))) else (laws_FnExactDealRun.j2 kj43 t50046 t50048 t50047 true)) = some true := H
                            have A83 := Aside0.mk A830
                            clear A830
                            have HC84 := Aside0.mk H
                            clear H
                            obtain ⟨Ao85, co85, eo85⟩ := Kd.R_slice HO_12.out
                            subst eo85
                            go_upto_region 36 with (first | ((with_reducible refine gate_callee (f := 27) rfl ?_); refine goesL_ (some 102) rfl rfl Try.func27 (by kernel_rfl) rfl #[.slice Ao85 t50023.length co85, .int .i64 1] rfl (by (try simp only [List.map_toArray, List.map_cons, List.map_nil]); first | done | rfl | (simp only [List.length_drop, List.length_take]; rfl)) ?_; (with_reducible refine (laws_markIntS.calls kj43 (fun k_ => some k_ = (.slice Ao85 t50023.length co85 : Value).ownBlock) (.slice Ao85 t50023.length co85) t50023 1 t50045 t50046 w _ ?side1 ?side2 A66.out).mono ?_); (case side1 => repeat (first | (with_reducible first | exact HB.out | apply below_alloc | apply pw_below_drewN | apply below_drew1) | exact HB.out)); (case side2 => exact Kd.R_tight rfl HO_12.out); rintro e w86 ⟨rfl, hy0, hb, hkp⟩; refine ⟨_, rfl, ?_⟩; have n0_ := Aside0.mk (Kd.R_mono (ok' := fun k_ => some k_ ≠ (.slice Ao85 t50023.length co85 : Value).ownBlock) (Kd.R_keptB (HO_7.out) hkp (fun k_ hk_ hs_ => (hk_) hs_)) (fun k_ hk_ => hk_.1)); have n1_ := Aside0.mk (Kd.R_mono (ok' := fun k_ => some k_ ≠ (v50027 : Value).ownBlock) (Kd.R_keptB ((Kd.R_apart' HO_8.out (Kd.R_typed HO_12.out) (by decide))) hkp (fun k_ hk_ hs_ => (hk_.2) hs_)) (fun k_ hk_ => hk_.1.1)); have n2_ := Aside0.mk (Kd.R_reok rfl hy0 (fun k_ e_ => HO_12.out.1 k_ e_)); have n3_ := Aside0.mk (Kd.R_mono (ok' := fun k_ => some k_ ≠ (v50014 : Value).ownBlock) (Kd.R_keptB ((Kd.R_apart' HO_13.out (Kd.R_typed HO_12.out) (by decide))) hkp (fun k_ hk_ hs_ => (hk_.2) hs_)) (fun k_ hk_ => hk_.1.1)); have n4_ := Aside0.mk (hb); clear HO_7; clear HO_8; clear HO_12; clear HO_13; clear HB; have HO_7 := n0_; have HO_8 := n1_; have HO_12 := n2_; have HO_13 := n3_; have HB := n4_; clear n0_ n1_ n2_ n3_ n4_; (try clear hb); (try clear hkp); (try clear hy0); obtain ⟨Ao87, co87, eo87⟩ := Kd.R_slice HO_13.out; subst eo87) | ((with_reducible refine gate_callee (f := 26) rfl ?_); refine goesL_ (some 105) rfl rfl Try.func26 (by kernel_rfl) rfl #[.slice Ao87 t50024.length co87, .int .i64 t50045] rfl (by (try simp only [List.map_toArray, List.map_cons, List.map_nil]); first | done | rfl | (simp only [List.length_drop, List.length_take]; rfl)) ?_; (with_reducible refine (laws_markPairS.calls kj43 (fun k_ => some k_ = (.slice Ao87 t50024.length co87 : Value).ownBlock) (.slice Ao87 t50024.length co87) t50024 t50045 t50047 t50048 w _ ?side1 ?side2 A67.out).mono ?_); (case side1 => repeat (first | (with_reducible first | exact HB.out | apply below_alloc | apply pw_below_drewN | apply below_drew1) | exact HB.out)); (case side2 => exact Kd.R_tight rfl HO_13.out); rintro e w88 ⟨rfl, hy0, hb, hkp⟩; refine ⟨_, rfl, ?_⟩; have n0_ := Aside0.mk (Kd.R_mono (ok' := fun k_ => some k_ ≠ (.slice Ao85 t50023.length co85 : Value).ownBlock) (Kd.R_keptB ((Kd.R_apart' HO_7.out (Kd.R_typed HO_13.out) (by decide))) hkp (fun k_ hk_ hs_ => (hk_.2) hs_)) (fun k_ hk_ => hk_.1.1)); have n1_ := Aside0.mk (Kd.R_mono (ok' := fun k_ => some k_ ≠ (.slice Ao87 t50024.length co87 : Value).ownBlock) (Kd.R_keptB (HO_8.out) hkp (fun k_ hk_ hs_ => (hk_) hs_)) (fun k_ hk_ => hk_.1)); have n2_ := Aside0.mk (Kd.R_mono (ok' := fun k_ => some k_ ≠ (v50011 : Value).ownBlock) (Kd.R_keptB ((Kd.R_apart' HO_12.out (Kd.R_typed HO_13.out) (by decide))) hkp (fun k_ hk_ hs_ => (hk_.2) hs_)) (fun k_ hk_ => hk_.1.1)); have n3_ := Aside0.mk (Kd.R_reok rfl hy0 (fun k_ e_ => HO_13.out.1 k_ e_)); have n4_ := Aside0.mk (hb); clear HO_7; clear HO_8; clear HO_12; clear HO_13; clear HB; have HO_7 := n0_; have HO_8 := n1_; have HO_12 := n2_; have HO_13 := n3_; have HB := n4_; clear n0_ n1_ n2_ n3_ n4_; (try clear hb); (try clear hkp); (try clear hy0)) | ((with_reducible refine gate_callee (f := 28) rfl ?_); refine goesL_ (some 108) rfl rfl Try.func28 (by kernel_rfl) rfl #[.slice Ao85 t50046.length co85, .int .i64 1] rfl (by (try simp only [List.map_toArray, List.map_cons, List.map_nil]); first | done | (rw [show t50046.length = t50023.length from (Kd.R_reads' HO_12.out).1.symm] <;> rfl) | rfl | (simp only [List.length_drop, List.length_take]; rfl)) ?_; (with_reducible refine (laws_heldIntS.calls kj43 _ _ t50046 1 t50049 _ ?side1 ?side2 A68.out).mono ?_); (case side1 => repeat (first | exact (Kd.R_reads' HO_12.out).2.2 | (with_reducible refine Kd.C_alloc ?_ _) | (with_reducible refine Kd.C_drewN ?_ _) | (with_reducible refine Kd.C_drew ?_))); (case side2 => rw [show t50046.length = t50023.length from (Kd.R_reads' HO_12.out).1.symm]; exact (Kd.R_reads' HO_12.out).2.1); rintro e w' ⟨rfl, ⟨nd, rfl⟩⟩; refine ⟨_, rfl, ?_⟩) | ((with_reducible refine gate_callee (f := 29) rfl ?_); refine goesL_ (some 113) rfl rfl Try.func29 (by kernel_rfl) rfl #[.slice Ao87 t50048.length co87, .int .i64 t50049] rfl (by (try simp only [List.map_toArray, List.map_cons, List.map_nil]); first | done | (rw [show t50048.length = t50024.length from (Kd.R_reads' HO_13.out).1.symm] <;> rfl) | rfl | (simp only [List.length_drop, List.length_take]; rfl)) ?_; (with_reducible refine (laws_heldPairS.calls kj43 _ _ t50048 t50049 t50050 _ ?side1 ?side2 A74.out).mono ?_); (case side1 => repeat (first | exact (Kd.R_reads' HO_13.out).2.2 | (with_reducible refine Kd.C_alloc ?_ _) | (with_reducible refine Kd.C_drewN ?_ _) | (with_reducible refine Kd.C_drew ?_))); (case side2 => rw [show t50048.length = t50024.length from (Kd.R_reads' HO_13.out).1.symm]; exact (Kd.R_reads' HO_13.out).2.1); rintro e w' ⟨rfl, ⟨nd, rfl⟩⟩; refine ⟨_, rfl, ?_⟩) | ((with_reducible refine gate_callee (f := 16) rfl ?_); refine goesL_ (some 121) rfl rfl Try.func16 (by kernel_rfl) rfl #[.slice A0 l0.length c0] rfl (by (try simp only [List.map_toArray, List.map_cons, List.map_nil]); first | done | rfl | (simp only [List.length_drop, List.length_take]; rfl)) ?_; (with_reducible refine (laws_toStatementS.calls kj43 _ _ l0 t50051 _ ?side1 ?side2 A81.out).mono ?_); (case side1 => repeat (first | exact (Kd.C_below HR0.out (by repeat (first | (with_reducible first | exact HB.out | apply below_alloc | apply pw_below_drewN | apply below_drew1) | exact HB.out))) | (with_reducible refine Kd.C_alloc ?_ _) | (with_reducible refine Kd.C_drewN ?_ _) | (with_reducible refine Kd.C_drew ?_))); (case side2 => exact HC0.out); rintro e w89 ⟨v50052, rfl, ho0, hb⟩; refine ⟨_, rfl, ?_⟩; have n0_ := Aside0.mk (Kd.R_below (by (with_reducible repeat (first | apply Kd.R_alloc | apply Kd.R_drewN | apply Kd.R_drew)); exact HO_7.out) hb); have n1_ := Aside0.mk (Kd.R_below (by (with_reducible repeat (first | apply Kd.R_alloc | apply Kd.R_drewN | apply Kd.R_drew)); exact HO_8.out) hb); have n2_ := Aside0.mk (Kd.R_below (by (with_reducible repeat (first | apply Kd.R_alloc | apply Kd.R_drewN | apply Kd.R_drew)); exact HO_12.out) hb); have n3_ := Aside0.mk (Kd.R_below (by (with_reducible repeat (first | apply Kd.R_alloc | apply Kd.R_drewN | apply Kd.R_drew)); exact HO_13.out) hb); have n4_ := Aside0.mk (Kd.R_lower ho0 (below_size (by repeat (first | (with_reducible first | exact HB.out | apply below_alloc | apply pw_below_drewN | apply below_drew1) | exact HB.out)))); have n5_ := Aside0.mk (below_step (by repeat (first | (with_reducible first | exact HB.out | apply below_alloc | apply pw_below_drewN | apply below_drew1) | exact HB.out)) hb); clear HO_7; clear HO_8; clear HO_12; clear HO_13; clear HB; have HO_7 := n0_; have HO_8 := n1_; have HO_12 := n2_; have HO_13 := n3_; have HO50053 := n4_; have HB := n5_; clear n0_ n1_ n2_ n3_ n4_ n5_; (try clear hb); (try clear hb2); (try clear hk); (try clear hi); (try clear ho0)) | ((with_reducible refine gate_callee (f := 21) rfl ?_); refine goesL_ (some 123) rfl rfl Try.func21 (by kernel_rfl) rfl #[.slice A1 l1.length c1] rfl (by (try simp only [List.map_toArray, List.map_cons, List.map_nil]); first | done | rfl | (simp only [List.length_drop, List.length_take]; rfl)) ?_; (with_reducible refine (laws_toPairS.calls kj43 _ _ l1 t50054 _ ?side1 ?side2 A82.out).mono ?_); (case side1 => repeat (first | exact (Kd.C_below HR1.out HB.out) | (with_reducible refine Kd.C_alloc ?_ _) | (with_reducible refine Kd.C_drewN ?_ _) | (with_reducible refine Kd.C_drew ?_))); (case side2 => exact HC1.out); rintro e w90 ⟨v50055, rfl, ho0, hb⟩; refine ⟨_, rfl, ?_⟩; have n0_ := Aside0.mk (Kd.R_below (by (with_reducible repeat (first | apply Kd.R_alloc | apply Kd.R_drewN | apply Kd.R_drew)); exact HO_7.out) hb); have n1_ := Aside0.mk (Kd.R_elder' (by (with_reducible repeat (first | apply Kd.R_alloc | apply Kd.R_drewN | apply Kd.R_drew)); exact HO_8.out) (Kd.R_base ho0) hb); have n2_ := Aside0.mk (Kd.R_below (by (with_reducible repeat (first | apply Kd.R_alloc | apply Kd.R_drewN | apply Kd.R_drew)); exact HO_12.out) hb); have n3_ := Aside0.mk (Kd.R_elder' (by (with_reducible repeat (first | apply Kd.R_alloc | apply Kd.R_drewN | apply Kd.R_drew)); exact HO_13.out) (Kd.R_base ho0) hb); have n4_ := Aside0.mk (Kd.R_below (by (with_reducible repeat (first | apply Kd.R_alloc | apply Kd.R_drewN | apply Kd.R_drew)); exact HO50053.out) hb); have n5_ := Aside0.mk (Kd.R_lower (Kd.R_new' (Kd.R_new' ho0 (Kd.R_lt (by (with_reducible repeat (first | apply Kd.R_alloc | apply Kd.R_drewN | apply Kd.R_drew)); exact HO_8.out))) (Kd.R_lt (by (with_reducible repeat (first | apply Kd.R_alloc | apply Kd.R_drewN | apply Kd.R_drew)); exact HO_13.out))) (below_size (by repeat (first | (with_reducible first | exact HB.out | apply below_alloc | apply pw_below_drewN | apply below_drew1) | exact HB.out)))); have n6_ := Aside0.mk (below_step (by repeat (first | (with_reducible first | exact HB.out | apply below_alloc | apply pw_below_drewN | apply below_drew1) | exact HB.out)) hb); clear HO_7; clear HO_8; clear HO_12; clear HO_13; clear HO50053; clear HB; have HO_7 := n0_; have HO_8 := n1_; have HO_12 := n2_; have HO_13 := n3_; have HO50053 := n4_; have HO50056 := n5_; have HB := n6_; clear n0_ n1_ n2_ n3_ n4_ n5_ n6_; (try clear hb); (try clear hb2); (try clear hk); (try clear hi); (try clear ho0); obtain ⟨Ao91, co91, eo91⟩ := Kd.R_slice HO50053.out; subst eo91; obtain ⟨Ao92, co92, eo92⟩ := Kd.R_slice HO50056.out; subst eo92) | ((with_reducible refine gate_callee (f := 22) rfl ?_); refine goesL_ (some 124) rfl rfl Try.func22 (by kernel_rfl) rfl #[.slice Ao91 t50051.length co91, .slice Ao92 t50054.length co92] rfl (by (try simp only [List.map_toArray, List.map_cons, List.map_nil]); first | done | rfl | (simp only [List.length_drop, List.length_take]; rfl)) ?_; (with_reducible refine (impl_DealRun.calls kj43 _ _ t50051 _ _ t50054 t50057 t50058 t50059 _ ?side1 ?side2 ?side3 ?side4 A83.out).mono ?_); (case side1 => repeat (first | exact (Kd.R_reads' HO50053.out).2.2 | (with_reducible refine Kd.C_alloc ?_ _) | (with_reducible refine Kd.C_drewN ?_ _) | (with_reducible refine Kd.C_drew ?_))); (case side2 => exact (Kd.R_reads' HO50053.out).2.1); (case side3 => repeat (first | exact (Kd.R_reads' HO50056.out).2.2 | (with_reducible refine Kd.C_alloc ?_ _) | (with_reducible refine Kd.C_drewN ?_ _) | (with_reducible refine Kd.C_drew ?_))); (case side4 => exact (Kd.R_reads' HO50056.out).2.1); rintro e w93 ⟨v50060, v50062, rfl, ho0, ho1, hb⟩; refine ⟨_, rfl, ?_⟩; have n0_ := Aside0.mk (Kd.R_elder' (by (with_reducible repeat (first | apply Kd.R_alloc | apply Kd.R_drewN | apply Kd.R_drew)); exact HO_7.out) (Kd.R_base ho0) hb); have n1_ := Aside0.mk (Kd.R_elder' (by (with_reducible repeat (first | apply Kd.R_alloc | apply Kd.R_drewN | apply Kd.R_drew)); exact HO_8.out) (Kd.R_base ho1) hb); have n2_ := Aside0.mk (Kd.R_elder' (by (with_reducible repeat (first | apply Kd.R_alloc | apply Kd.R_drewN | apply Kd.R_drew)); exact HO_12.out) (Kd.R_base ho0) hb); have n3_ := Aside0.mk (Kd.R_elder' (by (with_reducible repeat (first | apply Kd.R_alloc | apply Kd.R_drewN | apply Kd.R_drew)); exact HO_13.out) (Kd.R_base ho1) hb); have n4_ := Aside0.mk (Kd.R_below (by (with_reducible repeat (first | apply Kd.R_alloc | apply Kd.R_drewN | apply Kd.R_drew)); exact HO50053.out) hb); have n5_ := Aside0.mk (Kd.R_elder' (by (with_reducible repeat (first | apply Kd.R_alloc | apply Kd.R_drewN | apply Kd.R_drew)); exact HO50056.out) (Kd.R_base ho1) hb); have n6_ := Aside0.mk (Kd.R_lower (Kd.R_new' (Kd.R_new' ho0 (Kd.R_lt (by (with_reducible repeat (first | apply Kd.R_alloc | apply Kd.R_drewN | apply Kd.R_drew)); exact HO_7.out))) (Kd.R_lt (by (with_reducible repeat (first | apply Kd.R_alloc | apply Kd.R_drewN | apply Kd.R_drew)); exact HO_12.out))) (below_size (by repeat (first | (with_reducible first | exact HB.out | apply below_alloc | apply pw_below_drewN | apply below_drew1) | exact HB.out)))); have n7_ := Aside0.mk (Kd.R_lower (Kd.R_new' (Kd.R_new' (Kd.R_new' ho1 (Kd.R_lt (by (with_reducible repeat (first | apply Kd.R_alloc | apply Kd.R_drewN | apply Kd.R_drew)); exact HO_8.out))) (Kd.R_lt (by (with_reducible repeat (first | apply Kd.R_alloc | apply Kd.R_drewN | apply Kd.R_drew)); exact HO_13.out))) (Kd.R_lt (by (with_reducible repeat (first | apply Kd.R_alloc | apply Kd.R_drewN | apply Kd.R_drew)); exact HO50056.out))) (below_size (by repeat (first | (with_reducible first | exact HB.out | apply below_alloc | apply pw_below_drewN | apply below_drew1) | exact HB.out)))); have n8_ := Aside0.mk (below_step (by repeat (first | (with_reducible first | exact HB.out | apply below_alloc | apply pw_below_drewN | apply below_drew1) | exact HB.out)) hb); clear HO_7; clear HO_8; clear HO_12; clear HO_13; clear HO50053; clear HO50056; clear HB; have HO_7 := n0_; have HO_8 := n1_; have HO_12 := n2_; have HO_13 := n3_; have HO50053 := n4_; have HO50056 := n5_; have HO50061 := n6_; have HO50063 := n7_; have HB := n8_; clear n0_ n1_ n2_ n3_ n4_ n5_ n6_ n7_ n8_; (try clear hb); (try clear hb2); (try clear hk); (try clear hi); (try clear ho0); (try clear ho1)))
                            (try simp only [Act.put, List.setIfInBounds_toArray, List.set_cons_zero, List.set_cons_succ])
                            go_cut [142] (fun v142 wc => ∃ (kq : Nat) (x142_83 : Bool), v142 = .bool x142_83 ∧ Aside0 (laws_FnExactDealRun.j2 kq t50046 t50048 t50047 x142_83 = some true) ∧ Aside0 (kq ≤ kj43) ∧ Aside0 (Kd.R (Kd.int .i64) 3 wc w.heap.size (fun _ => True) (.slice Ao85 t50023.length co85) t50046) ∧ Aside0 (Kd.R k48 48 wc w.heap.size (fun _ => True) (.slice Ao87 t50024.length co87) t50048) ∧ Aside0 (Below w.heap.size w wc))
                            case first =>
                              have H := HC84.out
                              clear HC84
                              by_cases c94 : t50057 = t50009
                              · rw [if_pos c94] at H
                                have c94b0 : (t50057 == t50009) = true := beq_iff_eq.mpr c94
                                have c94b1 : (t50057 != t50009) = false := bne_eq_false_iff_eq.mpr c94
                                clear c94
                                (first | rw [c94b0] | (simp only [i64_w, i32_w]; rw [c94b0]) | skip)
                                replace H := Option.bind_eq_some_iff.mp H
                                obtain ⟨t50064, A950, H⟩ := H
                                replace H : (if t50064 = true then ((laws_eqPairS.f kj43 t50059 t50013).bind fun t50065 => (laws_FnExactDealRun.j2 kj43 t50046 t50048 t50047 (!t50065))) else (laws_FnExactDealRun.j2 kj43 t50046 t50048 t50047 true)) = some true := H
                                have A95 := Aside0.mk A950
                                clear A950
                                by_cases c96 : t50064 = true
                                · subst c96
                                  have H1 : ((laws_eqPairS.f kj43 t50059 t50013).bind fun t50065 => (laws_FnExactDealRun.j2 kj43 t50046 t50048 t50047 (!t50065))) = some true := by rw [if_pos rfl] at H; exact H
                                  clear H
                                  have H := H1
                                  clear H1
                                  replace H := Option.bind_eq_some_iff.mp H
                                  obtain ⟨t50065, A970, H⟩ := H
                                  replace H : (laws_FnExactDealRun.j2 kj43 t50046 t50048 t50047 (!t50065)) = some true := H
                                  have A97 := Aside0.mk A970
                                  clear A970
                                  have H' := Aside0.mk H
                                  clear H
                                  obtain ⟨Ao98, co98, eo98⟩ := Kd.R_slice HO50061.out
                                  subst eo98
                                  obtain ⟨Ao99, co99, eo99⟩ := Kd.R_slice HO_7.out
                                  subst eo99
                                  go_wp2_with (first | (go_at_call 23; (with_reducible refine (laws_eqIntS.calls kj43 _ _ t50058 _ _ t50010 true _ ?side1 ?side2 ?side3 ?side4 A95.out).mono ?_); (case side1 => repeat (first | exact (Kd.R_reads' HO50061.out).2.2 | (with_reducible refine Kd.C_alloc ?_ _) | (with_reducible refine Kd.C_drewN ?_ _) | (with_reducible refine Kd.C_drew ?_))); (case side2 => exact (Kd.R_reads' HO50061.out).2.1); (case side3 => repeat (first | exact (Kd.R_reads' HO_7.out).2.2 | (with_reducible refine Kd.C_alloc ?_ _) | (with_reducible refine Kd.C_drewN ?_ _) | (with_reducible refine Kd.C_drew ?_))); (case side4 => exact (Kd.R_reads' HO_7.out).2.1); rintro e w' ⟨rfl, ⟨nd, rfl⟩⟩; obtain ⟨Ao100, co100, eo100⟩ := Kd.R_slice HO50063.out; subst eo100; obtain ⟨Ao101, co101, eo101⟩ := Kd.R_slice HO_8.out; subst eo101) | (go_at_call 24; (with_reducible refine (laws_eqPairS.calls kj43 _ _ t50059 _ _ t50013 t50065 _ ?side1 ?side2 ?side3 ?side4 A97.out).mono ?_); (case side1 => repeat (first | exact (Kd.R_reads' HO50063.out).2.2 | (with_reducible refine Kd.C_alloc ?_ _) | (with_reducible refine Kd.C_drewN ?_ _) | (with_reducible refine Kd.C_drew ?_))); (case side2 => exact (Kd.R_reads' HO50063.out).2.1); (case side3 => repeat (first | exact (Kd.R_reads' HO_8.out).2.2 | (with_reducible refine Kd.C_alloc ?_ _) | (with_reducible refine Kd.C_drewN ?_ _) | (with_reducible refine Kd.C_drew ?_))); (case side4 => exact (Kd.R_reads' HO_8.out).2.1); rintro e w102 ⟨rfl, hb⟩; have n0_ := Aside0.mk (Kd.R_below (by (with_reducible repeat (first | apply Kd.R_alloc | apply Kd.R_drewN | apply Kd.R_drew)); exact HO_7.out) hb); have n1_ := Aside0.mk (Kd.R_below (by (with_reducible repeat (first | apply Kd.R_alloc | apply Kd.R_drewN | apply Kd.R_drew)); exact HO_8.out) hb); have n2_ := Aside0.mk (Kd.R_below (by (with_reducible repeat (first | apply Kd.R_alloc | apply Kd.R_drewN | apply Kd.R_drew)); exact HO_12.out) hb); have n3_ := Aside0.mk (Kd.R_below (by (with_reducible repeat (first | apply Kd.R_alloc | apply Kd.R_drewN | apply Kd.R_drew)); exact HO_13.out) hb); have n4_ := Aside0.mk (Kd.R_below (by (with_reducible repeat (first | apply Kd.R_alloc | apply Kd.R_drewN | apply Kd.R_drew)); exact HO50053.out) hb); have n5_ := Aside0.mk (Kd.R_below (by (with_reducible repeat (first | apply Kd.R_alloc | apply Kd.R_drewN | apply Kd.R_drew)); exact HO50056.out) hb); have n6_ := Aside0.mk (Kd.R_below (by (with_reducible repeat (first | apply Kd.R_alloc | apply Kd.R_drewN | apply Kd.R_drew)); exact HO50061.out) hb); have n7_ := Aside0.mk (Kd.R_below (by (with_reducible repeat (first | apply Kd.R_alloc | apply Kd.R_drewN | apply Kd.R_drew)); exact HO50063.out) hb); have n8_ := Aside0.mk (below_step (by repeat (first | (with_reducible first | exact HB.out | apply below_alloc | apply pw_below_drewN | apply below_drew1) | exact HB.out)) hb); clear HO_7; clear HO_8; clear HO_12; clear HO_13; clear HO50053; clear HO50056; clear HO50061; clear HO50063; clear HB; have HO_7 := n0_; have HO_8 := n1_; have HO_12 := n2_; have HO_13 := n3_; have HO50053 := n4_; have HO50056 := n5_; have HO50061 := n6_; have HO50063 := n7_; have HB := n8_; clear n0_ n1_ n2_ n3_ n4_ n5_ n6_ n7_ n8_; (try clear hb); (try clear hb2); (try clear hk); (try clear hi)))
                                  go_meet
                                  case rel => exact ⟨_, (!t50065), (by first | rfl | (simp; done) | (simp [*]; done)), H', ⟨by have := HJ12.out; have := HJ43.out; first | omega | exact Nat.le_refl _⟩, ⟨by (with_reducible repeat (first | apply Kd.R_alloc | apply Kd.R_drewN | apply Kd.R_drew)); exact Kd.R_mono HO_12.out (fun _ hk => trivial)⟩, ⟨by (with_reducible repeat (first | apply Kd.R_alloc | apply Kd.R_drewN | apply Kd.R_drew)); exact Kd.R_mono HO_13.out (fun _ hk => trivial)⟩, ⟨by repeat (first | (with_reducible first | exact HB.out | apply below_alloc | apply pw_below_drewN | apply below_drew1) | exact HB.out)⟩⟩
                                · replace c96 := Bool.eq_false_iff.mpr c96
                                  subst c96
                                  have H1 : (laws_FnExactDealRun.j2 kj43 t50046 t50048 t50047 true) = some true := by rw [if_neg (show ¬ (false = true) by decide)] at H; exact H
                                  clear H
                                  have H := H1
                                  clear H1
                                  have H' := Aside0.mk H
                                  clear H
                                  obtain ⟨Ao103, co103, eo103⟩ := Kd.R_slice HO50061.out
                                  subst eo103
                                  obtain ⟨Ao104, co104, eo104⟩ := Kd.R_slice HO_7.out
                                  subst eo104
                                  go_wp2_with (first | (go_at_call 23; (with_reducible refine (laws_eqIntS.calls kj43 _ _ t50058 _ _ t50010 false _ ?side1 ?side2 ?side3 ?side4 A95.out).mono ?_); (case side1 => repeat (first | exact (Kd.R_reads' HO50061.out).2.2 | (with_reducible refine Kd.C_alloc ?_ _) | (with_reducible refine Kd.C_drewN ?_ _) | (with_reducible refine Kd.C_drew ?_))); (case side2 => exact (Kd.R_reads' HO50061.out).2.1); (case side3 => repeat (first | exact (Kd.R_reads' HO_7.out).2.2 | (with_reducible refine Kd.C_alloc ?_ _) | (with_reducible refine Kd.C_drewN ?_ _) | (with_reducible refine Kd.C_drew ?_))); (case side4 => exact (Kd.R_reads' HO_7.out).2.1); rintro e w' ⟨rfl, ⟨nd, rfl⟩⟩))
                                  go_meet
                                  case rel => exact ⟨_, (true), (by first | rfl | (simp; done) | (simp [*]; done)), H', ⟨by have := HJ12.out; have := HJ43.out; first | omega | exact Nat.le_refl _⟩, ⟨by (with_reducible repeat (first | apply Kd.R_alloc | apply Kd.R_drewN | apply Kd.R_drew)); exact Kd.R_mono HO_12.out (fun _ hk => trivial)⟩, ⟨by (with_reducible repeat (first | apply Kd.R_alloc | apply Kd.R_drewN | apply Kd.R_drew)); exact Kd.R_mono HO_13.out (fun _ hk => trivial)⟩, ⟨by repeat (first | (with_reducible first | exact HB.out | apply below_alloc | apply pw_below_drewN | apply below_drew1) | exact HB.out)⟩⟩
                              · rw [if_neg c94] at H
                                have c94b0 : (t50057 == t50009) = false := beq_eq_false_iff_ne.mpr c94
                                have c94b1 : (t50057 != t50009) = true := bne_iff_ne.mpr c94
                                (first | rw [c94b0] | (simp only [i64_w, i32_w]; rw [c94b0]) | skip)
                                have H' := Aside0.mk H
                                clear H
                                go_wp2
                                go_meet
                                case rel => exact ⟨_, (true), (by first | rfl | (simp; done) | (simp [*]; done)), H', ⟨by have := HJ12.out; have := HJ43.out; first | omega | exact Nat.le_refl _⟩, ⟨by (with_reducible repeat (first | apply Kd.R_alloc | apply Kd.R_drewN | apply Kd.R_drew)); exact Kd.R_mono HO_12.out (fun _ hk => trivial)⟩, ⟨by (with_reducible repeat (first | apply Kd.R_alloc | apply Kd.R_drewN | apply Kd.R_drew)); exact Kd.R_mono HO_13.out (fun _ hk => trivial)⟩, ⟨by repeat (first | (with_reducible first | exact HB.out | apply below_alloc | apply pw_below_drewN | apply below_drew1) | exact HB.out)⟩⟩
                            case rest =>
                              clear HC84
                              try clear c1
                              try clear c2
                              try clear p2
                              try clear c3
                              try clear c4
                              try clear c4b0
                              try clear c5
                              try clear c6
                              try clear c6b0
                              try clear c7
                              try clear c8
                              try clear c9
                              try clear c14
                              try clear c16
                              try clear c18
                              try clear c19
                              try clear c20
                              try clear c21
                              try clear c22
                              try clear c24
                              try clear c24b0
                              try clear c24b1
                              try clear c25
                              try clear c26
                              try clear c27
                              try clear c28
                              try clear c29
                              try clear c35
                              try clear c38
                              try clear c41
                              try clear c53
                              try clear c53b0
                              try clear c54
                              try clear c54b0
                              try clear c54b1
                              try clear c56
                              try clear c65
                              try clear c69
                              try clear c69b0
                              try clear c75
                              try clear c75b0
                              try clear c80
                              try clear c80b0
                              try clear c80b1
                              try clear c94
                              try clear c94b0
                              try clear c94b1
                              try clear c96
                              try clear p2
                              obtain ⟨kq, x142_83, rfl, HA, HJ83, HO_12, HO_13, HB⟩ := hcut
                              have hl12_83 := (Kd.R_reads' HO_12.out).1
                              rw [hl12_83] at HO_12
                              (try simp only [hl12_83])
                              (try simp only [hl12_83] at HO_13)
                              have hl13_83 := (Kd.R_reads' HO_13.out).1
                              rw [hl13_83] at HO_13
                              (try simp only [hl13_83])
                              (try simp only [hl13_83] at HO_12)
                              cases kq with
                              | zero => exact absurd HA.out (by simp [laws_FnExactDealRun.j2])
                              | succ kj83 =>
                                have H := HA.out
                                clear HA
                                simp only [laws_FnExactDealRun.j2] at H
                                by_cases c105 : x142_83 = true
                                · subst c105
                                  have H1 : (some false) = some true := by rw [if_pos rfl] at H; exact H
                                  clear H
                                  have H := H1
                                  clear H1
                                  exact absurd H (by decide)
                                · replace c105 := Bool.eq_false_iff.mpr c105
                                  subst c105
                                  have H1 : ((laws_heldIntS.f kj83 t50046 1).bind fun t50066 => (if t50066 < 0 then (some false) else ((laws_heldPairS.f kj83 t50048 t50066).bind fun t50067 => (if t50067 < 0 then (some false) else (if t50067 = t50047 then (some true) else (some false)))))) = some true := by rw [if_neg (show ¬ (false = true) by decide)] at H; exact H
                                  clear H
                                  have H := H1
                                  clear H1
                                  replace H := Option.bind_eq_some_iff.mp H
                                  obtain ⟨t50066, A1060, H⟩ := H
                                  replace H : (if t50066 < 0 then (some false) else ((laws_heldPairS.f kj83 t50048 t50066).bind fun t50067 => (if t50067 < 0 then (some false) else (if t50067 = t50047 then (some true) else (some false))))) = some true := H
                                  have A106 := Aside0.mk A1060
                                  clear A1060
                                  by_cases c107 : t50066 < 0
                                  · rw [if_pos c107] at H
                                    have c107b0 : decide (t50066 < 0) = true := decide_eq_true c107
                                    clear c107
                                    exact absurd H (by decide)
                                  · rw [if_neg c107] at H
                                    have c107b0 : decide (t50066 < 0) = false := decide_eq_false c107
                                    clear c107
                                    replace H := Option.bind_eq_some_iff.mp H
                                    obtain ⟨t50067, A1080, H⟩ := H
                                    replace H : (if t50067 < 0 then (some false) else (if t50067 = t50047 then (some true) else (some false))) = some true := H
                                    have A108 := Aside0.mk A1080
                                    clear A1080
                                    by_cases c109 : t50067 < 0
                                    · rw [if_pos c109] at H
                                      have c109b0 : decide (t50067 < 0) = true := decide_eq_true c109
                                      clear c109
                                      exact absurd H (by decide)
                                    · rw [if_neg c109] at H
                                      have c109b0 : decide (t50067 < 0) = false := decide_eq_false c109
                                      clear c109
                                      by_cases c110 : t50067 = t50047
                                      · rw [if_pos c110] at H
                                        have c110b0 : (t50067 == t50047) = true := beq_iff_eq.mpr c110
                                        have c110b1 : (t50067 != t50047) = false := bne_eq_false_iff_eq.mpr c110
                                        clear c110
                                        clear H
                                        go_wp2_with (first | ((with_reducible refine gate_callee (f := 28) rfl ?_); refine goesL_ (some 145) rfl rfl Try.func28 (by kernel_rfl) rfl #[.slice Ao85 t50046.length co85, .int .i64 1] rfl (by (try simp only [List.map_toArray, List.map_cons, List.map_nil]); first | done | rfl | (simp only [List.length_drop, List.length_take]; rfl)) ?_; (with_reducible refine (laws_heldIntS.calls kj83 _ _ t50046 1 t50066 _ ?side1 ?side2 A106.out).mono ?_); (case side1 => repeat (first | exact (Kd.R_reads' HO_12.out).2.2 | (with_reducible refine Kd.C_alloc ?_ _) | (with_reducible refine Kd.C_drewN ?_ _) | (with_reducible refine Kd.C_drew ?_))); (case side2 => exact (Kd.R_reads' HO_12.out).2.1); rintro e w' ⟨rfl, ⟨nd, rfl⟩⟩; refine ⟨_, rfl, ?_⟩) | ((with_reducible refine gate_callee (f := 29) rfl ?_); refine goesL_ (some 150) rfl rfl Try.func29 (by kernel_rfl) rfl #[.slice Ao87 t50048.length co87, .int .i64 t50066] rfl (by (try simp only [List.map_toArray, List.map_cons, List.map_nil]); first | done | rfl | (simp only [List.length_drop, List.length_take]; rfl)) ?_; (with_reducible refine (laws_heldPairS.calls kj83 _ _ t50048 t50066 t50067 _ ?side1 ?side2 A108.out).mono ?_); (case side1 => repeat (first | exact (Kd.R_reads' HO_13.out).2.2 | (with_reducible refine Kd.C_alloc ?_ _) | (with_reducible refine Kd.C_drewN ?_ _) | (with_reducible refine Kd.C_drew ?_))); (case side2 => exact (Kd.R_reads' HO_13.out).2.1); rintro e w' ⟨rfl, ⟨nd, rfl⟩⟩; refine ⟨_, rfl, ?_⟩))
                                        go_ret
                                        exact ⟨by first | rfl | (simp [errW_none, errW_some] <;> rfl) | (simp [*, errW_none, errW_some] <;> rfl), by repeat (first | (with_reducible first | exact HB.out | apply below_alloc | apply pw_below_drewN | apply below_drew1) | exact HB.out)⟩
                                      · rw [if_neg c110] at H
                                        have c110b0 : (t50067 == t50047) = false := beq_eq_false_iff_ne.mpr c110
                                        have c110b1 : (t50067 != t50047) = true := bne_iff_ne.mpr c110
                                        exact absurd H (by decide)
                          · rw [if_neg c80] at H
                            have c80b0 : (t50050 == t50047) = false := beq_eq_false_iff_ne.mpr c80
                            have c80b1 : (t50050 != t50047) = true := bne_iff_ne.mpr c80
                            exact absurd H (by decide)
              · replace c41 := Bool.eq_false_iff.mpr c41
                subst c41
                have H1 : (some false) = some true := by rw [if_neg (show ¬ (false = true) by decide)] at H; exact H
                clear H
                have H := H1
                clear H1
                exact absurd H (by decide)
            · replace c38 := Bool.eq_false_iff.mpr c38
              subst c38
              have H1 : (some false) = some true := by rw [if_neg (show ¬ (false = true) by decide)] at H; exact H
              clear H
              have H := H1
              clear H1
              exact absurd H (by decide)

def B80 (x : S80) : Prop := ((Lit.int .i64 x.f0).wf = true) ∧ ((Lit.int .i64 x.f1).wf = true)
theorem rd80_ (W : World) : RdOf Try.prog W k80 80 B80 := by
  intro H enc fuel cs y h
  obtain ⟨xs, n, _, _, hlen, hxl, hg⟩ := DataW.trod_struct Try.underlying80 h
  have hlen : cs.length = 2 := hlen.trans (by kernel_rfl)
  have hxl : xs.length = 2 := hxl
  obtain ⟨y0, e0⟩ := nth_some (j := 0) hxl (by omega)
  have g0 : DataW.trod enc Try.prog W 0 (fun _ => true) true n 3 ((cs.drop 0).take (Try.prog.cellsOf 3)) = xs[0]? := hg 0 _ rfl
  have z0 : Try.prog.cellsOf 3 = 1 := by kernel_rfl
  rw [z0, e0] at g0
  obtain ⟨x0, k0_, b0_⟩ := (RdOf.int Try.underlying3) enc n _ _ g0
  obtain ⟨y1, e1⟩ := nth_some (j := 1) hxl (by omega)
  have g1 : DataW.trod enc Try.prog W 0 (fun _ => true) true n 3 ((cs.drop 1).take (Try.prog.cellsOf 3)) = xs[1]? := hg 1 _ rfl
  have z1 : Try.prog.cellsOf 3 = 1 := by kernel_rfl
  rw [z1, e1] at g1
  obtain ⟨x1, k1_, b1_⟩ := (RdOf.int Try.underlying3) enc n _ _ g1
  have hk := (seg_pair 0 1 1 k0_ k1_)
  rw [seg_all hlen] at hk
  exact ⟨⟨x0, x1⟩, hk, b0_, b1_⟩

/-- THE ONE PURE STATEMENT of laws_FnExactDealRun: yours. -/
def laws_FnExactDealRun.Pure : Prop := ∀ (l0 : List (S72)) (l1 : List (S80)), ((l0.length ≤ maxLen ∧ ∀ y_ ∈ l0, B72 y_)) → ((l1.length ≤ maxLen ∧ ∀ y_ ∈ l1, B80 y_)) → ∃ k, laws_FnExactDealRun.f k l0 l1 = some true
theorem laws_FnExactDealRun.walk (P : laws_FnExactDealRun.Pure) (A0 : Option Addr) (c0 : Nat) (l0 : List (S72)) (A1 : Option Addr) (c1 : Nat) (l1 : List (S80)) (w : World) (hr0 : Kd.C k72 w A0 l0.length l0) (hc0 : l0.length ≤ c0) (hr1 : Kd.C k80 w A1 l1.length l1) (hc1 : l1.length ≤ c1) (w0 : (l0.length ≤ maxLen ∧ ∀ y_ ∈ l0, B72 y_)) (w1 : (l1.length ≤ maxLen ∧ ∀ y_ ∈ l1, B80 y_)) :
    Calls Try.prog 4 #[.slice A0 l0.length c0, .slice A1 l1.length c1] w fun e w' => e = .returned (.bool true) ∧ Below w.heap.size w w' := by
  obtain ⟨k, h⟩ := P l0 l1 w0 w1
  refine (laws_FnExactDealRun.calls k A0 c0 l0 A1 c1 l1 true w hr0 hc0 hr1 hc1 rfl h).mono ?_
  rintro e w' ⟨rfl, hd⟩
  exact ⟨rfl, hd⟩

end Go.Proofs.Ytdjiclhjficgfaa.PX
