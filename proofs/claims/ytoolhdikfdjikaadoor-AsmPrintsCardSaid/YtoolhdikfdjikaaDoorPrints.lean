/- THE LAW AsmPrints: for every input it returns true and its arguments read as before (condition: the listed variables are laid as the program's text lays them, which the card ties). -/
import Derived.Test.YtoolhdikfdjikaaDoorAsmB
import Derived.Test.YtoolhdikfdjikaaDoorAsmC
import Derived.Test.YtoolhdikfdjikaaDoorTie
import Derived.Test.YtoolhdikfdjikaaDoorCards
set_option linter.unusedVariables false
set_option linter.unusedSimpArgs false
set_option linter.unusedSectionVars false
set_option linter.deprecated false

/- The law AsmPrints. -/
namespace Go.Proofs.YtoolhdikfdjikaaDoor
open Go Go.Den
set_option maxRecDepth 10000

theorem AsmPrints_D (v : AV) (l : List Instr) (hw : ∀ x ∈ l, x.wf) (hv : Rv v 5 (l.map I5)) (hl : l.length < 2^63) (k : Nat) (hk : k ≤ 255) (H : List AObj) (lo : Option Nat) : D X (.fn (.func fn_law23_AsmPrints) [] []) [v, .int .u8 k] ⟨H, lo⟩ = some (.ret (.bool true) ⟨H, lo⟩) := by
  refine D_fn pf_law23_AsmPrints rfl rfl rfl fun N hN => ?_
  by_cases hg : l.length > 200
  · have hg' : (l.length : Int) > 200 := by omega
    simp (maxSteps := 2000000) (disch := omega) only [F1, ↓Int.cast_ofNat_Int, ↓R1, R2, C1, P1, O1, V1, V2, V3, reduceCtorEq, Nat.reduceEqDiff, Nat.reduceBEq, Nat.reduceAdd, Nat.reduceSub, Nat.reduceMul, Nat.reduceLeDiff, Nat.reduceLT, Int.reduceEq, Int.reduceAdd, Int.reduceSub, Int.reduceMul, Int.reduceLT, Int.reduceLE, Int.reduceNeg, Int.reduceToNat, wrap_i64, wrap_u64, wrap_u8, wrap_u16, wrap_u32, wrap_i32, base_get0, base_get, base_set0, base_set, base_take, take_self, take_app1, pf_law23_AsmPrints, hv.lenM, hg', wakes_D, take_self hN]
  · have hg' : ¬ (l.length : Int) > 200 := by omega
    obtain ⟨r, o1, o2⟩ := Of_D v l hw hv (by omega) H none
    have hwd := Word_D k (by omega) (by omega) H none
    have hrw := refWord_D k H none
    have hpr := Print_D v l hw hv (by omega) H none
    have hrm := refMay_D r l o2 (by omega) H none
    have hrp := refPrint_D r l hw o2 (by omega) H none
    have hk0 : (0 : Int) ≤ k := by omega
    rw [if_pos hk0] at hrw
    rw [mayR_mayL] at hrm
    obtain ⟨ws, hws⟩ : ∃ ws, wordS (Int.toNat k) = ws := ⟨_, rfl⟩
    rw [hws] at hwd hrw
    cases hml : mayL l with
    | false =>
      rw [hml] at hpr hrm
      simp only [Bool.false_eq_true, if_false] at hpr
      simp (maxSteps := 2000000) (disch := omega) only [condK_dec, F1, ↓Int.cast_ofNat_Int, ↓R1, R2, C1, P1, O1, V1, V2, V3, reduceCtorEq, Nat.reduceEqDiff, Nat.reduceBEq, Nat.reduceAdd, Nat.reduceSub, Nat.reduceMul, Nat.reduceLeDiff, Nat.reduceLT, Int.reduceEq, Int.reduceAdd, Int.reduceSub, Int.reduceMul, Int.reduceLT, Int.reduceLE, Int.reduceNeg, Int.reduceToNat, wrap_i64, wrap_u64, wrap_u8, wrap_u16, wrap_u32, wrap_i32, base_get0, base_get, base_set0, base_set, base_take, take_self, take_app1, pf_law23_AsmPrints, hv.lenM, hg', hwd, hrw, hpr, o1, hrm, wakes_D, eq_self, decide_true, beq_self_eq_true, Bool.not_true, Bool.not_false, take_self hN]
    | true =>
      rw [hml] at hpr hrm
      simp only [if_true] at hpr
      simp (maxSteps := 2000000) (disch := omega) only [condK_dec, F1, ↓Int.cast_ofNat_Int, ↓R1, R2, C1, P1, O1, V1, V2, V3, reduceCtorEq, Nat.reduceEqDiff, Nat.reduceBEq, Nat.reduceAdd, Nat.reduceSub, Nat.reduceMul, Nat.reduceLeDiff, Nat.reduceLT, Int.reduceEq, Int.reduceAdd, Int.reduceSub, Int.reduceMul, Int.reduceLT, Int.reduceLE, Int.reduceNeg, Int.reduceToNat, wrap_i64, wrap_u64, wrap_u8, wrap_u16, wrap_u32, wrap_i32, base_get0, base_get, base_set0, base_set, base_take, take_self, take_app1, pf_law23_AsmPrints, hv.lenM, hg', hwd, hrw, hpr, o1, hrm, hrp, wakes_D, eq_self, decide_true, beq_self_eq_true, Bool.not_true, Bool.not_false, take_self hN]

end Go.Proofs.YtoolhdikfdjikaaDoor

/- THE LAW AsmPrints: the row's statement and the card. -/
namespace Go.Proofs.YtoolhdikfdjikaaDoor
open Go Go.Den Go.RowKit Go.ChangeShapes Go.WideShapes Go.ChangeAt
set_option maxRecDepth 100000

theorem asmPrints_lifted (os : Os) (started : os.Started) (H : Type) (enc : TypeId × Value → H) :
    ReturnsInHanded {} Tryd.checked os 3 .any (fun w args => (Rows.asmPrintsSpec.pre enc Tryd.prog Tryd.f3 [] false w args ∧ laidMetH Tryd.prog Rows.asmPrintsRow.laid w) ∧ sizedMet enc Tryd.prog Tryd.f3 (OpenSpec.ofChange Rows.asmPrintsSpec) false w args)
      (Rows.asmPrintsSpec.post enc Tryd.prog Tryd.f3 false true false false) := by
  refine returnsInHanded_of_change_and (C := Tryd.checked) (X := fun w _ => laidMetH Tryd.prog Rows.asmPrintsRow.laid w) (fun _ _ _ hh h => h.of_heap hh) own started (by kernel_rfl) Tryd.func3
    (ChangeSpec.witness_shaped (enc := enc) (C := Tryd.checked) (os := os) (X := fun w _ => laidMetH Tryd.prog Rows.asmPrintsRow.laid w) false (World.laidAll Tryd.prog os Rows.asmPrintsRow.laid) #[.slice none 0 0, .int .u8 0] 8 (World.laidAll_os _ _ _)
      (World.shaped_of_ZipB (by kernel_rfl) (by kernel_rfl)) (by kernel_rfl) (by kernel_rfl) (by kernel_rfl)
      (by rw [MakeChecks.laidMetH_plain _ _ _ (by kernel_rfl)]; exact laidMet_laidAll _ (by kernel_rfl) (by kernel_rfl))) ?_
  intro W base args ds gs before hval0 hW _ _ hL _
  have hval : ∀ (j : Nat) t v, Tryd.f3.params[j]? = some t → args[j]? = some v → Value.okWide Tryd.prog W .any base t v := hval0
  have hW' := hW
  obtain ⟨p, q, hA0, hV, rfl, _, _⟩ := hW
  have hA : DataW.TrodAll enc Tryd.prog W 0 (fun _ => true) true Tryd.f3.params.toList args.toList ds p := hA0
  have hlt := hW'.lt
  rw [Tryd.params3] at hA hval
  obtain ⟨v0, v1, d0, d1, p0, p1, rfl, rfl, rfl, h0, h1⟩ := trodAll_two hA
  obtain ⟨rfl, rfl⟩ := trodVars_none hV
  obtain ⟨x, l, hx, hr, hw, hll⟩ := open_prog (hval 0 22 v0 rfl rfl) h0
  obtain ⟨k, rfl, hk⟩ := open_u8 (hval 1 5 v1 rfl rfl) h1
  refine (law_calls hL (f := 3) Tryd.func3 (by kernel_rfl) (by kernel_rfl) (args := [x, .int .u8 k]) ⟨_, _, rfl, hx, _, _, rfl, rfl, rfl⟩
    (AsmPrints_D x l hw hr (by simp only [maxLen] at hll; omega) k (by omega) [] none)).mono fun e W' ⟨he, hb⟩ => ?_
  subst he
  exact ⟨_, rfl, _, _, _, [], _, [], hW', trodAll_mk1 (shut_bool Tryd.underlying4 _), below_all (by kernel_rfl) hb (by kernel_rfl) hA (fun y hy => hlt y (List.mem_append_left _ hy)), rfl, hb.frame _, fun h => by cases h⟩

theorem asmPrints_holds : Rows.AsmPrintsSaid :=
  OpenClaim.holds_of_wide 3 Tryd.f3 rfl rfl rfl rfl rfl rfl rfl ⟨rfl, rfl, rfl, rfl, rfl⟩ rfl rfl rfl rfl rfl (by kernel_rfl) Tryd.func3 (by kernel_rfl)
    (of_decide_eq_true (by kernel_rfl)) (by unfold Func.isWrapper; first | (rw [if_pos (by decide +kernel)]; kernel_rfl) | (rw [if_neg (by decide +kernel)]; exact ⟨rfl, rfl⟩))
    (fun os started H enc _ => asmPrints_lifted os started H enc)

theorem asmPrints_card : Rows.AsmPrintsCardSaid :=
  Claim7.holds_tied_plain_at .later [] [.data, .data, .data, .data, .sentinel, .sentinel, .widerDeep, .pinned] true (true, "b379dfead7e90a075b2b282c5a6b53afaefb664c95e336b969e95bced20790b8") true asmPrints_holds (fun _ h => by cases h) (by kernel_rfl) (fun _ h => by cases h) asmPrints_row_tie rfl ⟨rfl, rfl⟩ (by kernel_rfl) rfl
    (fun f fn hf hfn => by
      obtain rfl : f = 3 := Option.some.inj ((show Tryd.prog.funcNamed "bailiwick/bailiwicklaw23.AsmPrints" = some 3 by kernel_rfl).symm.trans hf) |>.symm
      obtain rfl : fn = Tryd.f3 := (Option.some.inj (Tryd.func3.symm.trans hfn)).symm
      exact ⟨by kernel_rfl, fun j t ht => by
        rw [Tryd.params3] at ht
        have hm : t ∈ [22, 5] := by simpa using Array.mem_of_getElem? ht
        have hall : ([22, 5].all fun u => !Tryd.prog.wantsStandIn u) = true := by kernel_rfl
        exact (show Tryd.prog.wantsStandIn t = false by simpa using List.all_eq_true.1 hall t hm)⟩)
    (by kernel_rfl)
#print axioms asmPrints_card

end Go.Proofs.YtoolhdikfdjikaaDoor
