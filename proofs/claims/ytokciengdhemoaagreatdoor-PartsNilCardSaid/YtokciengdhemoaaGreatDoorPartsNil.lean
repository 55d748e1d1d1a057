/- THE LAW PartsNil: it returns true (condition: the listed variable is laid as the text of the program lays it, which the card ties). -/
import Derived.Test.YtokciengdhemoaaGreatDoorRow
set_option linter.unusedVariables false
set_option linter.unusedSimpArgs false
set_option linter.unusedSectionVars false
set_option linter.deprecated false

namespace Go.Proofs.YtokciengdhemoaaGreatDoor
open Go Go.Den
set_option maxRecDepth 100000
theorem PartsNil_D : ∃ σ, D X1 (.fn (.func fn_law21_PartsNil) [] []) [] ⟨[], none⟩ = some (.ret (.bool true) σ) := D_true (n := 3000) (by kernel_rfl)
#print axioms PartsNil_D
end Go.Proofs.YtokciengdhemoaaGreatDoor

/- THE LAW PartsNil: the row's statement and the card. -/
namespace Go.Proofs.YtokciengdhemoaaGreatDoor
open Go Go.Den Go.RowKit Go.ChangeShapes Go.WideShapes Go.ChangeAt
set_option maxRecDepth 100000

theorem partsNil_lifted (os : Os) (started : os.Started) (H : Type) (enc : TypeId × Value → H) :
    ReturnsInHanded {} Tryz.checked os 4 .any (fun w args => (Rows.partsNilSpec.pre enc Tryz.prog Tryz.f4 [] false w args ∧ laidMetH Tryz.prog Rows.machineNilRow.laid w) ∧ sizedMet enc Tryz.prog Tryz.f4 (OpenSpec.ofChange Rows.partsNilSpec) false w args)
      (Rows.partsNilSpec.post enc Tryz.prog Tryz.f4 false true false false) := by
  refine returnsInHanded_of_change_and (C := Tryz.checked) (X := fun w _ => laidMetH Tryz.prog Rows.machineNilRow.laid w) (fun _ _ _ hh h => h.of_heap hh) own started (by kernel_rfl) Tryz.func4
    (ChangeSpec.witness_shaped (enc := enc) (C := Tryz.checked) (os := os) (X := fun w _ => laidMetH Tryz.prog Rows.machineNilRow.laid w) false (World.doorLaid Tryz.prog 600 os) #[] 8 rfl (World.shaped_of_RefB (by kernel_rfl) (by kernel_rfl)) (by kernel_rfl) (by kernel_rfl) (by kernel_rfl) (door_met os _)) ?_
  intro W base args ds gs before hval0 hW _ _ hL _
  have hval : ∀ (j : Nat) t v, Tryz.f4.params[j]? = some t → args[j]? = some v → Value.okWide Tryz.prog W .any base t v := hval0
  have hW' := hW
  obtain ⟨p, q, hA0, hV, rfl, _, _⟩ := hW
  have hA : DataW.TrodAll enc Tryz.prog W 0 (fun _ => true) true Tryz.f4.params.toList args.toList ds p := hA0
  have hlt := hW'.lt
  rw [Tryz.params4] at hA hval
  obtain ⟨rfl, rfl, rfl⟩ := trodAll_none hA
  obtain ⟨rfl, rfl⟩ := trodVars_none hV
  refine (law_calls hL (f := 4) Tryz.func4 (by kernel_rfl) (by kernel_rfl) (args := []) rfl (PartsNil_D)).mono fun e W' ⟨he, hb⟩ => ?_
  subst he
  exact ⟨_, rfl, _, _, _, [], _, [], hW', trodAll_mk1 (shut_bool Tryz.underlying4 _), below_all (by kernel_rfl) hb (by kernel_rfl) hA (fun y hy => hlt y (List.mem_append_left _ hy)), rfl, hb.frame _, fun h => by cases h⟩

theorem partsNil_holds : Rows.PartsNilSaid :=
  OpenClaim.holds_of_wide 4 Tryz.f4 rfl rfl rfl rfl rfl rfl rfl ⟨rfl, rfl, rfl, rfl, rfl⟩ rfl rfl rfl rfl rfl (by kernel_rfl) Tryz.func4 (by kernel_rfl)
    (of_decide_eq_true (by kernel_rfl)) (by unfold Func.isWrapper; first | (rw [if_pos (by decide +kernel)]; kernel_rfl) | (rw [if_neg (by decide +kernel)]; exact ⟨rfl, rfl⟩))
    (fun os started H enc _ => partsNil_lifted os started H enc)

theorem partsNil_card : Rows.PartsNilCardSaid :=
  Claim7.holds_tied_plain_at .later [] [.funcs] true (true, "d9f9197663383d609b6ff1ac5e7097744c2abc859a79361aa4706010f50e6de3") true partsNil_holds (fun _ h => by cases h) (by kernel_rfl) (fun _ h => by cases h) partsNil_row_tie rfl ⟨rfl, rfl⟩ (by kernel_rfl) rfl
    (fun f fn hf hfn => by
      obtain rfl : f = 4 := Option.some.inj ((show Tryz.prog.funcNamed "bailiwick/bailiwicklaw21.PartsNil" = some 4 by kernel_rfl).symm.trans hf) |>.symm
      obtain rfl : fn = Tryz.f4 := (Option.some.inj (Tryz.func4.symm.trans hfn)).symm
      exact ⟨by kernel_rfl, fun j t ht => by
        rw [Tryz.params4] at ht
        cases ht⟩)
    (by kernel_rfl)
#print axioms partsNil_card

end Go.Proofs.YtokciengdhemoaaGreatDoor
