/- The contexts of this seat: primitives, listed variable, code; a call of a law answers as the evaluator does (condition: the variable is laid as the row lists it). -/
import Derived.Test.YtokciengdhemoaaGreatDoorCode
import Derived.Test.YtokciengdhemoaaGreatDoorDenD
import Derived.Test.YtokciengdhemoaaGreatDoorDenC
import Derived.Test.YtokciengdhemoaaGreatDoorTie
import Derived.Test.YtokciengdhemoaaGreatDoorCards
import Derived.ProofKit
import Derived.Lay
import Derived.LaidMore
import Derived.ChangeShapes
import Derived.SevenTiedAt
import Derived.Stop.Joined
set_option linter.unusedVariables false
set_option linter.unusedSimpArgs false
set_option linter.unusedSectionVars false
set_option linter.deprecated false

/- The context of this seat, for the kernel. -/
namespace Go.Proofs.YtokciengdhemoaaGreatDoor
open Go Go.Den
set_option maxRecDepth 100000
def doesTab : List (Nat × List UInt8 × Nat) := [(1, [40, 42, 98, 97, 105, 108, 105, 119, 105, 99, 107, 47, 109, 111, 100, 101, 108, 46, 99, 97, 108, 108, 101, 114, 41, 46, 110, 101, 119], 185), (2, [40, 42, 98, 97, 105, 108, 105, 119, 105, 99, 107, 47, 109, 111, 100, 101, 108, 46, 99, 97, 108, 108, 101, 114, 41, 46, 97, 108, 108, 111, 99], 186), (3, [40, 42, 98, 97, 105, 108, 105, 119, 105, 99, 107, 47, 109, 111, 100, 101, 108, 46, 99, 97, 108, 108, 101, 114, 41, 46, 108, 111, 97, 100], 187), (4, [40, 42, 98, 97, 105, 108, 105, 119, 105, 99, 107, 47, 109, 111, 100, 101, 108, 46, 99, 97, 108, 108, 101, 114, 41, 46, 115, 116, 111, 114, 101], 188), (5, [40, 42, 98, 97, 105, 108, 105, 119, 105, 99, 107, 47, 109, 111, 100, 101, 108, 46, 99, 97, 108, 108, 101, 114, 41, 46, 114, 101, 115, 101, 116], 189), (6, [40, 42, 98, 97, 105, 108, 105, 119, 105, 99, 107, 47, 109, 111, 100, 101, 108, 46, 99, 97, 108, 108, 101, 114, 41, 46, 100, 101, 108, 101, 116, 101], 190), (7, [40, 42, 98, 97, 105, 108, 105, 119, 105, 99, 107, 47, 109, 111, 100, 101, 108, 46, 99, 97, 108, 108, 101, 114, 41, 46, 99, 117, 116], 191), (8, [40, 42, 98, 97, 105, 108, 105, 119, 105, 99, 107, 47, 109, 111, 100, 101, 108, 46, 99, 97, 108, 108, 101, 114, 41, 46, 103, 114, 97, 102, 116], 192), (9, [40, 42, 98, 97, 105, 108, 105, 119, 105, 99, 107, 47, 109, 111, 100, 101, 108, 46, 99, 97, 108, 108, 101, 114, 41, 46, 102, 114, 101, 101, 122, 101], 193), (10, [40, 42, 98, 97, 105, 108, 105, 119, 105, 99, 107, 47, 109, 111, 100, 101, 108, 46, 99, 97, 108, 108, 101, 114, 41, 46, 115, 104, 97, 114, 101], 194), (11, [40, 42, 98, 97, 105, 108, 105, 119, 105, 99, 107, 47, 109, 111, 100, 101, 108, 46, 99, 97, 108, 108, 101, 114, 41, 46, 100, 114, 111, 112], 195), (12, [40, 42, 98, 97, 105, 108, 105, 119, 105, 99, 107, 47, 109, 111, 100, 101, 108, 46, 99, 97, 108, 108, 101, 114, 41, 46, 108, 101, 110, 100], 196), (13, [40, 42, 98, 97, 105, 108, 105, 119, 105, 99, 107, 47, 109, 111, 100, 101, 108, 46, 99, 97, 108, 108, 101, 114, 41, 46, 103, 105, 118, 101, 66, 97, 99, 107], 197), (14, [40, 42, 98, 97, 105, 108, 105, 119, 105, 99, 107, 47, 109, 111, 100, 101, 108, 46, 99, 97, 108, 108, 101, 114, 41, 46, 115, 101, 110, 100], 198), (15, [40, 42, 98, 97, 105, 108, 105, 119, 105, 99, 107, 47, 109, 111, 100, 101, 108, 46, 99, 97, 108, 108, 101, 114, 41, 46, 114, 101, 99, 118], 199), (16, [40, 42, 98, 97, 105, 108, 105, 119, 105, 99, 107, 47, 109, 111, 100, 101, 108, 46, 99, 97, 108, 108, 101, 114, 41, 46, 114, 101, 99, 118], 199), (17, [40, 42, 98, 97, 105, 108, 105, 119, 105, 99, 107, 47, 109, 111, 100, 101, 108, 46, 99, 97, 108, 108, 101, 114, 41, 46, 99, 108, 111, 115, 101], 200), (18, [40, 42, 98, 97, 105, 108, 105, 119, 105, 99, 107, 47, 109, 111, 100, 101, 108, 46, 99, 97, 108, 108, 101, 114, 41, 46, 114, 101, 102], 201), (19, [40, 42, 98, 97, 105, 108, 105, 119, 105, 99, 107, 47, 109, 111, 100, 101, 108, 46, 99, 97, 108, 108, 101, 114, 41, 46, 100, 101, 114, 101, 102], 202), (20, [40, 42, 98, 97, 105, 108, 105, 119, 105, 99, 107, 47, 109, 111, 100, 101, 108, 46, 99, 97, 108, 108, 101, 114, 41, 46, 101, 120, 105, 116], 203), (21, [40, 42, 98, 97, 105, 108, 105, 119, 105, 99, 107, 47, 109, 111, 100, 101, 108, 46, 99, 97, 108, 108, 101, 114, 41, 46, 107, 105, 108, 108], 204), (22, [40, 42, 98, 97, 105, 108, 105, 119, 105, 99, 107, 47, 109, 111, 100, 101, 108, 46, 99, 97, 108, 108, 101, 114, 41, 46, 115, 112, 97, 119, 110], 205)]

noncomputable def X0 : Ctx := { glob := fun g => if g = g_model_does then some [.mglob g_model_does] else none, code := fun f => codeT.lookup f, prim := fun _ => none, gmap := fun g => if g = g_model_does then some (funcsM doesTab) else none }
def recs : Recs := fun f => recT.lookup f
noncomputable def X1 : Ctx := { X0 with prim := fun f => if f = fn_Pmodel_caller_calls then some (primD X0 (D X0) Lw recs fn_Pmodel_caller_calls pd_Pmodel_caller_calls) else none }

noncomputable def noPR : PrimsF := fun _ => none
noncomputable def F0 (n : Nat) : CallerF := callF X0 noPR n
noncomputable def PR1 (n : Nat) : PrimsF := fun f => if f = fn_Pmodel_caller_calls then some (primDF X0 (F0 n) (iterF n) recs fn_Pmodel_caller_calls pd_Pmodel_caller_calls) else none
noncomputable def F1 (n : Nat) : CallerF := callF X1 (PR1 n) n

theorem noPR_ok : PrimsF.ok X0 noPR := fun f q h => by cases h
theorem noPR_keep : PrimsKeep noPR := fun f q h => by cases h

theorem PR1_ok (n : Nat) : PrimsF.ok X1 (PR1 n) := fun f q h => by
  unfold PR1 at h
  split at h
  · rename_i hf
    cases h
    refine ⟨primD X0 (D X0) Lw recs fn_Pmodel_caller_calls pd_Pmodel_caller_calls, by simp [X1, hf], fun args σ r hr => ?_⟩
    exact primDF_sound X0 (D_callF X0 noPR noPR_ok noPR_keep) (callF_keep X0 noPR noPR_keep n) (iterF_Lw n) hr
  · cases h

theorem PR1_keep (n : Nat) : PrimsKeep (PR1 n) := fun f q h args σ r hr => by
  unfold PR1 at h
  split at h
  · cases h
    exact primDF_keep X0 (callF_keep X0 noPR noPR_keep n) (iterF_keep n) hr
  · cases h

theorem F1_D (n : Nat) : CSnd (F1 n) (D X1) := D_callF X1 (PR1 n) (PR1_ok n) (PR1_keep n)

noncomputable def isT : Option FCRes → Bool
  | some (.ret (.bool b) _) => b
  | _ => false

theorem isT_ret {o : Option FCRes} (h : isT o = true) : ∃ σ, o = some (.ret (.bool true) σ) := by
  unfold isT at h
  split at h
  · subst h; exact ⟨_, rfl⟩
  · cases h

noncomputable def σF : FS := ⟨0, .nil, none, 0⟩
theorem σF_dec : σF.dec = ⟨[], none⟩ := rfl

/-- What the kernel computes. -/
theorem D_true {f : FuncId} {args : List AV} {n : Nat} (h : isT (F1 n (.fn (.func f) [] []) args σF) = true) : ∃ σ, D X1 (.fn (.func f) [] []) args ⟨[], none⟩ = some (.ret (.bool true) σ) := by
  obtain ⟨σ, hσ⟩ := isT_ret h
  exact ⟨σ.dec, F1_D n _ _ _ _ hσ⟩

end Go.Proofs.YtokciengdhemoaaGreatDoor

/- What the rows of this seat share: the listed variable, the primitives, the call. -/
namespace Go.Proofs.YtokciengdhemoaaGreatDoor
open Go Go.Den Go.RowKit Go.ChangeShapes Go.WideShapes Go.ChangeAt
set_option maxRecDepth 100000

theorem own : ownKnob Tryz.prog.godebug = none := by kernel_rfl

theorem lookup_mem {α : Type} {k : Nat} {v : α} : ∀ {l : List (Nat × α)}, l.lookup k = some v → (k, v) ∈ l
  | [], h => by cases h
  | (a, b) :: l, h => by
    rw [List.lookup_cons] at h
    split at h
    · rename_i hk
      cases h
      rw [beq_iff_eq.1 hk]; exact List.mem_cons_self
    · exact List.mem_cons_of_mem _ (lookup_mem h)

noncomputable def fnAt (nm : List UInt8) : List Nat := (List.range Tryz.prog.funcs.size).filter fun f => (Tryz.prog.funcs[f]?).any (·.name.toUTF8.data.toList == nm)

theorem tab_one : doesTab.all (fun x => fnAt x.2.1 == [x.2.2]) = true := by kernel_rfl
theorem tab_ne : doesTab.all (fun x => !x.2.1.isEmpty) = true := by kernel_rfl
theorem tab_nd : doesTab.Pairwise fun x y => x.1 ≠ y.1 := by decide

theorem does_at {W : World} (h : laidMetH Tryz.prog Rows.machineNilRow.laid W) : g_model_does < W.heap.size ∧ ∃ es' r ms clock, r < W.heap.size ∧ W.cell? ⟨g_model_does, 0, none⟩ = some (.map (some r)) ∧ W.heap[r]? = some (.map ms clock) ∧ MRel (G0 W.heap.size W) es' ms.toList ∧ ∀ k v, findKeyA k (funcsM doesTab) = some v → findKeyA k es' = some v :=
  funcs_map (h.funcs (List.mem_singleton.2 rfl)) rfl (by kernel_rfl) (t := 210) (by kernel_rfl) Tryz.underlying210 Tryz.underlying5 Tryz.underlying208
    (fun x hx => by have := List.all_eq_true.1 tab_one x hx; exact beq_iff_eq.1 this) (fun x hx e => by have := List.all_eq_true.1 tab_ne x hx; rw [e] at this; cases this) tab_nd

theorem glob_ok0 {W : World} (h : laidMetH Tryz.prog Rows.machineNilRow.laid W) : GlobOk X0 W.heap.size W := by
  obtain ⟨h1, h2⟩ := does_at h
  refine ⟨fun g cs hg => ?_, fun g es hg => ?_⟩
  · have hg' : (if g = g_model_does then some [AV.mglob g_model_does] else none) = some cs := hg
    split at hg'
    · rename_i e
      subst e
      cases hg'
      obtain ⟨es', r, ms, clock, q1, q2, q3, q4, q5⟩ := h2
      refine ⟨h1, [.map (some r)], fun j v hj => ?_, fun v hv => by simp at hv; subst hv; rfl, LRel.single.2 ⟨⟨r, rfl⟩, ?_⟩⟩
      · match j, hj with
        | 0, hj => cases hj; exact q2
      · show (if g_model_does < W.heap.size then W.cell? ⟨g_model_does, 0, none⟩ else none) = _
        rw [if_pos h1]; exact q2
    · cases hg'
  · have hg' : (if g = g_model_does then some (funcsM doesTab) else none) = some es := hg
    split at hg'
    · rename_i e
      subst e
      cases hg'
      exact ⟨h1, h2⟩
    · cases hg'

theorem code_ok0 : CodeOk Tryz.prog X0 := fun f pf h => codeT_ok _ (lookup_mem (show codeT.lookup f = some pf from h))

theorem recs_ok : RecsOk Tryz.prog recs := fun g pr h => by
  have hm := lookup_mem (show recT.lookup g = some pr from h)
  simp only [recT, List.mem_cons, Prod.mk.injEq, List.mem_nil_iff, or_false] at hm
  obtain ⟨rfl, rfl⟩ := hm
  exact ⟨false, Tryz.f86, Tryz.func86, okR_Pmodel_caller_calls_1⟩

theorem prim_ok {W : World} (h : laidMetH Tryz.prog Rows.machineNilRow.laid W) : ∀ f p, X1.prim f = some p → PrimOk Tryz.prog W.heap.size W f p := by
  intro f p hp
  have hp' : (if f = fn_Pmodel_caller_calls then some (primD X0 (D X0) Lw recs fn_Pmodel_caller_calls pd_Pmodel_caller_calls) else none) = some p := hp
  split at hp'
  · rename_i e
    subst e
    cases hp'
    exact primD_D (glob_ok0 h) code_ok0 (fun f p hp => by cases hp) recs_ok Tryz.func55 okD_Pmodel_caller_calls
  · cases hp'

/-- The call. -/
theorem law_calls {W : World} (hL : laidMetH Tryz.prog Rows.machineNilRow.laid W) {f : FuncId} {fn : Func} (hfn : Tryz.prog.funcs[f]? = some fn) (hb : fn.body.isSome = true) (hname : (fn.name == "runtime.NumGoroutine") = false)
    {args : List AV} {args' : Array Value} (hl : LRel (Gh.start W) args args'.toList) (h : ∃ σ, D X1 (.fn (.func f) [] []) args ⟨[], none⟩ = some (.ret (.bool true) σ)) :
    Calls Tryz.prog f args' W fun e w' => e = .returned (.bool true) ∧ Below W.heap.size W w' := by
  obtain ⟨σ, h⟩ := h
  refine (D_calls (X := X1) (glob_ok0 hL) code_ok0 (prim_ok hL) hfn hb hname hl h).mono ?_
  rintro e w' ⟨G, v', rfl, hv, hbl⟩
  obtain rfl : v' = .bool true := hv
  exact ⟨rfl, hbl⟩

/-- The door's own heap meets the condition. -/
theorem door_met (os : Os) (args : Array Value) : laidMetH Tryz.prog Rows.machineNilRow.laid ((World.doorLaid Tryz.prog 600 os).forCall (fun _ _ => 0) ⟨#[], args, []⟩).memory :=
  laidMetH_of_parts3 (fuel := 8) (laidMet_of_run' 8 (by kernel_rfl) (by kernel_rfl)) (by kernel_rfl) (by kernel_rfl)

end Go.Proofs.YtokciengdhemoaaGreatDoor
