/- The listed variables, the arguments, the call (condition: the listed variables are laid as the text of the program lays them, which the card ties). -/
import Derived.Test.YthbgjjdbcalhcaaGreatDoorDiffB
import Derived.Test.YthbgjjdbcalhcaaGreatDoorCheckE
import Derived.Test.YthbgjjdbcalhcaaGreatDoorPrims
import Derived.Test.YthbgjjdbcalhcaaGreatDoorDenC
import Derived.Test.YthbgjjdbcalhcaaGreatDoorTie
import Derived.Test.YthbgjjdbcalhcaaGreatDoorCards
import Derived.ProofKit
import Derived.Lay
import Derived.LaidMore
import Derived.LaidSub
import Derived.MakeChecks
import Derived.ChangeShapes
import Derived.SevenTiedAt
import Derived.OpenShut
import Derived.Stop.Joined
set_option linter.unusedVariables false
set_option linter.unusedSimpArgs false
set_option linter.unusedSectionVars false
set_option linter.deprecated false

/- What the rows of these laws need: the listed variables, the primitives, the call, the arguments. -/
namespace Go.Proofs.YthbgjjdbcalhcaaGreatDoor
open Go Go.Den Go.RowKit Go.ChangeShapes Go.WideShapes Go.ChangeAt
set_option maxRecDepth 100000

theorem own : ownKnob Tryz.prog.godebug = none := by kernel_rfl
abbrev Laid (W : World) : Prop := laidMetH Tryz.prog Rows.diffTellsRow.laid W

/-- A listed variable. -/
theorem laid_get {P : Program} {w : World} {n : String} {d : DataW Unit} : ∀ {laid : List (String × DataW Unit)} {ps : List MemPlace}, DataW.LaidVars P w laid ps → (n, d) ∈ laid →
    ∃ g t cs fuel p, P.globalNamed n = some g ∧ (P.globals[g]?).map (·.type) = some t ∧ w.var? P n = some cs ∧ DataW.trod (fun _ => ()) P w 0 (fun _ => true) false fuel t cs.toList = some (d, p) ∧ ∀ x ∈ MemPlace.row ⟨g, 0, none⟩ cs.size ++ p, x ∈ ps
  | [], _, _, hm => by cases hm
  | (n', d') :: r, ps, h, hm => by
    obtain ⟨g, t, cs, fuel, p, q, h1, h2, h3, h4, h5, rfl⟩ := h
    rcases List.mem_cons.1 hm with e | hm
    · cases e
      exact ⟨g, t, cs, fuel, p, h1, h2, h3, h4, fun x hx => List.mem_append_left _ hx⟩
    · obtain ⟨g', t', cs', fuel', p', a1, a2, a3, a4, a5⟩ := laid_get h5 hm
      exact ⟨g', t', cs', fuel', p', a1, a2, a3, a4, fun x hx => List.mem_append_right _ (a5 x hx)⟩

theorem var_lt {P : Program} {w : World} {n : String} {g : Nat} {cs : Array Value} (hg : P.globalNamed n = some g) (h : w.var? P n = some cs) : g < w.heap.size := by
  simp only [World.var?, hg, Option.bind_some] at h
  cases hh : w.heap[g]? with
  | none => rw [hh] at h; cases h
  | some o => exact (Array.getElem?_eq_some_iff.1 hh).1

/-- What is asked of one listed variable. -/
def GlobAt (w : World) (g : Nat) (cs : List AV) : Prop := g < w.heap.size ∧ ∃ vs : List Value, (∀ (j : Nat) v, vs[j]? = some v → w.cell? ⟨g, j, none⟩ = some v) ∧ Den.Leaves vs ∧ LRel (Gh.start w) cs vs

theorem glob_plain {P : Program} {w : World} {laid : List (String × DataW Unit)} {ps : List MemPlace} (h : DataW.LaidVars P w laid ps) {n : String} {d : DataW Unit} (hm : (n, d) ∈ laid) {g : Nat} {t : TypeId} (hg : P.globalNamed n = some g) (ht : (P.globals[g]?).map (·.type) = some t)
    (hr : rdb P false 8 t = true) {cs : List AV} (hd : ∀ xs, AtOk P 8 t d xs → xs = cs) : GlobAt w g cs := by
  obtain ⟨g', t', c, fuel, p, h1, h2, h3, h4, _⟩ := laid_get h hm
  obtain rfl : g' = g := Option.some.inj (h1.symm.trans hg)
  obtain rfl : t' = t := Option.some.inj (h2.symm.trans ht)
  obtain ⟨xs, a1, a2, a3, _⟩ := trod_at (nest := false) (fun e => by cases e) 8 t' fuel c.toList d p hr (fun e => by cases e) h4
  obtain rfl := hd xs a1
  refine ⟨var_lt h1 h3, c.toList, fun j v hj => ?_, a3, a2⟩
  rw [World.var?_cell h1 h3]
  simpa using hj

theorem flat_map {α : Type} {F : α → AV} : ∀ {L : List α} {els : List (List AV)}, els.length = L.length → (∀ (i : Nat) (x : α) (b : List AV), L[i]? = some x → els[i]? = some b → b = [F x]) → els.flatten = L.map F
  | [], [], _, _ => rfl
  | [], _ :: _, h, _ => by simp at h
  | _ :: _, [], h, _ => by simp at h
  | x :: L, b :: els, h, hi => by
    have h0 := hi 0 x b rfl rfl
    have ih := flat_map (L := L) (els := els) (by simpa using h) (fun i x b hx hb => hi (i + 1) x b (by simpa using hx) (by simpa using hb))
    simp [h0, ih]

theorem powG_at {w : World} {laid : List (String × DataW Unit)} {ps : List MemPlace} (h : DataW.LaidVars Tryz.prog w laid ps) (hm : ("internal/strconv.uint64pow10", Rows.laid_internal_strconv_uint64pow10) ∈ laid) : GlobAt w g_istrconv_uint64pow10 (pow10L.map fun (n : Nat) => AV.int .u64 n) := by
  refine glob_plain h hm (t := 210) (by kernel_rfl) (by kernel_rfl) (by kernel_rfl) fun xs hx => ?_
  unfold AtOk at hx
  rw [Tryz.underlying210] at hx
  obtain ⟨ds, els, hd, rfl, h1, h2, h3⟩ := hx
  have e : (Rows.laid_internal_strconv_uint64pow10 : DataW Unit) = .agg (pow10L.map fun (n : Nat) => .lit (.int .u64 n)) := rfl
  rw [e] at hd
  cases hd
  refine flat_map (by rw [h2]; rfl) fun i x b hx hb => ?_
  have := h3 i _ b (by rw [List.getElem?_map, hx]; rfl) hb
  unfold AtOk at this
  rw [Tryz.underlying39] at this
  obtain ⟨n, hs, rfl, _⟩ := this
  simp only [DataW.lit.injEq, Lit.int.injEq, true_and] at hs
  subst hs
  rfl


theorem glob_at {W : World} (h : Laid W) : GlobAt W g_istrconv_uint64pow10 (pow10L.map fun (n : Nat) => AV.int .u64 n) := by
  unfold Laid at h
  have h := h.filter (fun x => x.2.handleName?.isNone)
  rw [MakeChecks.laidMetH_plain _ _ _ (by kernel_rfl)] at h
  obtain ⟨ps, hl, _, _⟩ := h
  exact powG_at hl (List.mem_filter.2 ⟨by unfold Rows.diffTellsRow; simp, by kernel_rfl⟩)

theorem glob_ok0 {W : World} (h : Laid W) : GlobOk X0 W.heap.size W := by
  refine ⟨fun g cs hg => ?_, fun g es hg => by cases hg⟩
  have hg' : (if g = g_istrconv_uint64pow10 then some (pow10L.map fun (n : Nat) => AV.int .u64 n) else none) = some cs := hg
  split at hg'
  · rename_i e; subst e; cases hg'; exact glob_at h
  · cases hg'

noncomputable def fnAt (nm : List UInt8) : List Nat := (List.range Tryz.prog.funcs.size).filter fun f => (Tryz.prog.funcs[f]?).any (·.name.toUTF8.data.toList == nm)
theorem does_one : tab_g_model_does.all (fun x => fnAt x.2.1 == [x.2.2]) = true := by kernel_rfl
theorem does_ne : tab_g_model_does.all (fun x => !x.2.1.isEmpty) = true := by kernel_rfl
theorem does_nd : tab_g_model_does.Pairwise fun x y => x.1 ≠ y.1 := by decide
abbrev MapAt (W : World) (g : Nat) (es : List (AV × AV)) : Prop := g < W.heap.size ∧ ∃ es' r ms clock, r < W.heap.size ∧ W.cell? ⟨g, 0, none⟩ = some (.map (some r)) ∧ W.heap[r]? = some (.map ms clock) ∧ MRel (G0 W.heap.size W) es' ms.toList ∧ ∀ k v, findKeyA k es = some v → findKeyA k es' = some v
theorem does_at {W : World} (h : Laid W) : MapAt W g_model_does (funcsM tab_g_model_does) :=
  funcs_map (h.funcs (List.mem_cons_of_mem _ (List.mem_cons_of_mem _ (List.mem_cons_of_mem _ (List.mem_cons_of_mem _ List.mem_cons_self))))) rfl (by kernel_rfl) (t := 136) (by kernel_rfl) Tryz.underlying136 Tryz.underlying5 Tryz.underlying134
    (fun x hx => by have := List.all_eq_true.1 does_one x hx; exact beq_iff_eq.1 this) (fun x hx e => by have := List.all_eq_true.1 does_ne x hx; rw [e] at this; cases this) does_nd
theorem glob_map {W : World} {g : Nat} {es : List (AV × AV)} (h : MapAt W g es) : g < W.heap.size ∧ ∃ vs : List Value, (∀ (j : Nat) v, vs[j]? = some v → W.cell? ⟨g, j, none⟩ = some v) ∧ Den.Leaves vs ∧ Den.LRel (G0 W.heap.size W) [AV.mglob g] vs := by
  obtain ⟨h1, es', r, ms, clock, q1, q2, q3, q4, q5⟩ := h
  refine ⟨h1, [.map (some r)], fun j v hj => ?_, fun v hv => by simp at hv; subst hv; rfl, LRel.single.2 ⟨⟨r, rfl⟩, ?_⟩⟩
  · match j, hj with
    | 0, hj => cases hj; exact q2
  · show (if g < W.heap.size then W.cell? ⟨g, 0, none⟩ else none) = _
    rw [if_pos h1]; exact q2
theorem glob_okY {W : World} (h : Laid W) : GlobOk Y0 W.heap.size W := by
  have h1 := does_at h
  refine ⟨fun g cs hg => ?_, fun g es hg => ?_⟩
  · have hg' : (if g = g_model_does then some [AV.mglob g_model_does] else none) = some cs := hg
    split at hg'
    · rename_i e; subst e; cases hg'; exact glob_map h1
    · cases hg'
  · have hg' : (if g = g_model_does then some (funcsM tab_g_model_does) else none) = some es := hg
    split at hg'
    · rename_i e; subst e; cases hg'; exact h1
    · cases hg'
theorem code_okY : CodeOk Tryz.prog Y0 := fun f pf h => codeT_ok _ (lookup_mem (show codeT.lookup f = some pf from h))
theorem recs_ok : RecsOk Tryz.prog recs := fun g pr h => by
  have hm := lookup_mem (show recT.lookup g = some pr from h)
  simp only [recT, List.mem_cons, Prod.mk.injEq, List.mem_nil_iff, or_false] at hm
  obtain ⟨rfl, rfl⟩ := hm
  exact ⟨false, Tryz.f39, Tryz.func39, okR_Pmodel_caller_calls_1⟩
theorem calls_ok {B : Nat} {w : World} (hg : GlobOk Y0 B w) : PrimOk Tryz.prog B w fn_Pmodel_caller_calls pCalls :=
  primD_D hg code_okY (fun f p hp => by cases hp) recs_ok Tryz.func30 okD_Pmodel_caller_calls
theorem prim_okY (B : Nat) (w : World) (hg : GlobOk Y1 B w) : ∀ f p, Y1.prim f = some p → PrimOk Tryz.prog B w f p := by
  intro f p hp
  have hp' : (if f = fn_Pmodel_caller_calls then some pCalls else none) = some p := hp
  split at hp'
  · rename_i e; subst e; cases hp'; exact calls_ok hg
  · cases hp'

theorem glob_okX {B : Nat} {w : World} : GlobOk X B w := by
  refine ⟨fun _ _ h => ?_, fun _ _ h => ?_⟩
  · cases h
  · cases h

theorem code_okX : CodeOk Tryz.prog X := fun f pf h => by
  have h' : (if f = fn_law31_wakes then none else codeT.lookup f) = some pf := h
  split at h'
  · cases h'
  · exact codeT_ok _ (lookup_mem h')

theorem prim_okX {B : Nat} {w : World} : ∀ f p, X.prim f = some p → PrimOk Tryz.prog B w f p := by
  intro f p h
  have hm := lookup_mem (show primT.lookup f = some p from h)
  simp only [primT, List.mem_cons, Prod.mk.injEq, List.mem_nil_iff, or_false] at hm
  rcases hm with ⟨rfl, rfl⟩ | ⟨rfl, rfl⟩
  · exact count_ok
  · exact index_ok

theorem prim_ok1 {B : Nat} {w : World} (hg : GlobOk X0 B w) : ∀ f p, X1.prim f = some p → PrimOk Tryz.prog B w f p := by
  intro f p h
  have h' : (if f = fn_Pdump_dumper_regions then some regP else if f = fn_Pdump_dumper_tokens then some tokP else X0.prim f) = some p := h
  split at h'
  · rename_i e; subst e; cases h'; exact PrimOk.lit (X := X0) code_ok0 prim_ok0 hg regions_D
  · split at h'
    · rename_i e; subst e; cases h'; exact PrimOk.lit (X := X0) code_ok0 prim_ok0 hg tokens_D
    · exact prim_ok0 f p h'
theorem prim_ok1L {B : Nat} {w : World} (hg : GlobOk X0 B w) : ∀ f p, X1L.prim f = some p → PrimOk Tryz.prog B w f p := by
  intro f p h
  have h' : (if f = fn_Pdump_dumper_regions then some regLP else if f = fn_Pdump_dumper_tokens then some tokLP else X0.prim f) = some p := h
  split at h'
  · rename_i e; subst e; cases h'; exact PrimOk.lit (X := X0) code_ok0 prim_ok0 hg regionsL_D
  · split at h'
    · rename_i e; subst e; cases h'; exact PrimOk.lit (X := X0) code_ok0 prim_ok0 hg tokensL_D
    · exact prim_ok0 f p h'
theorem prim_ok2 (B : Nat) (w : World) (hg : GlobOk X2 B w) : ∀ f p, X2.prim f = some p → PrimOk Tryz.prog B w f p := by
  intro f p h
  have h' : (if f = fn_Pdump_dumper_state then some staP else X0.prim f) = some p := h
  split at h'
  · rename_i e; subst e; cases h'; exact PrimOk.lit (X := X1) code_ok0 (prim_ok1 hg) hg state_D
  · exact prim_ok0 f p h'
theorem prim_ok2L (B : Nat) (w : World) (hg : GlobOk X2L B w) : ∀ f p, X2L.prim f = some p → PrimOk Tryz.prog B w f p := by
  intro f p h
  have h' : (if f = fn_Pdump_dumper_state then some staLP else X0.prim f) = some p := h
  split at h'
  · rename_i e; subst e; cases h'; exact PrimOk.lit (X := X1L) code_ok0 (prim_ok1L hg) hg stateL_D
  · exact prim_ok0 f p h'

theorem dif1_X (σ : AS) : D X (.fn (.func fn_diff_Diff) [] []) [S tx1, S tx2] σ = some (.ret vd1 σ) := by
  have h := dif_X tx1 tx2 (by decide) (by decide) (by rw [dif1_is]; simp [dif1]) σ
  rw [dif1_is] at h; exact h
theorem dif2_X (σ : AS) : D X (.fn (.func fn_diff_Diff) [] []) [S bytes3, S bytes4] σ = some (.ret vd2 σ) := by
  have h := dif_X bytes3 bytes4 (by decide) (by decide) (by rw [dif2_is]; simp [dif2]) σ
  rw [dif2_is] at h; exact h

/-- What is known of the world where the check runs. -/
theorem prim_okw {B : Nat} {w : World} (hg : GlobOk X0 B w) (hy : GlobOk Y0 B w) : ∀ f p, Xw.prim f = some p → PrimOk Tryz.prog B w f p := by
  intro f p h
  have h' : (if f = fn_dump_State then some stP else if f = fn_model_State_Do then some (valP argsDo retDo) else if f = fn_model_State_Needs then some (valP argsN (.int .i64 0)) else if f = fn_diff_Diff then some diP else X0.prim f) = some p := h
  split at h'
  · rename_i e; subst e; cases h'
    exact PrimOk.two (PrimOk.val (X := X2) code_ok0 prim_ok2 (by kernel_rfl) rfl State_D hg) (PrimOk.val (X := X2L) code_ok0 prim_ok2L (by kernel_rfl) rfl StateL_D hg)
  · split at h'
    · rename_i e; subst e; cases h'
      obtain ⟨σ, hσ⟩ := Do_D
      exact PrimOk.val (X := Y1) code_okY prim_okY (by kernel_rfl) (by kernel_rfl) hσ hy
    · split at h'
      · rename_i e; subst e; cases h'
        exact PrimOk.val (X := Y1) code_okY prim_okY (by kernel_rfl) rfl Needs_D hy
      · split at h'
        · rename_i e; subst e; cases h'
          exact PrimOk.two (PrimOk.valD (X := X) code_okX prim_okX glob_okX dif1_X) (PrimOk.valD (X := X) code_okX prim_okX glob_okX dif2_X)
        · exact prim_ok0 f p h'

theorem glob_w0 {B : Nat} {w : World} (hg : GlobOk Xw B w) : GlobOk X0 B w := by
  refine ⟨fun g cs h => ?_, fun g es h => by cases h⟩
  have h' : (if g = g_istrconv_uint64pow10 then some (pow10L.map fun (n : Nat) => AV.int .u64 n) else none) = some cs := h
  by_cases e : g = g_istrconv_uint64pow10
  · exact hg.1 g cs (by simp only [Xw]; rw [if_pos e]; exact h)
  · rw [if_neg e] at h'; cases h'
theorem glob_wY {B : Nat} {w : World} (hg : GlobOk Xw B w) : GlobOk Y0 B w := by
  refine ⟨fun g cs h => ?_, fun g es h => hg.2 g es h⟩
  have h' : (if g = g_model_does then some [AV.mglob g_model_does] else none) = some cs := h
  by_cases e : g = g_model_does
  · exact hg.1 g cs (by simp only [Xw]; rw [if_neg (by subst e; decide)]; exact h)
  · rw [if_neg e] at h'; cases h'
theorem glob_okw {W : World} (h : Laid W) : GlobOk Xw W.heap.size W := by
  refine ⟨fun g cs hg => ?_, fun g es hg => (glob_okY h).2 g es hg⟩
  have hg' : (if g = g_istrconv_uint64pow10 then X0.glob g else Y0.glob g) = some cs := hg
  by_cases e : g = g_istrconv_uint64pow10
  · rw [if_pos e] at hg'; exact (glob_ok0 h).1 g cs hg'
  · rw [if_neg e] at hg'; exact (glob_okY h).1 g cs hg'

theorem prim_okU {W : World} (hL : Laid W) : ∀ f p, XU.prim f = some p → PrimOk Tryz.prog W.heap.size W f p := by
  intro f p h
  have h' : (if f = fn_law31_wakes then some (closedP true) else primT.lookup f) = some p := h
  split at h'
  · rename_i e; subst e; cases h'
    obtain ⟨σ, hσ⟩ := wakes_D
    exact PrimOk.closed (X := Xw) code_okY (fun B w hg => prim_okw (glob_w0 hg) (glob_wY hg)) hσ (glob_okw hL)
  · exact prim_okX f p h'

/-- A world where all listed variables are laid: the door's, and the table that the door does not lay. -/
noncomputable def wit (os : Os) : World := (World.doorLaid Tryz.prog 600 os).layVars Tryz.prog [("unicode/utf8.first", Rows.laid_unicode_utf8_first)]
theorem wit_met (os : Os) (args : Array Value) : Laid ((wit os).forCall (fun _ _ => 0) ⟨#[], args, []⟩).memory :=
  laidMetH_of_parts3 (fuel := 8) (laidMet_of_run' 8 (by kernel_rfl) (by kernel_rfl)) (by kernel_rfl) (by kernel_rfl)
theorem wit_os (os : Os) : (wit os).os = os := (World.layVars_os _ _ _).trans rfl

/-- The call. -/
theorem law_calls {W : World} (hL : Laid W) {f : FuncId} {fn : Func} (hfn : Tryz.prog.funcs[f]? = some fn) (hb : fn.body.isSome = true) (hname : (fn.name == "runtime.NumGoroutine") = false)
    {args : List AV} {args' : Array Value} (hl : LRel (Gh.start W) args args'.toList) {σ : AS} (h : D XU (.fn (.func f) [] []) args ⟨[], none⟩ = some (.ret (.bool true) σ)) :
    Calls Tryz.prog f args' W fun e w' => e = .returned (.bool true) ∧ Below W.heap.size W w' := by
  refine (D_calls (X := XU) glob_okX code_okX (prim_okU hL) hfn hb hname hl h).mono ?_
  rintro e w' ⟨G, v', rfl, hv, hbl⟩
  obtain rfl : v' = .bool true := hv
  exact ⟨rfl, hbl⟩

section
variable {H : Type} {enc : TypeId × Value → H} {W : World} {sp : Nat → Bool} {held : Bool} {base : Nat} {v : Value} {d : DataW H} {ps : List MemPlace}
/-- An argument that is a text. -/
theorem open_text (hok : Value.okWide Tryz.prog W .any base 9 v) (h : DataW.Trod enc Tryz.prog W 0 sp held 9 v d ps) : ∃ l : List UInt8, VRel (Gh.start W) (S l) v ∧ l.length ≤ maxLen := by
  obtain ⟨s, rfl⟩ := okWide_string Tryz.underlying9 hok
  obtain ⟨n, h⟩ := h
  obtain ⟨s', e, _, hs⟩ := DataW.trod_string Tryz.underlying9 h
  simp only [Value.cells, List.cons.injEq, Value.string.injEq, and_true] at e
  subst e
  exact ⟨s.data.toList, rfl, hs⟩
end

end Go.Proofs.YthbgjjdbcalhcaaGreatDoor
