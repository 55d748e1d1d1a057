/- The law's context holds: primitives, listed variables, code, arguments (condition: the variables are laid as the row lists them). -/
import Derived.Test.YtoolhdikfdjikaaDoorAsmA
import Derived.Test.YtoolhdikfdjikaaDoorDenC
import Derived.WalkKit
import Derived.Lib.Builder
import Derived.Laws.Externs
import Derived.Test.YtoolhdikfdjikaaDoorRows
import Derived.Lib.Bytealg
import Derived.LaidLaws
import Derived.MakeChecks
import Derived.LaidMore
import Derived.ProofKit
import Derived.Lay
import Derived.ChangeShapes
import Derived.SevenTiedAt
import Derived.OpenShut
set_option linter.unusedVariables false
set_option linter.unusedSimpArgs false
set_option linter.unusedSectionVars false
set_option linter.deprecated false

/- Primitives: the builder's own check; bytes counted and found. -/
namespace Go.Proofs.YtoolhdikfdjikaaDoor
open Go Go.Den Go.RowKit

set_option maxHeartbeats 1000000 in
set_option maxRecDepth 100000 in
theorem copy_used (b : Nat) (w : World) (h0 : w.cell? ⟨b, 0, none⟩ = some (.pointer (some ⟨b, 0, none⟩))) :
    Calls Tryd.prog fn_Pstrings_Builder_copyCheck #[.pointer (some ⟨b, 0, none⟩)] w fun e w' => e = .returned (.tuple #[]) ∧ w' = w := by
  obtain ⟨j, hj, hjs⟩ := Option.map_eq_some_iff.1 (show (Tryd.prog.info? 50).map (·.size) = some 2 by kernel_rfl)
  unfold fn_Pstrings_Builder_copyCheck
  go_enter Tryd.func32, Tryd.ntmps32
  go_wp2
  rw [Lib.run_neq_ptr_same w _ Tryd.underlying47 hj]
  go_wp2
  go_end0
  exact ⟨rfl, rfl⟩

set_option maxHeartbeats 1000000 in
set_option maxRecDepth 100000 in
theorem copy_fresh (b : Nat) (w : World) (h0 : w.cell? ⟨b, 0, none⟩ = some (.pointer none)) (hsh : w.shape? b = some (50, 2)) (hfz : w.frozen? ⟨b, 0, none⟩ = false) :
    Calls Tryd.prog fn_Pstrings_Builder_copyCheck #[.pointer (some ⟨b, 0, none⟩)] w fun e w' => e = .returned (.tuple #[]) ∧ w' = w.setCell ⟨b, 0, none⟩ (.pointer (some ⟨b, 0, none⟩)) := by
  obtain ⟨j, hj, hjs⟩ := Option.map_eq_some_iff.1 (show (Tryd.prog.info? 50).map (·.size) = some 2 by kernel_rfl)
  unfold fn_Pstrings_Builder_copyCheck
  go_enter Tryd.func32, Tryd.ntmps32
  go_wp2
  rw [Lib.run_to_unsafe w ⟨b, 0, none⟩ Tryd.underlying47 Tryd.underlying82 hj (by rw [hjs]; decide) hsh (Nat.zero_lt_succ 1)]
  simp only [Result.andThen]
  rw [Oper.upon_value]
  go_wp2
  rw [run_callFunc_extern Tryd.func41 (by kernel_rfl) (by kernel_rfl) (by kernel_rfl) (e := Extern.AbiNoEscape.same) (by kernel_rfl)]
  rw [Lib.run_noEscape]
  simp only [Result.andThen]
  rw [Oper.upon_value]
  go_wp2
  rw [Lib.run_from_unsafe w ⟨b, 0, none⟩ Tryd.underlying82 Tryd.underlying47 hj hsh (by kernel_rfl)]
  simp only [Result.andThen]
  rw [Oper.upon_value]
  go_wp2
  go_end0
  exact ⟨rfl, rfl⟩


theorem list_set_self {α : Type} {l : List α} {i : Nat} {x : α} (h : l[i]? = some x) : l.set i x = l := by
  obtain ⟨hi, e⟩ := List.getElem?_eq_some_iff.1 h
  subst e
  exact List.set_getElem_self hi

theorem run_enter {f : Nat} {fn : Func} (hf : Tryd.prog.funcs[f]? = some fn) (hb : fn.body.isSome = true) (hname : (fn.name == "runtime.NumGoroutine") = false) (args : Array Value) (w : World) :
    (callFunc f args).run Tryd.prog w = .ok (.enter f args) w := by
  have hn' : ¬ fn.name = "runtime.NumGoroutine" := by simpa using hname
  obtain ⟨c, hc⟩ := Option.isSome_iff_exists.1 hb
  simp [callFunc, run_program, hf, hn', hc]

variable {B : Nat} {w₀ : World}

theorem copyCheck_ok : PrimOk Tryd.prog B w₀ fn_Pstrings_Builder_copyCheck copyCheckP := by
  intro args σ cr h G w args' hw hl
  rw [run_enter (f := fn_Pstrings_Builder_copyCheck) (fn := Tryd.f32) Tryd.func32 (by kernel_rfl) (by kernel_rfl)]
  show CallsIn (W none) 0 Tryd.prog _ args' w _
  rw [W_none]
  refine callsIn_wide.2 ?_
  unfold copyCheckP at h
  split at h
  · rename_i id
    split at h
    · rename_i c v tg he
      rw [Option.ite_none_right_eq_some] at h
      obtain ⟨⟨htg, hc⟩, h⟩ := h
      cases h
      obtain ⟨h0, hid, a, ty, hb, hlc, lf, ht⟩ := cells_of_box hw he
      obtain rfl : ty = 50 := ht 50 htg
      simp only [LRel] at hl hlc
      obtain ⟨v0, r0, e0, hv0, rfl⟩ := hl
      obtain ⟨_, ad, rfl, had⟩ := hv0
      obtain rfl := had h0
      obtain rfl : args' = #[.pointer (some ⟨G.blk id, 0, none⟩)] := by
        apply Array.ext'; simpa using e0
      obtain ⟨x0, r1, e1, hx0, x1, r2, rfl, hx1, rfl⟩ := hlc
      have hcell : w.cell? ⟨G.blk id, 0, none⟩ = some x0 := cell_of_block hb 0 x0 (by rw [e1]; rfl)
      have hasz : a.size = 2 := by rw [← Array.length_toList, e1]; rfl
      have key : WRel Tryd.prog B w₀ G ⟨σ.heap.set id (.box [.ptr id 0, v] tg), σ.lo⟩ (w.setCell ⟨G.blk id, 0, none⟩ (.pointer (some ⟨G.blk id, 0, none⟩))) := by
        have := hw.put hid (O := .cells (a.setIfInBounds 0 (.pointer (some ⟨G.blk id, 0, none⟩))) 50 (0, 0)) (o' := .box [.ptr id 0, v] tg) (id + 1) ⟨h0, _, 50, putB_same (hw.low id hid).2, by
          rw [Array.toList_setIfInBounds, e1]
          exact ⟨_, _, rfl, ⟨hid, _, rfl, fun _ => rfl⟩, x1, [], rfl, hx1, rfl⟩, fun q hq => by
          rw [Array.toList_setIfInBounds, e1] at hq
          rcases List.mem_cons.1 hq with rfl | hq
          · rfl
          · exact lf q (by rw [e1]; exact List.mem_cons_of_mem _ hq), ht⟩
        rw [setCell_putB hb]
        simpa [AS.set] using this
      have hext : σ.Ext ⟨σ.heap.set id (.box [.ptr id 0, v] tg), σ.lo⟩ := by
        have := AS.Ext.set (σ := σ) (o' := .box [.ptr id 0, v] tg) (refs := id + 1) he (fun n hn hr => by
          simp only [AObj.le, refsL, AV.refs] at hn ⊢; omega)
        simpa [AS.set] using this
      cases c with
      | nilp =>
        obtain rfl : x0 = .pointer none := hx0
        refine (copy_fresh (G.blk id) w hcell (by simp [World.shape?, hb, hasz]) (by simp [World.frozen?, hb])).mono ?_
        rintro e w' ⟨rfl, rfl⟩
        exact ⟨G, G.le_refl, key, ⟨#[], rfl, rfl⟩, hext⟩
      | ptr i o =>
        simp only [Bool.and_eq_true, beq_iff_eq] at hc
        obtain ⟨rfl, rfl⟩ := hc
        obtain ⟨_, ad, rfl, had⟩ := hx0
        obtain rfl := had h0
        refine (copy_used (G.blk i) w hcell).mono ?_
        rintro e w' ⟨rfl, rfl⟩
        refine ⟨G, G.le_refl, ?_, ⟨#[], rfl, rfl⟩, hext⟩
        rw [list_set_self he]; exact hw
      | _ => cases hc
    · cases h
  · cases h

end Go.Proofs.YtoolhdikfdjikaaDoor

/- The law's context holds: primitives, listed variables, code. -/
namespace Go.Proofs.YtoolhdikfdjikaaDoor
open Go Go.Den Go.RowKit
set_option maxRecDepth 100000

variable {B : Nat} {w₀ : World}

theorem two_args {G : Gh} {s : ByteArray} {c : Int} {k : IntKind} {args' : Array Value} (hl : LRel G [.str s, .int k c] args'.toList) : args' = #[.string s, .int k c] := by
  simp only [LRel] at hl
  obtain ⟨v0, r0, e0, h0, v1, r1, rfl, h1, rfl⟩ := hl
  obtain rfl : v0 = .string s := h0
  obtain rfl : v1 = .int k c := h1
  apply Array.ext'; simpa using e0

theorem toU8 {b : UInt8} {c : Int} (h0 : 0 ≤ c) (h1 : c < 256) : (b == c.toNat.toUInt8) = decide ((b.toNat : Int) = c) := by
  have e : c.toNat.toUInt8.toNat = c.toNat := by
    rw [Nat.toUInt8, UInt8.toNat_ofNat']; omega
  rw [Bool.eq_iff_iff, beq_iff_eq, decide_eq_true_eq, ← UInt8.toNat_inj, e]
  omega

theorem count_ok : PrimOk Tryd.prog B w₀ fn_ibytealg_CountString countP := by
  intro args σ cr h G w args' hw hl
  unfold countP at h
  split at h
  · rename_i s c
    rw [Option.ite_none_right_eq_some] at h
    obtain ⟨⟨h0, h1⟩, h⟩ := h
    cases h
    obtain rfl := two_args hl
    rw [run_callFunc_extern (f := fn_ibytealg_CountString) Tryd.func55 (by kernel_rfl) (by kernel_rfl) (by kernel_rfl) (e := Extern.BytealgCount.count) (by kernel_rfl), Lib.run_countString]
    refine ⟨G, G.le_refl, hw, ?_, .refl σ⟩
    show Value.int .i64 _ = .int .i64 _
    have : Lib.countByte s.data.toList c.toNat.toUInt8 = (s.data.toList.filter fun b => decide ((b.toNat : Int) = c)).length := by
      unfold Lib.countByte
      rw [List.count_eq_countP, List.countP_eq_length_filter]
      exact congrArg List.length (List.filter_congr fun b _ => toU8 h0 h1)
    rw [this]
  · cases h

theorem optI_b (q : Option Nat) : optI (q.map (· + 1)) = if optI q == -1 then -1 else optI q + 1 := by
  cases q with
  | none => rfl
  | some i =>
    have : ((i : Int) == -1) = false := by rw [beq_eq_false_iff_ne]; omega
    simp [optI, this]

theorem idx_list (c : UInt8) : ∀ l : List UInt8, Lib.indexByte l c = optI (l.findIdx? (· == c))
  | [] => rfl
  | b :: l => by
    have ih := idx_list c l
    unfold Lib.indexByte
    rw [List.findIdx?_cons]
    by_cases hb : (b == c) = true
    · simp [hb, optI]
    · simp only [hb, Bool.false_eq_true, if_false, ih]
      rw [optI_b]

theorem index_ok : PrimOk Tryd.prog B w₀ fn_ibytealg_IndexByteString indexByteP := by
  intro args σ cr h G w args' hw hl
  unfold indexByteP at h
  split at h
  · rename_i s c
    rw [Option.ite_none_right_eq_some] at h
    obtain ⟨⟨h0, h1⟩, h⟩ := h
    cases h
    obtain rfl := two_args hl
    rw [run_callFunc_extern (f := fn_ibytealg_IndexByteString) Tryd.func84 (by kernel_rfl) (by kernel_rfl) (by kernel_rfl) (e := Extern.BytealgIndexByte.indexByte) (by kernel_rfl), Lib.run_indexByteString]
    refine ⟨G, G.le_refl, hw, ?_, .refl σ⟩
    show Value.int .i64 _ = .int .i64 _
    have e : (fun b : UInt8 => b == c.toNat.toUInt8) = fun b => decide ((b.toNat : Int) = c) := funext fun b => toU8 h0 h1
    rw [idx_list, e]
    rfl
  · cases h

theorem lookup_mem {α : Type} {k : Nat} {v : α} : ∀ {l : List (Nat × α)}, l.lookup k = some v → (k, v) ∈ l
  | [], h => by cases h
  | (a, b) :: l, h => by
    rw [List.lookup_cons] at h
    split at h
    · rename_i hk
      cases h
      rw [beq_iff_eq.1 hk]; exact List.mem_cons_self
    · exact List.mem_cons_of_mem _ (lookup_mem h)

theorem prim_ok : ∀ f p, X.prim f = some p → PrimOk Tryd.prog B w₀ f p := by
  intro f p h
  have hm := lookup_mem (show primT.lookup f = some p from h)
  simp only [primT, List.mem_cons, Prod.mk.injEq, List.mem_nil_iff, or_false] at hm
  rcases hm with ⟨rfl, rfl⟩ | ⟨rfl, rfl⟩ | ⟨rfl, rfl⟩
  · exact copyCheck_ok
  · exact count_ok
  · exact index_ok

theorem code_ok : CodeOk Tryd.prog X := fun f pf h => codeT_ok _ (lookup_mem (show codeT.lookup f = some pf from h))

/-- A listed variable. -/
theorem laid_get {P : Program} {w : World} {n : String} {d : DataW Unit} : ∀ {laid : List (String × DataW Unit)} {ps : List MemPlace}, DataW.LaidVars P w laid ps → (n, d) ∈ laid →
    ∃ g t cs fuel p, P.globalNamed n = some g ∧ (P.globals[g]?).map (·.type) = some t ∧ w.var? P n = some cs ∧ DataW.trod (fun _ => ()) P w 0 (fun _ => true) false fuel t cs.toList = some (d, p) ∧ ∀ x ∈ MemPlace.row ⟨g, 0, none⟩ cs.size ++ p, x ∈ ps
  | [], _, _, hm => by cases hm
  | (n', d') :: r, ps, h, hm => by
    obtain ⟨g, t, cs, fuel, p, q, h1, h2, h3, h4, h5, rfl⟩ := h
    rcases List.mem_cons.1 hm with e | hm
    · cases e
      exact ⟨g, t, cs, fuel, p, h1, h2, h3, h4, fun x hx => List.mem_append_left _ hx⟩
    · obtain ⟨g', t', cs', fuel', p', a1, a2, a3, a4, a5⟩ := laid_get h5 hm
      exact ⟨g', t', cs', fuel', p', a1, a2, a3, a4, fun x hx => List.mem_append_right _ (a5 x hx)⟩

theorem var_lt {P : Program} {w : World} {n : String} {g : Nat} {cs : Array Value} (hg : P.globalNamed n = some g) (h : w.var? P n = some cs) : g < w.heap.size := by
  simp only [World.var?, hg, Option.bind_some] at h
  cases hh : w.heap[g]? with
  | none => rw [hh] at h; cases h
  | some o => exact (Array.getElem?_eq_some_iff.1 hh).1

/-- What is asked of one listed variable. -/
def GlobAt (w : World) (g : Nat) (cs : List AV) : Prop := g < w.heap.size ∧ ∃ vs : List Value, (∀ (j : Nat) v, vs[j]? = some v → w.cell? ⟨g, j, none⟩ = some v) ∧ Den.Leaves vs ∧ LRel (Gh.start w) cs vs

theorem glob_plain {P : Program} {w : World} {laid : List (String × DataW Unit)} {ps : List MemPlace} (h : DataW.LaidVars P w laid ps) {n : String} {d : DataW Unit} (hm : (n, d) ∈ laid) {g : Nat} {t : TypeId} (hg : P.globalNamed n = some g) (ht : (P.globals[g]?).map (·.type) = some t)
    (hr : rdb P false 8 t = true) {cs : List AV} (hd : ∀ xs, AtOk P 8 t d xs → xs = cs) : GlobAt w g cs := by
  obtain ⟨g', t', c, fuel, p, h1, h2, h3, h4, _⟩ := laid_get h hm
  obtain rfl : g' = g := Option.some.inj (h1.symm.trans hg)
  obtain rfl : t' = t := Option.some.inj (h2.symm.trans ht)
  obtain ⟨xs, a1, a2, a3, _⟩ := trod_at (nest := false) (fun e => by cases e) 8 t' fuel c.toList d p hr (fun e => by cases e) h4
  obtain rfl := hd xs a1
  refine ⟨var_lt h1 h3, c.toList, fun j v hj => ?_, a3, a2⟩
  rw [World.var?_cell h1 h3]
  simpa using hj

theorem flat_map {α : Type} {F : α → AV} : ∀ {L : List α} {els : List (List AV)}, els.length = L.length → (∀ (i : Nat) (x : α) (b : List AV), L[i]? = some x → els[i]? = some b → b = [F x]) → els.flatten = L.map F
  | [], [], _, _ => rfl
  | [], _ :: _, h, _ => by simp at h
  | _ :: _, [], h, _ => by simp at h
  | x :: L, b :: els, h, hi => by
    have h0 := hi 0 x b rfl rfl
    have ih := flat_map (L := L) (els := els) (by simpa using h) (fun i x b hx hb => hi (i + 1) x b (by simpa using hx) (by simpa using hb))
    simp [h0, ih]

theorem wordsG_at {w : World} {laid : List (String × DataW Unit)} {ps : List MemPlace} (h : DataW.LaidVars Tryd.prog w laid ps) (hm : ("bailiwick/asm.words", Rows.laid_bailiwick_asm_words) ∈ laid) : GlobAt w g_asm_words (wordsL.map S) := by
  refine glob_plain h hm (t := 46) (by kernel_rfl) (by kernel_rfl) (by kernel_rfl) fun xs hx => ?_
  unfold AtOk at hx
  rw [Tryd.underlying46] at hx
  obtain ⟨ds, els, hd, rfl, h1, h2, h3⟩ := hx
  have e : (Rows.laid_bailiwick_asm_words : DataW Unit) = .agg (wordsL.map fun l => .lit (.string l)) := rfl
  rw [e] at hd
  cases hd
  refine flat_map (by rw [h2]; rfl) fun i x b hx hb => ?_
  have := h3 i _ b (by rw [List.getElem?_map, hx]; rfl) hb
  unfold AtOk at this
  rw [Tryd.underlying9] at this
  obtain ⟨s, hs, rfl, _⟩ := this
  simp only [DataW.lit.injEq, Lit.string.injEq] at hs
  subst hs
  rfl

theorem powG_at {w : World} {laid : List (String × DataW Unit)} {ps : List MemPlace} (h : DataW.LaidVars Tryd.prog w laid ps) (hm : ("internal/strconv.uint64pow10", Rows.laid_internal_strconv_uint64pow10) ∈ laid) : GlobAt w g_istrconv_uint64pow10 (pow10L.map fun (n : Nat) => AV.int .u64 n) := by
  refine glob_plain h hm (t := 116) (by kernel_rfl) (by kernel_rfl) (by kernel_rfl) fun xs hx => ?_
  unfold AtOk at hx
  rw [Tryd.underlying116] at hx
  obtain ⟨ds, els, hd, rfl, h1, h2, h3⟩ := hx
  have e : (Rows.laid_internal_strconv_uint64pow10 : DataW Unit) = .agg (pow10L.map fun (n : Nat) => .lit (.int .u64 n)) := rfl
  rw [e] at hd
  cases hd
  refine flat_map (by rw [h2]; rfl) fun i x b hx hb => ?_
  have := h3 i _ b (by rw [List.getElem?_map, hx]; rfl) hb
  unfold AtOk at this
  rw [Tryd.underlying95] at this
  obtain ⟨n, hs, rfl, _⟩ := this
  simp only [DataW.lit.injEq, Lit.int.injEq, true_and] at hs
  subst hs
  rfl


theorem star_err : "*" ++ "errors.errorString" = "*errors.errorString" := by decide

theorem row_err (u : TypeId) (h : Tryd.prog.typeName? 3 u = some "*errors.errorString") : u = 142 :=
  typeName_ptr_named (nm := "errors.errorString") (by rw [star_err]; kernel_rfl) (by kernel_rfl) (by decide) u (by rw [star_err]; exact h)

theorem err_at {w : World} {laid : List (String × DataW Unit)} {ps : List MemPlace} (h : DataW.LaidVars Tryd.prog w laid ps)
    (hok : ∀ b off, MemPlace.cell b off ∈ ps → ∀ u v, w.cell? ⟨b, off, none⟩ = some (.iface u v) → Value.okWide Tryd.prog w .any 0 u v) {n : String} {g : Nat} {text : List UInt8}
    (hm : (n, DataW.iface "*errors.errorString" (.ptr (.agg [.lit (.string text)]))) ∈ laid) (hg : Tryd.prog.globalNamed n = some g) (ht : (Tryd.prog.globals[g]?).map (·.type) = some 55) :
    GlobAt w g [.ifc ty_p_errors_errorString (.eptr [S text] 0)] := by
  obtain ⟨g', t', c, fuel, p, h1, h2, h3, h4, h5⟩ := laid_get h hm
  obtain rfl : g' = g := Option.some.inj (h1.symm.trans hg)
  obtain rfl : t' = 55 := Option.some.inj (h2.symm.trans ht)
  have hcells := World.var?_cell h1 h3
  obtain ⟨a, s, hc, hcell, hs, _, _⟩ := errorString_of_trod Tryd.underlying55 row_err Tryd.underlying142 Tryd.underlying144 rfl rfl Tryd.underlying9 (by kernel_rfl) (by kernel_rfl) h4 (fun u v e => by
    have h0 : c[0]? = some (.iface u v) := by rw [← Array.getElem?_toList, e]; rfl
    have hsz : c.size = 1 := by rw [← Array.length_toList, e]; rfl
    exact hok g' 0 (h5 _ (List.mem_append_left _ (by rw [hsz]; simp [MemPlace.row]))) u v (by rw [hcells, h0]))
  have hsp : a.spot = none ∧ a.block < w.heap.size := by
    unfold World.cell? at hcell
    split at hcell
    · rename_i hh
      split at hcell
      · cases hcell
      · rename_i hn
        exact ⟨by simpa using hn, (Array.getElem?_eq_some_iff.1 hh).1⟩
    · cases hcell
  obtain ⟨ab, ao, asp⟩ := a
  obtain ⟨hsp1, hsp2⟩ := hsp
  simp only at hsp1 hsp2
  subst hsp1
  refine ⟨var_lt h1 h3, [.iface 142 (.pointer (some ⟨ab, ao, none⟩))], fun j v hj => ?_, fun v hv => by simp at hv; subst hv; rfl, LRel.single.2 ⟨_, rfl, ab, ao, [.string s], rfl, fun j v hj => ?_, fun v hv => by simp at hv; subst hv; rfl, LRel.single.2 ?_⟩⟩
  · rw [hcells, ← Array.getElem?_toList, hc]; exact hj
  · match j, hj with
    | 0, hj =>
      cases hj
      exact frz0_of hcell
  · subst hs; rfl

theorem glob_ok {w : World} (h : laidMetH Tryd.prog Rows.asmPrintsRow.laid w) : GlobOk X w.heap.size w := by
  rw [MakeChecks.laidMetH_plain _ _ _ (by kernel_rfl)] at h
  obtain ⟨ps, hl, _, hrows⟩ := h
  have hok : ∀ b off, MemPlace.cell b off ∈ ps → ∀ u v, w.cell? ⟨b, off, none⟩ = some (.iface u v) → Value.okWide Tryd.prog w .any 0 u v := fun b off hb => (hrows b off hb).2
  intro g cs hg
  have hm := lookup_mem (show globT.lookup g = some cs from hg)
  show GlobAt w g cs
  unfold Rows.asmPrintsRow at hl
  simp only at hl
  simp only [globT, List.mem_cons, Prod.mk.injEq, List.mem_nil_iff, or_false] at hm
  rcases hm with ⟨rfl, rfl⟩ | ⟨rfl, rfl⟩ | ⟨rfl, rfl⟩ | ⟨rfl, rfl⟩
  · exact wordsG_at hl (by simp)
  · exact powG_at hl (by simp)
  · exact err_at (n := "strconv.ErrSyntax") hl hok (by simp [Rows.laid_strconv_ErrSyntax]) (by kernel_rfl) (by kernel_rfl)
  · exact err_at (n := "strconv.ErrRange") hl hok (by simp [Rows.laid_strconv_ErrRange]) (by kernel_rfl) (by kernel_rfl)

end Go.Proofs.YtoolhdikfdjikaaDoor

/- What all rows of these laws share: their arguments, their world, their end. -/
namespace Go.Proofs.YtoolhdikfdjikaaDoor
open Go Go.Den Go.RowKit Go.ChangeShapes Go.WideShapes Go.ChangeAt
set_option maxRecDepth 100000

theorem own : ownKnob Tryd.prog.godebug = none := by kernel_rfl

section
variable {H : Type} {enc : TypeId × Value → H} {W : World} {sp : Nat → Bool} {held : Bool} {base : Nat} {v : Value} {d : DataW H} {ps : List MemPlace}

theorem rv_of {x : AV} {sz : Nat} {els : List (List AV)} (h : Rv0 x sz els) : Rv x sz els := by
  rcases h with ⟨rfl, rfl⟩ | ⟨rfl, h⟩
  · exact Rv.nils
  · exact Rv.sl h

theorem u8_at {f : Nat} {b : List AV} (h : AtOk Tryd.prog (f + 1) 5 d b) : ∃ n : Nat, b = [.int .u8 n] ∧ n < 256 := by
  unfold AtOk at h
  rw [Tryd.underlying5] at h
  obtain ⟨n, _, rfl, hw⟩ := h
  have : 0 ≤ n ∧ n ≤ 255 := by simpa [Lit.wf, IntKind.min, IntKind.max, IntKind.signed, IntKind.bits] using hw
  exact ⟨n.toNat, by rw [Int.toNat_of_nonneg this.1], by omega⟩

theorem u16_at {f : Nat} {b : List AV} (h : AtOk Tryd.prog (f + 1) 40 d b) : ∃ n : Nat, b = [.int .u16 n] ∧ n < 65536 := by
  unfold AtOk at h
  rw [Tryd.underlying40] at h
  obtain ⟨n, _, rfl, hw⟩ := h
  have : 0 ≤ n ∧ n ≤ 65535 := by simpa [Lit.wf, IntKind.min, IntKind.max, IntKind.signed, IntKind.bits] using hw
  exact ⟨n.toNat, by rw [Int.toNat_of_nonneg this.1], by omega⟩

theorem instr_at {b : List AV} (h : AtOk Tryd.prog 8 45 d b) : ∃ x : Instr, b = I5 x ∧ x.wf := by
  unfold AtOk at h
  rw [Tryd.underlying45] at h
  obtain ⟨ds, _, h⟩ := h
  obtain ⟨d1, r1, b1, q1, _, rfl, h1, h⟩ := h
  obtain ⟨d2, r2, b2, q2, _, rfl, h2, h⟩ := h
  obtain ⟨d3, r3, b3, q3, _, rfl, h3, h⟩ := h
  obtain ⟨d4, r4, b4, q4, _, rfl, h4, h⟩ := h
  obtain ⟨d5, r5, b5, q5, _, rfl, h5, h⟩ := h
  obtain ⟨_, rfl⟩ := h
  obtain ⟨n1, rfl, w1⟩ := u8_at h1
  obtain ⟨n2, rfl, w2⟩ := u8_at h2
  obtain ⟨n3, rfl, w3⟩ := u8_at h3
  obtain ⟨n4, rfl, w4⟩ := u8_at h4
  obtain ⟨n5, rfl, w5⟩ := u16_at h5
  exact ⟨⟨n1, n2, n3, n4, n5⟩, rfl, w1, w2, w3, w4, w5⟩

theorem instrs_at : ∀ els : List (List AV), (∀ el ∈ els, ∃ d' : DataW H, AtOk Tryd.prog 8 45 d' el) → ∃ l : List Instr, els = l.map I5 ∧ ∀ x ∈ l, x.wf
  | [], _ => ⟨[], rfl, fun x hx => by cases hx⟩
  | el :: els, h => by
    obtain ⟨l, rfl, hl⟩ := instrs_at els (fun e he => h e (List.mem_cons_of_mem _ he))
    obtain ⟨d', h1⟩ := h el List.mem_cons_self
    obtain ⟨x, rfl, hx⟩ := instr_at h1
    exact ⟨x :: l, rfl, fun y hy => by
      rcases List.mem_cons.1 hy with rfl | hy
      · exact hx
      · exact hl y hy⟩

/-- An argument that is a program. -/
theorem open_prog (hok : Value.okWide Tryd.prog W .any base 22 v) (h : DataW.Trod enc Tryd.prog W 0 sp held 22 v d ps) :
    ∃ (x : AV) (l : List Instr), VRel (Gh.start W) x v ∧ Rv x 5 (l.map I5) ∧ (∀ y ∈ l, y.wf) ∧ l.length ≤ maxLen := by
  obtain ⟨x, els, h1, h2, h3, h4⟩ := open_sl (f := 8) (sz := 5) Tryd.underlying22 (by kernel_rfl) (by kernel_rfl) hok h
  obtain ⟨l, rfl, hl⟩ := instrs_at els h4
  rw [List.length_map] at h3
  exact ⟨x, l, h1, rv_of h2, hl, h3⟩

/-- An argument that is a byte. -/
theorem open_u8 (hok : Value.okWide Tryd.prog W .any base 5 v) (h : DataW.Trod enc Tryd.prog W 0 sp held 5 v d ps) : ∃ n : Nat, v = .int .u8 n ∧ n < 256 := by
  obtain ⟨n, rfl, _, _, hw⟩ := open_int Tryd.underlying5 hok h
  have : 0 ≤ n ∧ n ≤ 255 := by simpa [Lit.wf, IntKind.min, IntKind.max, IntKind.signed, IntKind.bits] using hw
  exact ⟨n.toNat, by rw [Int.toNat_of_nonneg this.1], by omega⟩

theorem open_u16 (hok : Value.okWide Tryd.prog W .any base 40 v) (h : DataW.Trod enc Tryd.prog W 0 sp held 40 v d ps) : ∃ n : Nat, v = .int .u16 n ∧ n < 65536 := by
  obtain ⟨n, rfl, _, _, hw⟩ := open_int Tryd.underlying40 hok h
  have : 0 ≤ n ∧ n ≤ 65535 := by simpa [Lit.wf, IntKind.min, IntKind.max, IntKind.signed, IntKind.bits] using hw
  exact ⟨n.toNat, by rw [Int.toNat_of_nonneg this.1], by omega⟩

/-- An argument that is a text. -/
theorem open_text (hok : Value.okWide Tryd.prog W .any base 9 v) (h : DataW.Trod enc Tryd.prog W 0 sp held 9 v d ps) : ∃ l : List UInt8, VRel (Gh.start W) (S l) v ∧ l.length ≤ maxLen := by
  obtain ⟨s, rfl⟩ := okWide_string Tryd.underlying9 hok
  obtain ⟨n, h⟩ := h
  obtain ⟨s', e, _, hs⟩ := DataW.trod_string Tryd.underlying9 h
  simp only [Value.cells, List.cons.injEq, Value.string.injEq, and_true] at e
  subst e
  exact ⟨s.data.toList, rfl, hs⟩

end

/-- The call. -/
theorem law_calls {W : World} (hL : laidMetH Tryd.prog Rows.asmPrintsRow.laid W) {f : FuncId} {fn : Func} (hfn : Tryd.prog.funcs[f]? = some fn) (hb : fn.body.isSome = true) (hname : (fn.name == "runtime.NumGoroutine") = false)
    {args : List AV} {args' : Array Value} (hl : LRel (Gh.start W) args args'.toList) (h : D X (.fn (.func f) [] []) args ⟨[], none⟩ = some (.ret (.bool true) ⟨[], none⟩)) :
    Calls Tryd.prog f args' W fun e w' => e = .returned (.bool true) ∧ Below W.heap.size W w' := by
  refine (D_calls (glob_ok hL) code_ok prim_ok hfn hb hname hl h).mono ?_
  rintro e w' ⟨G, v', rfl, hv, hbl⟩
  obtain rfl : v' = .bool true := hv
  exact ⟨rfl, hbl⟩

end Go.Proofs.YtoolhdikfdjikaaDoor
