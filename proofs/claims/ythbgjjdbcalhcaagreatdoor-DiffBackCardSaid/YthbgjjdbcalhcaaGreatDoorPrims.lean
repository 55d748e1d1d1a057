/- The primitives are what the program's functions do (conditions: a state that stands to the world). -/
import Derived.Test.YthbgjjdbcalhcaaGreatDoorCheckA
import Derived.Test.YthbgjjdbcalhcaaGreatDoorDenC
import Derived.WalkKit
import Derived.Lib.Builder
import Derived.Lib.MakeNoZero
import Derived.Laws.Externs
import Derived.Shelf.Strings.Builder2Cap
import Derived.Test.YthbgjjdbcalhcaaGreatDoorRows
import Derived.Lib.Bytealg
import Derived.LaidLaws
import Derived.MakeChecks
import Derived.LaidMore
set_option linter.unusedVariables false
set_option linter.unusedSimpArgs false
set_option linter.unusedSectionVars false
set_option linter.deprecated false

/- Primitives: the builder's own check, its growing. -/
namespace Go.Proofs.YthbgjjdbcalhcaaGreatDoor
open Go Go.Den Go.RowKit

set_option maxHeartbeats 1000000 in
set_option maxRecDepth 100000 in
theorem copy_used (b : Nat) (w : World) (h0 : w.cell? ⟨b, 0, none⟩ = some (.pointer (some ⟨b, 0, none⟩))) :
    Calls Tryz.prog fn_Pstrings_Builder_copyCheck #[.pointer (some ⟨b, 0, none⟩)] w fun e w' => e = .returned (.tuple #[]) ∧ w' = w := by
  obtain ⟨j, hj, hjs⟩ := Option.map_eq_some_iff.1 (show (Tryz.prog.info? 114).map (·.size) = some 2 by kernel_rfl)
  unfold fn_Pstrings_Builder_copyCheck
  go_enter Tryz.func74, Tryz.ntmps74
  go_wp2
  rw [Lib.run_neq_ptr_same w _ Tryz.underlying111 hj]
  go_wp2
  go_end0
  exact ⟨rfl, rfl⟩

set_option maxHeartbeats 1000000 in
set_option maxRecDepth 100000 in
theorem copy_fresh (b T : Nat) (hT : T = ty_strings_Builder ∨ T = ty_dumper) (w : World) (h0 : w.cell? ⟨b, 0, none⟩ = some (.pointer none)) (hsh : w.shape? b = some (T, 2)) (hfz : w.frozen? ⟨b, 0, none⟩ = false) :
    Calls Tryz.prog fn_Pstrings_Builder_copyCheck #[.pointer (some ⟨b, 0, none⟩)] w fun e w' => e = .returned (.tuple #[]) ∧ w' = w.setCell ⟨b, 0, none⟩ (.pointer (some ⟨b, 0, none⟩)) := by
  obtain ⟨j, hj, hjs⟩ := Option.map_eq_some_iff.1 (show (Tryz.prog.info? 114).map (·.size) = some 2 by kernel_rfl)
  have hlies : liesAt Tryz.prog Tryz.prog.depth T (2 / Tryz.prog.cellsOf T) 0 114 1 = true := by
    rcases hT with rfl | rfl <;> kernel_rfl
  unfold fn_Pstrings_Builder_copyCheck
  go_enter Tryz.func74, Tryz.ntmps74
  go_wp2
  rw [Lib.run_to_unsafe w ⟨b, 0, none⟩ Tryz.underlying111 Tryz.underlying194 hj (by rw [hjs]; decide) hsh (Nat.zero_lt_succ 1)]
  simp only [Result.andThen]
  rw [Oper.upon_value]
  go_wp2
  rw [run_callFunc_extern Tryz.func92 (by kernel_rfl) (by kernel_rfl) (by kernel_rfl) (e := Extern.AbiNoEscape.same) (by kernel_rfl)]
  rw [Lib.run_noEscape]
  simp only [Result.andThen]
  rw [Oper.upon_value]
  go_wp2
  rw [Lib.run_from_unsafe w ⟨b, 0, none⟩ Tryz.underlying194 Tryz.underlying111 hj hsh hlies]
  simp only [Result.andThen]
  rw [Oper.upon_value]
  go_wp2
  go_end0
  exact ⟨rfl, rfl⟩

set_option maxHeartbeats 2000000 in
set_option maxRecDepth 1000000 in
/-- A builder without a buffer grows. -/
theorem grow_fresh (b n T : Nat) (x0 : Value) (w : World) (hbk : w.heap[b]? = some (.cells #[x0, .slice none 0 0] T (0, 0))) (hn : n ≤ 281474976710656) :
    Calls Tryz.prog fn_Pstrings_Builder_grow #[.pointer (some ⟨b, 0, none⟩), .int .i64 n] w fun e w' => e = .returned (.tuple #[]) ∧ ∃ cs : Array Value,
      w' = ((w.setCell ⟨b, 1, none⟩ (.slice (some ⟨w.heap.size, 0, none⟩) 0 cs.size)).alloc (.cells cs 5)).drew.drew.drew := by
  obtain ⟨cs, hrun, hle, hmax⟩ := Lib.run_makeNoZero (P := Tryz.prog) w.drew #[3] 112 5 Tryz.underlying112 n hn
  have hw : IntKind.i64.wrap (IntKind.i64.wrap 0 + (n : Int)) = n := by
    rw [IntKind.wrap_i64, IntKind.wrap_i64]
    omega
  have hcall : (callFunc 106 #[.int .i64 (IntKind.i64.wrap (IntKind.i64.wrap 0 + (n : Int)))]).run Tryz.prog w.drew = .ok (.value (.slice (some ⟨w.drew.heap.size, 0, none⟩) n cs.size)) (w.drew.drew.drew.alloc (.cells cs 5)) := by
    rw [hw, run_callFunc_extern Tryz.func106 (by kernel_rfl) (by kernel_rfl) (by kernel_rfl) (e := Extern.BytealgMakeNoZero.makeNoZero #[3] #[112]) (by kernel_rfl), hrun]
    rfl
  have c1 : w.drew.cell? ⟨b, 1, none⟩ = some (.slice none 0 0) := by
    have : w.drew.heap[b]? = _ := hbk
    rw [Lib.cell_of_heap this]; rfl
  have hlt : b < w.heap.size := by
    rcases Nat.lt_or_ge b w.heap.size with h' | h'
    · exact h'
    · simp [Array.getElem?_eq_none h'] at hbk
  have c2 : (w.alloc (.cells cs 5)).cell? ⟨b, 1, none⟩ = some (.slice none 0 0) := by
    have : (w.alloc (.cells cs 5)).heap[b]? = _ := (Lib.alloc_old w _ b hlt).trans hbk
    rw [Lib.cell_of_heap this]; rfl
  have f2 : (w.alloc (.cells cs 5)).frozen? ⟨b, 1, none⟩ = false := Lib.frozen_of_heap ((Lib.alloc_old w _ b hlt).trans hbk) 1
  have hcopy : ∀ W : World, (Builtin.copy_ #[112, 112] 3 #[.slice (some ⟨w.heap.size, 0, none⟩) 0 cs.size, .slice none 0 0]).run Tryz.prog W = .ok (goInt 0) W :=
    fun W => run_copy_none W 112 112 3 5 _ _ 0 cs.size 0 0 Tryz.underlying112 (by kernel_rfl) rfl
  clear hw
  unfold fn_Pstrings_Builder_grow
  go_enter Tryz.func99, Tryz.ntmps99
  go_wp2
  go_region
  all_goals (go_wp2; go_end0; exact ⟨rfl, cs, rfl⟩)

end Go.Proofs.YthbgjjdbcalhcaaGreatDoor

/- The context of the check holds: primitives, listed variables, code. -/
namespace Go.Proofs.YthbgjjdbcalhcaaGreatDoor
open Go Go.Den Go.RowKit
set_option maxRecDepth 100000

variable {B : Nat} {w₀ : World}

theorem list_set_self {α : Type} {l : List α} {i : Nat} {x : α} (h : l[i]? = some x) : l.set i x = l := by
  obtain ⟨hi, e⟩ := List.getElem?_eq_some_iff.1 h
  subst e
  exact List.set_getElem_self hi

theorem run_enter {f : Nat} {fn : Func} (hf : Tryz.prog.funcs[f]? = some fn) (hb : fn.body.isSome = true) (hname : (fn.name == "runtime.NumGoroutine") = false) (args : Array Value) (w : World) :
    (callFunc f args).run Tryz.prog w = .ok (.enter f args) w := by
  have hn' : ¬ fn.name = "runtime.NumGoroutine" := by simpa using hname
  obtain ⟨c, hc⟩ := Option.isSome_iff_exists.1 hb
  simp [callFunc, run_program, hf, hn', hc]

theorem copyCheck_ok : PrimOk Tryz.prog B w₀ fn_Pstrings_Builder_copyCheck copyCheckP := by
  intro args σ cr h G w args' hw hl
  rw [run_enter (f := fn_Pstrings_Builder_copyCheck) (fn := Tryz.f74) Tryz.func74 (by kernel_rfl) (by kernel_rfl)]
  show CallsIn (W none) 0 Tryz.prog _ args' w _
  rw [W_none]
  refine callsIn_wide.2 ?_
  unfold copyCheckP at h
  split at h
  · rename_i id
    split at h
    · rename_i c v tg he
      rw [Option.ite_none_right_eq_some] at h
      obtain ⟨⟨htg, hc⟩, h⟩ := h
      cases h
      simp only [LRel] at hl
      obtain ⟨v0, r0, e0, hv0, rfl⟩ := hl
      obtain ⟨h0, hid, a, ty, hb, hlc, lf, ht⟩ := cells_of_box hw he hv0.pz_ptr
      have hty : ty = ty_strings_Builder ∨ ty = ty_dumper := htg.imp (ht _) (ht _)
      simp only [LRel] at hlc
      obtain ⟨_, ad, rfl, had⟩ := hv0
      obtain rfl := had h0
      obtain rfl : args' = #[.pointer (some ⟨G.blk id, 0, none⟩)] := by
        apply Array.ext'; simpa using e0
      obtain ⟨x0, r1, e1, hx0, x1, r2, rfl, hx1, rfl⟩ := hlc
      have hcell : w.cell? ⟨G.blk id, 0, none⟩ = some x0 := cell_of_block hb 0 x0 (by rw [e1]; rfl)
      have hasz : a.size = 2 := by rw [← Array.length_toList, e1]; rfl
      have key : WRel Tryz.prog B w₀ G ⟨σ.heap.set id (.box [.ptr id 0, v] tg), σ.lo⟩ (w.setCell ⟨G.blk id, 0, none⟩ (.pointer (some ⟨G.blk id, 0, none⟩))) := by
        have := hw.put hid (O := .cells (a.setIfInBounds 0 (.pointer (some ⟨G.blk id, 0, none⟩))) ty (0, 0)) (o' := .box [.ptr id 0, v] tg) (id + 1) ⟨h0, _, ty, putB_same (hw.low id hid).2, by
          rw [Array.toList_setIfInBounds, e1]
          exact ⟨_, _, rfl, ⟨hid, _, rfl, fun _ => rfl⟩, x1, [], rfl, hx1, rfl⟩, fun q hq => by
          rw [Array.toList_setIfInBounds, e1] at hq
          rcases List.mem_cons.1 hq with rfl | hq
          · rfl
          · exact lf q (by rw [e1]; exact List.mem_cons_of_mem _ hq), ht⟩
        rw [setCell_putB hb]
        simpa [AS.set] using this
      have hext : σ.Ext ⟨σ.heap.set id (.box [.ptr id 0, v] tg), σ.lo⟩ := by
        have := AS.Ext.set (σ := σ) (o' := .box [.ptr id 0, v] tg) (refs := id + 1) he (fun n hn hr => by
          simp only [AObj.le, refsL, AV.refs] at hn ⊢; omega)
        simpa [AS.set] using this
      cases c with
      | nilp =>
        obtain rfl : x0 = .pointer none := hx0
        refine (copy_fresh (G.blk id) ty hty w hcell (by simp [World.shape?, hb, hasz]) (by simp [World.frozen?, hb])).mono ?_
        rintro e w' ⟨rfl, rfl⟩
        exact ⟨G, G.le_refl, key, ⟨#[], rfl, rfl⟩, hext⟩
      | ptr i o =>
        simp only [Bool.and_eq_true, beq_iff_eq] at hc
        obtain ⟨rfl, rfl⟩ := hc
        obtain ⟨_, ad, rfl, had⟩ := hx0
        obtain rfl := had h0
        refine (copy_used (G.blk i) w hcell).mono ?_
        rintro e w' ⟨rfl, rfl⟩
        refine ⟨G, G.le_refl, ?_, ⟨#[], rfl, rfl⟩, hext⟩
        rw [list_set_self he]; exact hw
      | _ => cases hc
    · cases h
  · cases h

theorem alloc_putB (w : World) (b : Nat) (O O' : Obj) (h : b < w.heap.size) : putB (w.alloc O') b O = (putB w b O).alloc O' := by
  unfold putB World.alloc
  simp only [World.mk.injEq, and_true, true_and]
  first
  | exact Array.setIfInBounds_push_lt h
  | (apply Array.ext'
     simp [Array.toList_setIfInBounds, List.set_append, h])

theorem alloc_get (w : World) (O : Obj) : (w.alloc O).heap[w.heap.size]? = some O := by
  show (w.heap.push O)[w.heap.size]? = some O
  exact Array.getElem?_push_size

theorem grow_ok : PrimOk Tryz.prog B w₀ fn_Pstrings_Builder_grow growP := by
  intro args σ cr h G w args' hw hl
  rw [run_enter (f := fn_Pstrings_Builder_grow) (fn := Tryz.f99) Tryz.func99 (by kernel_rfl) (by kernel_rfl)]
  show CallsIn (W none) 0 Tryz.prog _ args' w _
  rw [W_none]
  refine callsIn_wide.2 ?_
  unfold growP at h
  split at h
  · rename_i id n
    split at h
    · rename_i c tg he
      rw [Option.ite_none_right_eq_some] at h
      obtain ⟨⟨hn0, hn1⟩, h⟩ := h
      cases h
      obtain ⟨m, rfl⟩ := Int.eq_ofNat_of_zero_le hn0
      simp only [LRel] at hl
      obtain ⟨v0, r0, e0, hv0, v1, r1', rfl, rfl, rfl⟩ := hl
      obtain ⟨h0, hid, a, ty, hb, hlc, lf, ht⟩ := cells_of_box hw he hv0.pz_ptr
      simp only [LRel] at hlc
      obtain ⟨_, ad, rfl, had⟩ := hv0
      obtain rfl := had h0
      obtain rfl : args' = #[.pointer (some ⟨G.blk id, 0, none⟩), .int .i64 m] := by
        apply Array.ext'; simpa using e0
      obtain ⟨x0, r1, e1, hx0, x1, r2, rfl, rfl, rfl⟩ := hlc
      obtain rfl : a = #[x0, .slice none 0 0] := by apply Array.ext'; simpa using e1
      have hlt : G.blk id < w.heap.size := (hw.low id hid).2
      have hlen := hw.len
      have hidn : id < G.n := hid.1
      refine (grow_fresh (G.blk id) m ty x0 w hb (by omega)).mono ?_
      rintro e w' ⟨rfl, cs, rfl⟩
      have hw1 := hw.push (.cells cs 5) (.row 0 1 ty_uint8 []) cs.size 1 ⟨by simp [Gh.push], by simp [Gh.push], by simp, cs, [], [], cs.toList, (by rw [show (G.push w.heap.size cs.size 1).blk G.n = w.heap.size by simp [Gh.push]]; exact alloc_get w (.cells cs 5)), by simp, by simp [Gh.push], by simp [Gh.push], rfl, fun v hv => by cases hv⟩
      have hle := G.le_push w.heap.size cs.size 1
      have hid1 : (G.push w.heap.size cs.size 1).on id := hle.on id hid
      have hbk : (G.push w.heap.size cs.size 1).blk id = G.blk id := by simp [Gh.push, Nat.ne_of_lt hidn]
      have hget : (σ.push (.row 0 1 ty_uint8 [])).heap[id]? = some (.box [c, .nils] tg) := by
        simp only [AS.push, List.getElem?_append]
        rw [if_pos (by omega)]; exact he
      have key := hw1.put hid1 (O := .cells #[x0, .slice (some ⟨w.heap.size, 0, none⟩) 0 cs.size] ty (0, 0)) (o' := .box [c, .ref σ.heap.length 0 1 0 0 false] tg) (σ.heap.length + 1) ⟨by simp [Gh.push, Nat.ne_of_lt hidn, h0], _, ty, by
          rw [hbk]; exact putB_same (by simp; omega), ⟨x0, _, rfl, hx0.mono hle, _, [], rfl, ?_, rfl⟩, fun q hq => by
          simp only [List.mem_cons, List.mem_nil_iff, or_false] at hq
          rcases hq with rfl | rfl
          · exact lf q (by simp)
          · rfl, ht⟩
      · refine ⟨_, hle, ?_, ⟨#[], rfl, rfl⟩, (AS.Ext.push σ _).trans (.set hget fun k hk hr => by
          simp only [AObj.le, refsL, AV.refs] at hk ⊢; omega)⟩
        rw [hbk, alloc_putB _ _ _ _ hlt] at key
        rw [setCell_putB hb]
        exact key.drew.drew.drew
      · simp only [VRel]
        refine ⟨⟨by simp [Gh.push]; omega, by simp [Gh.push, ← hlen]⟩, by simp, ⟨w.heap.size, 0, none⟩, cs.size, rfl, ⟨Nat.zero_le _, rfl⟩, fun e => (by cases e), fun _ => ⟨by simp [Gh.push, ← hlen], fun _ => by simp [Gh.push, ← hlen], by simp [Gh.push, ← hlen]⟩⟩
    · cases h
  · cases h

theorem two_args {G : Gh} {s : ByteArray} {c : Int} {k : IntKind} {args' : Array Value} (hl : LRel G [.str s, .int k c] args'.toList) : args' = #[.string s, .int k c] := by
  simp only [LRel] at hl
  obtain ⟨v0, r0, e0, h0, v1, r1, rfl, h1, rfl⟩ := hl
  obtain rfl : v0 = .string s := h0
  obtain rfl : v1 = .int k c := h1
  apply Array.ext'; simpa using e0

theorem toU8 {b : UInt8} {c : Int} (h0 : 0 ≤ c) (h1 : c < 256) : (b == c.toNat.toUInt8) = decide ((b.toNat : Int) = c) := by
  have e : c.toNat.toUInt8.toNat = c.toNat := by
    rw [Nat.toUInt8, UInt8.toNat_ofNat']; omega
  rw [Bool.eq_iff_iff, beq_iff_eq, decide_eq_true_eq, ← UInt8.toNat_inj, e]
  omega

theorem count_ok : PrimOk Tryz.prog B w₀ fn_ibytealg_CountString countP := by
  intro args σ cr h G w args' hw hl
  unfold countP at h
  split at h
  · rename_i s c
    rw [Option.ite_none_right_eq_some] at h
    obtain ⟨⟨h0, h1⟩, h⟩ := h
    cases h
    obtain rfl := two_args hl
    rw [run_callFunc_extern (f := fn_ibytealg_CountString) Tryz.func81 (by kernel_rfl) (by kernel_rfl) (by kernel_rfl) (e := Extern.BytealgCount.count) (by kernel_rfl), Lib.run_countString]
    refine ⟨G, G.le_refl, hw, ?_, .refl σ⟩
    show Value.int .i64 _ = .int .i64 _
    have : Lib.countByte s.data.toList c.toNat.toUInt8 = (s.data.toList.filter fun b => decide ((b.toNat : Int) = c)).length := by
      unfold Lib.countByte
      rw [List.count_eq_countP, List.countP_eq_length_filter]
      exact congrArg List.length (List.filter_congr fun b _ => toU8 h0 h1)
    rw [this]
  · cases h

theorem optI_b (q : Option Nat) : optI (q.map (· + 1)) = if optI q == -1 then -1 else optI q + 1 := by
  cases q with
  | none => rfl
  | some i =>
    have : ((i : Int) == -1) = false := by rw [beq_eq_false_iff_ne]; omega
    simp [optI, this]

theorem idx_list (c : UInt8) : ∀ l : List UInt8, Lib.indexByte l c = optI (l.findIdx? (· == c))
  | [] => rfl
  | b :: l => by
    have ih := idx_list c l
    unfold Lib.indexByte
    rw [List.findIdx?_cons]
    by_cases hb : (b == c) = true
    · simp [hb, optI]
    · simp only [hb, Bool.false_eq_true, if_false, ih]
      rw [optI_b]

theorem index_ok : PrimOk Tryz.prog B w₀ fn_ibytealg_IndexByteString indexByteP := by
  intro args σ cr h G w args' hw hl
  unfold indexByteP at h
  split at h
  · rename_i s c
    rw [Option.ite_none_right_eq_some] at h
    obtain ⟨⟨h0, h1⟩, h⟩ := h
    cases h
    obtain rfl := two_args hl
    rw [run_callFunc_extern (f := fn_ibytealg_IndexByteString) Tryz.func96 (by kernel_rfl) (by kernel_rfl) (by kernel_rfl) (e := Extern.BytealgIndexByte.indexByte) (by kernel_rfl), Lib.run_indexByteString]
    refine ⟨G, G.le_refl, hw, ?_, .refl σ⟩
    show Value.int .i64 _ = .int .i64 _
    have e : (fun b : UInt8 => b == c.toNat.toUInt8) = fun b => decide ((b.toNat : Int) = c) := funext fun b => toU8 h0 h1
    rw [idx_list, e]
    rfl
  · cases h

theorem lookup_mem {α : Type} {k : Nat} {v : α} : ∀ {l : List (Nat × α)}, l.lookup k = some v → (k, v) ∈ l
  | [], h => by cases h
  | (a, b) :: l, h => by
    rw [List.lookup_cons] at h
    split at h
    · rename_i hk
      cases h
      rw [beq_iff_eq.1 hk]; exact List.mem_cons_self
    · exact List.mem_cons_of_mem _ (lookup_mem h)

theorem prim_ok0 : ∀ f p, X0.prim f = some p → PrimOk Tryz.prog B w₀ f p := by
  intro f p h
  have hm := lookup_mem (show primT1.lookup f = some p from h)
  simp only [primT1, List.mem_cons, Prod.mk.injEq, List.mem_nil_iff, or_false] at hm
  rcases hm with ⟨rfl, rfl⟩ | ⟨rfl, rfl⟩ | ⟨rfl, rfl⟩ | ⟨rfl, rfl⟩
  · exact copyCheck_ok
  · exact grow_ok
  · exact count_ok
  · exact index_ok

theorem code_ok0 : CodeOk Tryz.prog X0 := fun f pf h => codeT_ok _ (lookup_mem (show codeT.lookup f = some pf from h))

end Go.Proofs.YthbgjjdbcalhcaaGreatDoor
