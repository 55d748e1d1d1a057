/- Contracts of the functions that asm.Print, the document's Print and the law's checks reach, first part (conditions: sizes, as each theorem says). -/
import Derived.Test.YtoolhdikfdjikaaDoorCode
import Derived.Test.YtoolhdikfdjikaaDoorDenC
set_option linter.unusedVariables false
set_option linter.unusedSimpArgs false
set_option linter.unusedSectionVars false
set_option linter.deprecated false

/- The law's context; small functions on instructions. -/
namespace Go.Proofs.YtoolhdikfdjikaaDoor
open Go Go.Den
set_option maxRecDepth 10000
set_option maxHeartbeats 1000000

def wordsL : List (List UInt8) := [[104, 97, 108, 116], [115, 101, 116], [97, 100, 100], [115, 117, 98], [115, 104, 105, 102, 116], [106, 117, 109, 112], [105, 102], [], [], [], [], [], [], [], [], [], [], [110, 101, 119], [97, 108, 108, 111, 99], [108, 111, 97, 100], [115, 116, 111, 114, 101], [114, 101, 115, 101, 116], [100, 101, 108, 101, 116, 101], [99, 117, 116], [103, 114, 97, 102, 116], [102, 114, 101, 101, 122, 101], [115, 104, 97, 114, 101], [100, 114, 111, 112], [108, 101, 110, 100], [114, 101, 116, 117, 114, 110], [115, 101, 110, 100], [114, 101, 99, 118], [116, 114, 121, 114, 101, 99, 118], [99, 108, 111, 115, 101], [114, 101, 102], [100, 101, 114, 101, 102], [101, 120, 105, 116], [107, 105, 108, 108], [115, 112, 97, 119, 110]]

def pow10L : List Nat := [1, 10, 100, 1000, 10000, 100000, 1000000, 10000000, 100000000, 1000000000, 10000000000, 100000000000, 1000000000000, 10000000000000, 100000000000000, 1000000000000000, 10000000000000000, 100000000000000000, 1000000000000000000, 10000000000000000000]

def globT : List (Nat × List AV) := [(g_asm_words, wordsL.map S), (g_istrconv_uint64pow10, pow10L.map fun (n : Nat) => AV.int .u64 n),
  (g_strconv_ErrSyntax, [.ifc ty_p_errors_errorString (.eptr [S [105, 110, 118, 97, 108, 105, 100, 32, 115, 121, 110, 116, 97, 120]] 0)]),
  (g_strconv_ErrRange, [.ifc ty_p_errors_errorString (.eptr [S [118, 97, 108, 117, 101, 32, 111, 117, 116, 32, 111, 102, 32, 114, 97, 110, 103, 101]] 0)])]

/-- (*strings.Builder).copyCheck: the builder knows itself from now on. -/
def copyCheckP (args : List AV) (σ : AS) : Option CRes :=
  match args with
  | [.ptr B 0] => match σ.heap[B]? with
    | some (.box [c, v] tg) => if tg = some ty_strings_Builder ∧ (match c with | .nilp => true | .ptr i o => i == B && o == 0 | _ => false) = true then some (.ret (.tup []) ⟨σ.heap.set B (.box [.ptr B 0, v] tg), σ.lo⟩) else none
    | _ => none
  | _ => none

/-- How many such bytes. -/
def countP (args : List AV) (σ : AS) : Option CRes :=
  match args with
  | [.str s, .int .u8 c] => if 0 ≤ c ∧ c < 256 then some (.ret (.int .i64 ((s.data.toList.filter fun b => decide ((b.toNat : Int) = c)).length : Nat)) σ) else none
  | _ => none

def optI : Option Nat → Int
  | some i => i
  | none => -1

def idxB (c : Int) (l : List UInt8) : Int := optI (l.findIdx? (fun b => decide ((b.toNat : Int) = c)))

/-- Where the first one is. -/
def indexByteP (args : List AV) (σ : AS) : Option CRes :=
  match args with
  | [.str s, .int .u8 c] => if 0 ≤ c ∧ c < 256 then some (.ret (.int .i64 (idxB c s.data.toList)) σ) else none
  | _ => none

def primT : List (Nat × (List AV → AS → Option CRes)) := [(fn_Pstrings_Builder_copyCheck, copyCheckP), (fn_ibytealg_CountString, countP), (fn_ibytealg_IndexByteString, indexByteP)]

def X : Ctx := { glob := fun g => globT.lookup g, code := fun f => codeT.lookup f, prim := fun f => primT.lookup f }

/-- An instruction. -/
structure Instr where
  op : Nat
  a : Nat
  b : Nat
  c : Nat
  n : Nat
  deriving DecidableEq, Inhabited

structure Instr.wf (x : Instr) : Prop where
  op : x.op < 256
  a : x.a < 256
  b : x.b < 256
  c : x.c < 256
  n : x.n < 65536

def I5 (x : Instr) : List AV := [.int .u8 x.op, .int .u8 x.a, .int .u8 x.b, .int .u8 x.c, .int .u16 x.n]
def J5 (x : Instr) : List AV := [.int .i64 x.op, .int .i64 x.a, .int .i64 x.b, .int .i64 x.c, .int .i64 x.n]

theorem pI5 (x : Instr) : Den.part true 5 (I5 x) 0 = some (.agg (I5 x)) := rfl
theorem pJ5 (x : Instr) : Den.part true 5 (J5 x) 0 = some (.agg (J5 x)) := rfl

theorem eq5 (x y : Instr) : eqA (.agg [.int, .int, .int, .int, .int]) (.agg (I5 x)) (.agg (I5 y)) = some (decide (x = y)) := by
  obtain ⟨a, b, c, d, e⟩ := x
  obtain ⟨a', b', c', d', e'⟩ := y
  simp only [eqA, I5, List.length_cons, List.length_nil, eqAL_int, eqAL_nil, if_true, and_self, Instr.mk.injEq, Int.natCast_inj]
  by_cases h1 : a = a' <;> by_cases h2 : b = b' <;> by_cases h3 : c = c' <;> by_cases h4 : d = d' <;> by_cases h5 : e = e' <;> simp [h1, h2, h3, h4, h5]
theorem eqJ5 (x y : Instr) : eqA (.agg [.int, .int, .int, .int, .int]) (.agg (J5 x)) (.agg (J5 y)) = some (decide (x = y)) := by
  obtain ⟨a, b, c, d, e⟩ := x
  obtain ⟨a', b', c', d', e'⟩ := y
  simp only [eqA, J5, List.length_cons, List.length_nil, eqAL_int, eqAL_nil, if_true, and_self, Instr.mk.injEq, Int.natCast_inj]
  by_cases h1 : a = a' <;> by_cases h2 : b = b' <;> by_cases h3 : c = c' <;> by_cases h4 : d = d' <;> by_cases h5 : e = e' <;> simp [h1, h2, h3, h4, h5]

def goes (op : Nat) : Bool := op = 5 || op = 6

theorem goes_D (a : Int) (h : 0 ≤ a) (H : List AObj) (lo : Option Nat) : D X (.fn (.func fn_asm_goes) [] []) [.int .u8 a] ⟨H, lo⟩ = some (.ret (.bool (goes a.toNat)) ⟨H, lo⟩) := by
  refine D_fn pf_asm_goes rfl rfl rfl fun N hN => ?_
  simp (maxSteps := 2000000) (disch := omega) only [R4, F1, ↓Int.cast_ofNat_Int, ↓R1, R2, C1, P1, O1, V1, V2, V3, reduceCtorEq, Nat.reduceEqDiff, Nat.reduceBEq, Nat.reduceAdd, Nat.reduceSub, Nat.reduceMul, Nat.reduceLeDiff, Nat.reduceLT, Int.reduceEq, Int.reduceAdd, Int.reduceSub, Int.reduceMul, Int.reduceLT, Int.reduceLE, Int.reduceNeg, Int.reduceToNat, wrap_i64, wrap_u64, wrap_u8, wrap_u16, wrap_u32, wrap_i32, base_get0, base_get, base_set0, base_set, base_take, take_self, take_app1, pf_asm_goes]
  have e5 : a = 5 ↔ a.toNat = 5 := by omega
  have e6 : a = 6 ↔ a.toNat = 6 := by omega
  refine ⟨fun h => ?_, fun h => ?_⟩ <;> simp [goes, take_self hN, ← e5, ← e6, h]

def mayI (x : Instr) (n : Nat) : Bool := (x.op ≤ 6 || (16 < x.op && x.op ≤ 38)) && (x.a < 8 && x.b < 8 && x.c < 8) && (!goes x.op || x.n < n)

theorem may_D (x : Instr) (hx : x.wf) (n : Int) (h : 0 ≤ n) (H : List AObj) (lo : Option Nat) : D X (.fn (.func fn_code_Instr_may) [] []) [.agg (I5 x), .int .i64 n] ⟨H, lo⟩ = some (.ret (.bool (mayI x n.toNat)) ⟨H, lo⟩) := by
  obtain ⟨h1, h2, h3, h4, h5⟩ := hx
  refine D_fn pf_code_Instr_may rfl rfl rfl fun N hN => ?_
  simp (maxSteps := 2000000) (disch := omega) only [F1, ↓Int.cast_ofNat_Int, ↓R1, R2, C1, P1, O1, V1, V2, V3, reduceCtorEq, Nat.reduceEqDiff, Nat.reduceBEq, Nat.reduceAdd, Nat.reduceSub, Nat.reduceMul, Nat.reduceLeDiff, Nat.reduceLT, Int.reduceEq, Int.reduceAdd, Int.reduceSub, Int.reduceMul, Int.reduceLT, Int.reduceLE, Int.reduceNeg, Int.reduceToNat, wrap_i64, wrap_u64, wrap_u8, wrap_u16, wrap_u32, wrap_i32, base_get0, base_get, base_set0, base_set, base_take, take_self, take_app1, pf_code_Instr_may, I5, hN]
  refine gK_keep 5 (.bool (decide (16 < x.op ∧ x.op ≤ 38))) [1, 2] rfl rfl ?_ fun e0 => ?_
  · simp (maxSteps := 2000000) (disch := omega) only [R4, F1, ↓Int.cast_ofNat_Int, ↓R1, R2, C1, P1, O1, V1, V2, V3, reduceCtorEq, Nat.reduceEqDiff, Nat.reduceBEq, Nat.reduceAdd, Nat.reduceSub, Nat.reduceMul, Nat.reduceLeDiff, Nat.reduceLT, Int.reduceEq, Int.reduceAdd, Int.reduceSub, Int.reduceMul, Int.reduceLT, Int.reduceLE, Int.reduceNeg, Int.reduceToNat, wrap_i64, wrap_u64, wrap_u8, wrap_u16, wrap_u32, wrap_i32, base_get0, base_get, base_set0, base_set, base_take, take_self, take_app1, hN]
    (repeat' (first | apply And.intro | intro _))
    all_goals (refine congrArg AV.bool (Bool.eq_iff_iff.2 ?_); simp []; try (intros; omega))
  simp (maxSteps := 2000000) (disch := omega) only [F1, ↓Int.cast_ofNat_Int, ↓R1, R2, C1, P1, O1, V1, V2, V3, reduceCtorEq, Nat.reduceEqDiff, Nat.reduceBEq, Nat.reduceAdd, Nat.reduceSub, Nat.reduceMul, Nat.reduceLeDiff, Nat.reduceLT, Int.reduceEq, Int.reduceAdd, Int.reduceSub, Int.reduceMul, Int.reduceLT, Int.reduceLE, Int.reduceNeg, Int.reduceToNat, wrap_i64, wrap_u64, wrap_u8, wrap_u16, wrap_u32, wrap_i32, base_get0, base_get, base_set0, base_set, base_take, take_self, take_app1, hN]
  refine gK_keep 6 (.bool (decide (x.op = 5 ∨ x.op = 6))) [1, 2, 5] rfl rfl ?_ fun e1 => ?_
  · simp (maxSteps := 2000000) (disch := omega) only [R4, F1, ↓Int.cast_ofNat_Int, ↓R1, R2, C1, P1, O1, V1, V2, V3, reduceCtorEq, Nat.reduceEqDiff, Nat.reduceBEq, Nat.reduceAdd, Nat.reduceSub, Nat.reduceMul, Nat.reduceLeDiff, Nat.reduceLT, Int.reduceEq, Int.reduceAdd, Int.reduceSub, Int.reduceMul, Int.reduceLT, Int.reduceLE, Int.reduceNeg, Int.reduceToNat, wrap_i64, wrap_u64, wrap_u8, wrap_u16, wrap_u32, wrap_i32, base_get0, base_get, base_set0, base_set, base_take, take_self, take_app1, hN]
    (repeat' (first | apply And.intro | intro _))
    all_goals (refine congrArg AV.bool (Bool.eq_iff_iff.2 ?_); simp []; try (intros; omega))
  simp (maxSteps := 2000000) (disch := omega) only [F1, ↓Int.cast_ofNat_Int, ↓R1, R2, C1, P1, O1, V1, V2, V3, reduceCtorEq, Nat.reduceEqDiff, Nat.reduceBEq, Nat.reduceAdd, Nat.reduceSub, Nat.reduceMul, Nat.reduceLeDiff, Nat.reduceLT, Int.reduceEq, Int.reduceAdd, Int.reduceSub, Int.reduceMul, Int.reduceLT, Int.reduceLE, Int.reduceNeg, Int.reduceToNat, wrap_i64, wrap_u64, wrap_u8, wrap_u16, wrap_u32, wrap_i32, base_get0, base_get, base_set0, base_set, base_take, take_self, take_app1, hN]
  refine gK_keep 4 (.bool (mayI x n.toNat)) [] rfl rfl ?_ fun e1 => ?_
  · simp (maxSteps := 2000000) (disch := omega) only [R4, F1, ↓Int.cast_ofNat_Int, ↓R1, R2, C1, P1, O1, V1, V2, V3, reduceCtorEq, Nat.reduceEqDiff, Nat.reduceBEq, Nat.reduceAdd, Nat.reduceSub, Nat.reduceMul, Nat.reduceLeDiff, Nat.reduceLT, Int.reduceEq, Int.reduceAdd, Int.reduceSub, Int.reduceMul, Int.reduceLT, Int.reduceLE, Int.reduceNeg, Int.reduceToNat, wrap_i64, wrap_u64, wrap_u8, wrap_u16, wrap_u32, wrap_i32, base_get0, base_get, base_set0, base_set, base_take, take_self, take_app1, hN]
    (repeat' (first | apply And.intro | intro _))
    all_goals (refine congrArg AV.bool (Bool.eq_iff_iff.2 ?_); simp [mayI, goes]; try (intros; omega))
  simp (maxSteps := 2000000) (disch := omega) only [F1, ↓Int.cast_ofNat_Int, ↓R1, R2, C1, P1, O1, V1, V2, V3, reduceCtorEq, Nat.reduceEqDiff, Nat.reduceBEq, Nat.reduceAdd, Nat.reduceSub, Nat.reduceMul, Nat.reduceLeDiff, Nat.reduceLT, Int.reduceEq, Int.reduceAdd, Int.reduceSub, Int.reduceMul, Int.reduceLT, Int.reduceLE, Int.reduceNeg, Int.reduceToNat, wrap_i64, wrap_u64, wrap_u8, wrap_u16, wrap_u32, wrap_i32, base_get0, base_get, base_set0, base_set, base_take, take_self, take_app1, hN]

theorem getD_mem {α : Type} [Inhabited α] {l : List α} {j : Nat} (h : j < l.length) : l.getD j default ∈ l := by
  rw [List.getD_eq_getElem?_getD, List.getElem?_eq_getElem h]; exact List.getElem_mem h

theorem May1_D (x : Instr) (hx : x.wf) (v : AV) (els : List (List AV)) (hv : Rv v 5 els) (p : Nat) (H : List AObj) (lo : Option Nat) (hp : H[p]? = some (.box [v] none)) : D X (.fn (.func fn_code_May_1) [] [.ptr p 0]) [.agg (I5 x)] ⟨H, lo⟩ = some (.ret (.bool !(mayI x els.length)) ⟨H, lo⟩) := by
  have hq : ∀ H lo, D X (.fn (.func fn_code_Instr_may) [] []) [.agg (I5 x), .int .i64 els.length] ⟨H, lo⟩ = some (.ret (.bool (mayI x els.length)) ⟨H, lo⟩) := fun H lo => by
    have := may_D x hx els.length (by omega) H lo; rwa [Int.toNat_natCast] at this
  have hp' : ∀ L, (H ++ L)[p]? = some (.box [v] none) := fun L => by
    rw [List.getElem?_append_left (List.getElem?_eq_some_iff.1 hp).1]; exact hp
  unfold I5 at hq ⊢
  refine D_clo pf_code_May_1 rfl rfl rfl fun N hN => ?_
  simp (maxSteps := 2000000) (disch := omega) only [F1, ↓Int.cast_ofNat_Int, ↓R1, R2, C1, P1, O1, V1, V2, V3, reduceCtorEq, Nat.reduceEqDiff, Nat.reduceBEq, Nat.reduceAdd, Nat.reduceSub, Nat.reduceMul, Nat.reduceLeDiff, Nat.reduceLT, Int.reduceEq, Int.reduceAdd, Int.reduceSub, Int.reduceMul, Int.reduceLT, Int.reduceLE, Int.reduceNeg, Int.reduceToNat, wrap_i64, wrap_u64, wrap_u8, wrap_u16, wrap_u32, wrap_i32, base_get0, base_get, base_set0, base_set, base_take, take_self, take_app1, pf_code_May_1, hN, hp', hv.len, hq]

def idxI {α : Type} (p : α → Bool) (l : List α) : Int := match l.findIdx? p with
  | some i => i
  | none => -1

theorem idxI_any {α : Type} (p : α → Bool) (l : List α) : decide (0 ≤ idxI p l) = l.any p := by
  unfold idxI
  cases h : l.findIdx? p with
  | some i =>
    have : l.any p = true := by
      rw [List.findIdx?_eq_some_iff_getElem] at h
      obtain ⟨h1, h2, _⟩ := h
      exact List.any_eq_true.2 ⟨_, List.getElem_mem h1, h2⟩
    rw [this]; simp
  | none =>
    have : l.any p = false := by
      rw [List.findIdx?_eq_none_iff] at h
      rw [List.any_eq_false]; intro x hx; rw [h x hx]; simp
    rw [this]; simp

theorem idxI_at {α : Type} [Inhabited α] {p : α → Bool} {l : List α} {k : Nat} (hk : k < l.length) (h : ∀ j, j < k → p (l.getD j default) = false) (hp : p (l.getD k default) = true) : idxI p l = k := by
  have : l.findIdx? p = some k := by
    rw [List.findIdx?_eq_some_iff_getElem]
    refine ⟨hk, ?_, fun j hj => ?_⟩
    · rwa [List.getD_eq_getElem?_getD, List.getElem?_eq_getElem hk] at hp
    · have := h j hj
      rw [List.getD_eq_getElem?_getD, List.getElem?_eq_getElem (by omega)] at this
      simpa using this
  unfold idxI; rw [this]

theorem idxI_no {α : Type} [Inhabited α] {p : α → Bool} {l : List α} (h : ∀ j, j < l.length → p (l.getD j default) = false) : idxI p l = -1 := by
  have : l.findIdx? p = none := by
    rw [List.findIdx?_eq_none_iff]
    intro x hx
    obtain ⟨j, hj, rfl⟩ := List.getElem_of_mem hx
    have := h j hj
    rwa [List.getD_eq_getElem?_getD, List.getElem?_eq_getElem hj] at this
  unfold idxI; rw [this]

theorem all_succ {k : Nat} {P : Nat → Prop} (h : ∀ j, j < k → P j) (hk : P k) : ∀ j, j < k + 1 → P j := by
  intro j hj
  by_cases e : j = k
  · rw [e]; exact hk
  · exact h j (by omega)

theorem IndexFunc_D (v fv : AV) (l : List Instr) (hv : Rv v 5 (l.map I5)) (hl : l.length < 2^40) (p : Instr → Bool) (H : List AObj) (lo : Option Nat)
    (hf : ∀ x ∈ l, D X fv [.agg (I5 x)] ⟨H, none⟩ = some (.ret (.bool (p x)) ⟨H, none⟩)) : D X (.fn (.func fn_slices_IndexFunc_code_Instr_code_Instr) [] []) [v, fv] ⟨H, lo⟩ = some (.ret (.int .i64 (idxI p l)) ⟨H, lo⟩) := by
  refine D_fn pf_slices_IndexFunc_code_Instr_code_Instr rfl rfl rfl fun N hN => ?_
  simp (maxSteps := 2000000) (disch := omega) only [F1, ↓Int.cast_ofNat_Int, ↓R1, R2, C1, P1, O1, V1, V2, V3, reduceCtorEq, Nat.reduceEqDiff, Nat.reduceBEq, Nat.reduceAdd, Nat.reduceSub, Nat.reduceMul, Nat.reduceLeDiff, Nat.reduceLT, Int.reduceEq, Int.reduceAdd, Int.reduceSub, Int.reduceMul, Int.reduceLT, Int.reduceLE, Int.reduceNeg, Int.reduceToNat, wrap_i64, wrap_u64, wrap_u8, wrap_u16, wrap_u32, wrap_i32, base_get0, base_get, base_set0, base_set, base_take, take_self, take_app1, pf_slices_IndexFunc_code_Instr_code_Instr, hv.lenM]
  refine wp_loopN l.length (fun k e H' => H' = H ∧ e 0 = v ∧ e 1 = fv ∧ e 7 = .int .i64 l.length ∧ e 8 = .int .i64 k ∧ ∀ j, j < k → p (l.getD j default) = false) 0 (by omega) ?_ ?_
  · simp (maxSteps := 2000000) (disch := omega) only [F1, ↓Int.cast_ofNat_Int, ↓R1, R2, C1, P1, O1, V1, V2, V3, reduceCtorEq, Nat.reduceEqDiff, Nat.reduceBEq, Nat.reduceAdd, Nat.reduceSub, Nat.reduceMul, Nat.reduceLeDiff, Nat.reduceLT, Int.reduceEq, Int.reduceAdd, Int.reduceSub, Int.reduceMul, Int.reduceLT, Int.reduceLE, Int.reduceNeg, Int.reduceToNat, wrap_i64, wrap_u64, wrap_u8, wrap_u16, wrap_u32, wrap_i32, base_get0, base_get, base_set0, base_set, base_take, take_self, take_app1]
    exact fun j hj => absurd hj (Nat.not_lt_zero j)
  · rintro k hk e H' ⟨rfl, h0, h1, h7, h8, hi⟩ n hn
    simp (maxSteps := 2000000) (disch := omega) only [condK_dec, F1, ↓Int.cast_ofNat_Int, ↓R1, R2, C1, P1, O1, V1, V2, V3, reduceCtorEq, Nat.reduceEqDiff, Nat.reduceBEq, Nat.reduceAdd, Nat.reduceSub, Nat.reduceMul, Nat.reduceLeDiff, Nat.reduceLT, Int.reduceEq, Int.reduceAdd, Int.reduceSub, Int.reduceMul, Int.reduceLT, Int.reduceLE, Int.reduceNeg, Int.reduceToNat, wrap_i64, wrap_u64, wrap_u8, wrap_u16, wrap_u32, wrap_i32, base_get0, base_get, base_set0, base_set, base_take, take_self, take_app1, l1_slices_IndexFunc_code_Instr_code_Instr, h0, h1, h7, h8]
    refine ⟨fun h => ?_, fun h => ?_⟩
    · have hk' : k < l.length := by omega
      simp (maxSteps := 2000000) (disch := omega) only [F1, ↓Int.cast_ofNat_Int, ↓R1, R2, C1, P1, O1, V1, V2, V3, reduceCtorEq, Nat.reduceEqDiff, Nat.reduceBEq, Nat.reduceAdd, Nat.reduceSub, Nat.reduceMul, Nat.reduceLeDiff, Nat.reduceLT, Int.reduceEq, Int.reduceAdd, Int.reduceSub, Int.reduceMul, Int.reduceLT, Int.reduceLE, Int.reduceNeg, Int.reduceToNat, wrap_i64, wrap_u64, wrap_u8, wrap_u16, wrap_u32, wrap_i32, base_get0, base_get, base_set0, base_set, base_take, take_self, take_app1, hv.addrM, hv.loadM, ↓pI5, hf _ (getD_mem hk')]
      refine ⟨by omega, ?_⟩
      cases hp : p (l.getD k default)
      · simp (maxSteps := 2000000) (disch := omega) only [F1, ↓Int.cast_ofNat_Int, ↓R1, R2, C1, P1, O1, V1, V2, V3, reduceCtorEq, Nat.reduceEqDiff, Nat.reduceBEq, Nat.reduceAdd, Nat.reduceSub, Nat.reduceMul, Nat.reduceLeDiff, Nat.reduceLT, Int.reduceEq, Int.reduceAdd, Int.reduceSub, Int.reduceMul, Int.reduceLT, Int.reduceLE, Int.reduceNeg, Int.reduceToNat, wrap_i64, wrap_u64, wrap_u8, wrap_u16, wrap_u32, wrap_i32, base_get0, base_get, base_set0, base_set, base_take, take_self, take_app1, h0, h1, h7, h8]
        exact ⟨hk', all_succ hi hp⟩
      · simp (maxSteps := 2000000) (disch := omega) only [F1, ↓Int.cast_ofNat_Int, ↓R1, R2, C1, P1, O1, V1, V2, V3, reduceCtorEq, Nat.reduceEqDiff, Nat.reduceBEq, Nat.reduceAdd, Nat.reduceSub, Nat.reduceMul, Nat.reduceLeDiff, Nat.reduceLT, Int.reduceEq, Int.reduceAdd, Int.reduceSub, Int.reduceMul, Int.reduceLT, Int.reduceLE, Int.reduceNeg, Int.reduceToNat, wrap_i64, wrap_u64, wrap_u8, wrap_u16, wrap_u32, wrap_i32, base_get0, base_get, base_set0, base_set, base_take, take_self, take_app1]
        rw [idxI_at hk' hi hp]
    · rw [idxI_no (fun j hj => hi j (by omega))]

theorem ContainsFunc_D (v fv : AV) (l : List Instr) (hv : Rv v 5 (l.map I5)) (hl : l.length < 2^40) (p : Instr → Bool) (H : List AObj) (lo : Option Nat)
    (hf : ∀ x ∈ l, D X fv [.agg (I5 x)] ⟨H, none⟩ = some (.ret (.bool (p x)) ⟨H, none⟩)) : D X (.fn (.func fn_slices_ContainsFunc_code_Instr_code_Instr) [] []) [v, fv] ⟨H, lo⟩ = some (.ret (.bool (l.any p)) ⟨H, lo⟩) := by
  refine D_fn pf_slices_ContainsFunc_code_Instr_code_Instr rfl rfl rfl fun N hN => ?_
  simp (maxSteps := 2000000) (disch := omega) only [F1, ↓Int.cast_ofNat_Int, ↓R1, R2, C1, P1, O1, V1, V2, V3, reduceCtorEq, Nat.reduceEqDiff, Nat.reduceBEq, Nat.reduceAdd, Nat.reduceSub, Nat.reduceMul, Nat.reduceLeDiff, Nat.reduceLT, Int.reduceEq, Int.reduceAdd, Int.reduceSub, Int.reduceMul, Int.reduceLT, Int.reduceLE, Int.reduceNeg, Int.reduceToNat, wrap_i64, wrap_u64, wrap_u8, wrap_u16, wrap_u32, wrap_i32, base_get0, base_get, base_set0, base_set, base_take, take_self, take_app1, pf_slices_ContainsFunc_code_Instr_code_Instr, IndexFunc_D v fv l hv hl p H none hf, idxI_any]

def mayL (l : List Instr) : Bool := decide (l.length ≤ 64) && !(l.any fun x => !(mayI x l.length))

theorem May_D (v : AV) (l : List Instr) (hw : ∀ x ∈ l, x.wf) (hv : Rv v 5 (l.map I5)) (hl : l.length < 2^40) (H : List AObj) (lo : Option Nat) : D X (.fn (.func fn_code_May) [] []) [v] ⟨H, lo⟩ = some (.ret (.bool (mayL l)) ⟨H, lo⟩) := by
  refine D_fn pf_code_May rfl rfl rfl fun N hN => ?_
  have hb : boxA ⟨H, none⟩ v = some (.ptr N 0, ⟨H ++ [.box [v] none], none⟩) := by
    rw [← hN]; obtain ⟨h, _, _⟩ := hv ⟨[], none⟩; cases v <;> first | rfl | exact h.elim
  have hc := ContainsFunc_D v (.fn (.func fn_code_May_1) [] [.ptr N 0]) l hv hl (fun x => !(mayI x l.length)) (H ++ [.box [v] none]) none (fun x hx => by
    have := May1_D x (hw x hx) v _ hv N (H ++ [.box [v] none]) none (by rw [base_get0 hN]; rfl)
    rwa [List.length_map] at this)
  simp (maxSteps := 2000000) (disch := omega) only [R4, F1, ↓Int.cast_ofNat_Int, ↓R1, R2, C1, P1, O1, V1, V2, V3, reduceCtorEq, Nat.reduceEqDiff, Nat.reduceBEq, Nat.reduceAdd, Nat.reduceSub, Nat.reduceMul, Nat.reduceLeDiff, Nat.reduceLT, Int.reduceEq, Int.reduceAdd, Int.reduceSub, Int.reduceMul, Int.reduceLT, Int.reduceLE, Int.reduceNeg, Int.reduceToNat, wrap_i64, wrap_u64, wrap_u8, wrap_u16, wrap_u32, wrap_i32, base_get0, base_get, base_set0, base_set, base_take, take_self, take_app1, pf_code_May, hb, hv.lenM, hc]
  refine ⟨fun h => ?_, fun h => ?_⟩
  · have : l.length ≤ 64 := by omega
    simp [mayL, this]
  · have : ¬ l.length ≤ 64 := by omega
    simp [mayL, this]

theorem row_D (v v' : AV) (l m : List Instr) (hv : Rv v 5 (l.map I5)) (hv' : Rv v' 5 (m.map I5)) (hl : l.length < 2^40) (hm : m.length < 2^40) (H : List AObj) (lo : Option Nat) : D X (.fn (.func fn_law23_row) [] []) [v, v'] ⟨H, lo⟩ = some (.ret (.bool (decide (l = m))) ⟨H, lo⟩) := by
  refine D_fn pf_law23_row rfl rfl rfl fun N hN => ?_
  simp (maxSteps := 2000000) (disch := omega) only [condK_dec, F1, ↓Int.cast_ofNat_Int, ↓R1, R2, C1, P1, O1, V1, V2, V3, reduceCtorEq, Nat.reduceEqDiff, Nat.reduceBEq, Nat.reduceAdd, Nat.reduceSub, Nat.reduceMul, Nat.reduceLeDiff, Nat.reduceLT, Int.reduceEq, Int.reduceAdd, Int.reduceSub, Int.reduceMul, Int.reduceLT, Int.reduceLE, Int.reduceNeg, Int.reduceToNat, wrap_i64, wrap_u64, wrap_u8, wrap_u16, wrap_u32, wrap_i32, base_get0, base_get, base_set0, base_set, base_take, take_self, take_app1, pf_law23_row, hv.lenM, hv'.lenM]
  refine ⟨fun h => ?_, fun h => ?_⟩
  · have : l ≠ m := by intro e; rw [e] at h; exact h rfl
    simp [this]
  have hlm : m.length = l.length := by omega
  refine wp_loopN l.length (fun k e H' => H' = H ∧ e 0 = v ∧ e 1 = v' ∧ e 5 = .int .i64 k ∧ ∀ j, j < k → l.getD j default = m.getD j default) 0 (by omega) ?_ ?_
  · simp (maxSteps := 2000000) (disch := omega) only [F1, ↓Int.cast_ofNat_Int, ↓R1, R2, C1, P1, O1, V1, V2, V3, reduceCtorEq, Nat.reduceEqDiff, Nat.reduceBEq, Nat.reduceAdd, Nat.reduceSub, Nat.reduceMul, Nat.reduceLeDiff, Nat.reduceLT, Int.reduceEq, Int.reduceAdd, Int.reduceSub, Int.reduceMul, Int.reduceLT, Int.reduceLE, Int.reduceNeg, Int.reduceToNat, wrap_i64, wrap_u64, wrap_u8, wrap_u16, wrap_u32, wrap_i32, base_get0, base_get, base_set0, base_set, base_take, take_self, take_app1]
    exact fun j hj => absurd hj (Nat.not_lt_zero j)
  · rintro k hk e H' ⟨rfl, h0, h1, h5, hi⟩ n hn
    simp (maxSteps := 2000000) (disch := omega) only [condK_dec, F1, ↓Int.cast_ofNat_Int, ↓R1, R2, C1, P1, O1, V1, V2, V3, reduceCtorEq, Nat.reduceEqDiff, Nat.reduceBEq, Nat.reduceAdd, Nat.reduceSub, Nat.reduceMul, Nat.reduceLeDiff, Nat.reduceLT, Int.reduceEq, Int.reduceAdd, Int.reduceSub, Int.reduceMul, Int.reduceLT, Int.reduceLE, Int.reduceNeg, Int.reduceToNat, wrap_i64, wrap_u64, wrap_u8, wrap_u16, wrap_u32, wrap_i32, base_get0, base_get, base_set0, base_set, base_take, take_self, take_app1, l1_law23_row, h0, h1, h5, hv.lenM]
    refine ⟨fun h => ?_, fun h => ?_⟩
    · have hk' : k < l.length := by omega
      have hk2 : k < m.length := by omega
      simp (maxSteps := 2000000) (disch := omega) only [condK_dec, F1, ↓Int.cast_ofNat_Int, ↓R1, R2, C1, P1, O1, V1, V2, V3, reduceCtorEq, Nat.reduceEqDiff, Nat.reduceBEq, Nat.reduceAdd, Nat.reduceSub, Nat.reduceMul, Nat.reduceLeDiff, Nat.reduceLT, Int.reduceEq, Int.reduceAdd, Int.reduceSub, Int.reduceMul, Int.reduceLT, Int.reduceLE, Int.reduceNeg, Int.reduceToNat, wrap_i64, wrap_u64, wrap_u8, wrap_u16, wrap_u32, wrap_i32, base_get0, base_get, base_set0, base_set, base_take, take_self, take_app1, hv.addrM, hv.loadM, hv'.addrM, hv'.loadM, hv.fpLM, hv'.fpLM, ↓pI5, h0, h1, h5, eq5]
      refine ⟨h, by omega, fun hne => ?_, fun he => ?_⟩
      · have : l ≠ m := by intro e; rw [e] at hne; exact hne rfl
        simp [this]
      · exact ⟨hk', all_succ hi (Classical.not_not.1 he)⟩
    · have : l = m := by
        apply List.ext_getElem (by omega)
        intro j h1 h2
        have := hi j (by omega)
        rwa [List.getD_eq_getElem?_getD, List.getElem?_eq_getElem h1, List.getD_eq_getElem?_getD, List.getElem?_eq_getElem h2] at this
      simp [this]

end Go.Proofs.YtoolhdikfdjikaaDoor

/- The reference's small functions. -/
namespace Go.Proofs.YtoolhdikfdjikaaDoor
open Go Go.Den
set_option maxRecDepth 10000

theorem refs_I5 (x : Instr) : refsL (I5 x) = 0 := by simp [I5, refsL, AV.refs]
theorem refs_J5 (x : Instr) : refsL (J5 x) = 0 := by simp [J5, refsL, AV.refs]
theorem take_succ_getD {α : Type} [Inhabited α] {l : List α} {k : Nat} (h : k < l.length) : l.take (k + 1) = l.take k ++ [l.getD k default] := by
  rw [List.take_succ_eq_append_getElem h, List.getD_eq_getElem?_getD, List.getElem?_eq_getElem h]; rfl

theorem Of_D (v : AV) (l : List Instr) (hw : ∀ x ∈ l, x.wf) (hv : Rv v 5 (l.map I5)) (hl : l.length < 2^30) (H : List AObj) (lo : Option Nat) : ∃ r, D X (.fn (.func fn_law13_Of) [] []) [v] ⟨H, lo⟩ = some (.ret r ⟨H, lo⟩) ∧ Rv r 5 (l.map J5) := by
  suffices h : ∃ cr, D X (.fn (.func fn_law13_Of) [] []) [v] ⟨H, lo⟩ = some cr ∧ (fun cr => ∃ r, cr = CRes.ret r ⟨H, lo⟩ ∧ Rv r 5 (l.map J5)) cr by
    obtain ⟨cr, h1, r, rfl, h2⟩ := h
    exact ⟨r, h1, h2⟩
  refine D_fn_ex pf_law13_Of rfl rfl rfl fun N hN => ?_
  simp (maxSteps := 2000000) (disch := omega) only [condK_dec, F1, ↓Int.cast_ofNat_Int, ↓R1, R2, C1, P1, O1, V1, V2, V3, reduceCtorEq, Nat.reduceEqDiff, Nat.reduceBEq, Nat.reduceAdd, Nat.reduceSub, Nat.reduceMul, Nat.reduceLeDiff, Nat.reduceLT, Int.reduceEq, Int.reduceAdd, Int.reduceSub, Int.reduceMul, Int.reduceLT, Int.reduceLE, Int.reduceNeg, Int.reduceToNat, wrap_i64, wrap_u64, wrap_u8, wrap_u16, wrap_u32, wrap_i32, base_get0, base_get, base_set0, base_set, base_take, take_self, take_app1, pf_law13_Of]
  refine wp_loopN l.length (fun k e H' => H <+: H' ∧ e 0 = v ∧ e 4 = .int .i64 k ∧ Own N H' (e 3) 5 ty_ref13_Instr ((l.take k).map J5)) 0 (by omega) ?_ ?_
  · simp (maxSteps := 2000000) (disch := omega) only [F1, ↓Int.cast_ofNat_Int, ↓R1, R2, C1, P1, O1, V1, V2, V3, reduceCtorEq, Nat.reduceEqDiff, Nat.reduceBEq, Nat.reduceAdd, Nat.reduceSub, Nat.reduceMul, Nat.reduceLeDiff, Nat.reduceLT, Int.reduceEq, Int.reduceAdd, Int.reduceSub, Int.reduceMul, Int.reduceLT, Int.reduceLE, Int.reduceNeg, Int.reduceToNat, wrap_i64, wrap_u64, wrap_u8, wrap_u16, wrap_u32, wrap_i32, base_get0, base_get, base_set0, base_set, base_take, take_self, take_app1]
    exact ⟨List.prefix_rfl, .nils⟩
  · rintro k hk e H' ⟨hp, h0, h4, h3⟩ n hn
    simp (maxSteps := 2000000) (disch := omega) only [condK_dec, ↓Int.cast_ofNat_Int, ↓R1, R2, C1, P1, O1, V1, V2, V3, reduceCtorEq, Nat.reduceEqDiff, Nat.reduceBEq, Nat.reduceAdd, Nat.reduceSub, Nat.reduceMul, Nat.reduceLeDiff, Nat.reduceLT, Int.reduceEq, Int.reduceAdd, Int.reduceSub, Int.reduceMul, Int.reduceLT, Int.reduceLE, Int.reduceNeg, Int.reduceToNat, wrap_i64, wrap_u64, wrap_u8, wrap_u16, wrap_u32, wrap_i32, base_get0, base_get, base_set0, base_set, base_take, take_self, take_app1, l1_law13_Of, h0, h4, hv.lenM]
    refine ⟨fun h => ?_, fun h => ?_⟩
    · have hk' : k < l.length := by omega
      obtain ⟨w1, w2, w3, w4, w5⟩ := hw _ (getD_mem hk')
      simp (maxSteps := 2000000) (disch := omega) only [condK_dec, F1, ↓Int.cast_ofNat_Int, ↓R1, R2, C1, P1, O1, V1, V2, V3, reduceCtorEq, Nat.reduceEqDiff, Nat.reduceBEq, Nat.reduceAdd, Nat.reduceSub, Nat.reduceMul, Nat.reduceLeDiff, Nat.reduceLT, Int.reduceEq, Int.reduceAdd, Int.reduceSub, Int.reduceMul, Int.reduceLT, Int.reduceLE, Int.reduceNeg, Int.reduceToNat, wrap_i64, wrap_u64, wrap_u8, wrap_u16, wrap_u32, wrap_i32, base_get0, base_get, base_set0, base_set, base_take, take_self, take_app1, hv.addrM, hv.loadM, h0, h4, I5, hn]
      refine ⟨h, ?_⟩
      refine okP_append h3.ext (hp.trans (List.prefix_append _ _)) hN (by decide) (by simp) rfl (by simp [room]; omega) fun v' H'' o1 p1 => ?_
      simp (maxSteps := 2000000) (disch := omega) only [F1, ↓Int.cast_ofNat_Int, ↓R1, R2, C1, P1, O1, V1, V2, V3, reduceCtorEq, Nat.reduceEqDiff, Nat.reduceBEq, Nat.reduceAdd, Nat.reduceSub, Nat.reduceMul, Nat.reduceLeDiff, Nat.reduceLT, Int.reduceEq, Int.reduceAdd, Int.reduceSub, Int.reduceMul, Int.reduceLT, Int.reduceLE, Int.reduceNeg, Int.reduceToNat, wrap_i64, wrap_u64, wrap_u8, wrap_u16, wrap_u32, wrap_i32, base_get0, base_get, base_set0, base_set, base_take, take_self, take_app1, h0, h4]
      refine ⟨hk', p1, ?_⟩
      rw [take_succ_getD hk', List.map_append]; exact o1
    · have : l.take k = l := List.take_of_length_le (by omega)
      rw [this] at h3
      have hr : refsLL (l.map J5) ≤ N := by rw [refsLL_map refs_J5]; exact Nat.zero_le _
      simp (maxSteps := 2000000) (disch := omega) only [↓Int.cast_ofNat_Int, ↓R1, R2, C1, P1, O1, V1, V2, V3, reduceCtorEq, Nat.reduceEqDiff, Nat.reduceBEq, Nat.reduceAdd, Nat.reduceSub, Nat.reduceMul, Nat.reduceLeDiff, Nat.reduceLT, Int.reduceEq, Int.reduceAdd, Int.reduceSub, Int.reduceMul, Int.reduceLT, Int.reduceLE, Int.reduceNeg, Int.reduceToNat, wrap_i64, wrap_u64, wrap_u8, wrap_u16, wrap_u32, wrap_i32, base_get0, base_get, base_set0, base_set, base_take, take_self, take_app1, h3.finish1 hr, take_pre hN hp]
      exact ⟨_, rfl, h3.frz_rv⟩

def mayR (l : List Instr) : Bool := decide (l.length ≤ 64) && l.all fun x => decide (¬ (6 < x.op ∧ x.op < 17) ∧ x.op ≤ 38 ∧ x.a ≤ 7 ∧ x.b ≤ 7 ∧ x.c ≤ 7 ∧ (x.op = 5 ∨ x.op = 6 → x.n < l.length))

theorem refMay_D (v : AV) (l : List Instr) (hv : Rv v 5 (l.map J5)) (hl : l.length < 2^40) (H : List AObj) (lo : Option Nat) : D X (.fn (.func fn_ref13_May) [] []) [v] ⟨H, lo⟩ = some (.ret (.bool (mayR l)) ⟨H, lo⟩) := by
  refine D_fn pf_ref13_May rfl rfl rfl fun N hN => ?_
  simp (maxSteps := 2000000) (disch := omega) only [condK_dec, F1, ↓Int.cast_ofNat_Int, ↓R1, R2, C1, P1, O1, V1, V2, V3, reduceCtorEq, Nat.reduceEqDiff, Nat.reduceBEq, Nat.reduceAdd, Nat.reduceSub, Nat.reduceMul, Nat.reduceLeDiff, Nat.reduceLT, Int.reduceEq, Int.reduceAdd, Int.reduceSub, Int.reduceMul, Int.reduceLT, Int.reduceLE, Int.reduceNeg, Int.reduceToNat, wrap_i64, wrap_u64, wrap_u8, wrap_u16, wrap_u32, wrap_i32, base_get0, base_get, base_set0, base_set, base_take, take_self, take_app1, pf_ref13_May, hv.lenM]
  refine ⟨fun h => ?_, fun h => ?_⟩
  · have : ¬ l.length ≤ 64 := by omega
    simp [mayR, this]
  let P := fun x : Instr => decide (¬ (6 < x.op ∧ x.op < 17) ∧ x.op ≤ 38 ∧ x.a ≤ 7 ∧ x.b ≤ 7 ∧ x.c ≤ 7 ∧ (x.op = 5 ∨ x.op = 6 → x.n < l.length))
  refine wp_loopN l.length (fun k e H' => H <+: H' ∧ e 0 = v ∧ e 3 = .int .i64 k ∧ ∀ j, j < k → P (l.getD j default) = true) 0 (by omega) ?_ ?_
  · simp (maxSteps := 2000000) (disch := omega) only [F1, ↓Int.cast_ofNat_Int, ↓R1, R2, C1, P1, O1, V1, V2, V3, reduceCtorEq, Nat.reduceEqDiff, Nat.reduceBEq, Nat.reduceAdd, Nat.reduceSub, Nat.reduceMul, Nat.reduceLeDiff, Nat.reduceLT, Int.reduceEq, Int.reduceAdd, Int.reduceSub, Int.reduceMul, Int.reduceLT, Int.reduceLE, Int.reduceNeg, Int.reduceToNat, wrap_i64, wrap_u64, wrap_u8, wrap_u16, wrap_u32, wrap_i32, base_get0, base_get, base_set0, base_set, base_take, take_self, take_app1]
    exact ⟨List.prefix_rfl, fun j hj => absurd hj (Nat.not_lt_zero j)⟩
  · rintro k hk e H' ⟨hp, h0, h3, hi⟩ n hn
    simp (maxSteps := 2000000) (disch := omega) only [condK_dec, F1, ↓Int.cast_ofNat_Int, ↓R1, R2, C1, P1, O1, V1, V2, V3, reduceCtorEq, Nat.reduceEqDiff, Nat.reduceBEq, Nat.reduceAdd, Nat.reduceSub, Nat.reduceMul, Nat.reduceLeDiff, Nat.reduceLT, Int.reduceEq, Int.reduceAdd, Int.reduceSub, Int.reduceMul, Int.reduceLT, Int.reduceLE, Int.reduceNeg, Int.reduceToNat, wrap_i64, wrap_u64, wrap_u8, wrap_u16, wrap_u32, wrap_i32, base_get0, base_get, base_set0, base_set, base_take, take_self, take_app1, l1_ref13_May, h0, h3, hv.lenM]
    refine ⟨fun h' => ?_, fun h' => ?_⟩
    · have hk' : k < l.length := by omega
      simp (maxSteps := 2000000) (disch := omega) only [F1, ↓Int.cast_ofNat_Int, ↓R1, R2, C1, P1, O1, V1, V2, V3, reduceCtorEq, Nat.reduceEqDiff, Nat.reduceBEq, Nat.reduceAdd, Nat.reduceSub, Nat.reduceMul, Nat.reduceLeDiff, Nat.reduceLT, Int.reduceEq, Int.reduceAdd, Int.reduceSub, Int.reduceMul, Int.reduceLT, Int.reduceLE, Int.reduceNeg, Int.reduceToNat, wrap_i64, wrap_u64, wrap_u8, wrap_u16, wrap_u32, wrap_i32, base_get0, base_get, base_set0, base_set, base_take, take_self, take_app1, hv.addrM, hv.loadM, J5, hn]
      refine ⟨h', ?_⟩
      have hm := hi
      generalize hx : l.getD k default = x
      refine gK_keep 62 (.bool (!(P x))) [0, 3] rfl rfl ?_ fun e0 => ?_
      · simp (maxSteps := 2000000) (disch := omega) only [R4, F1, ↓Int.cast_ofNat_Int, ↓R1, R2, C1, P1, O1, V1, V2, V3, reduceCtorEq, Nat.reduceEqDiff, Nat.reduceBEq, Nat.reduceAdd, Nat.reduceSub, Nat.reduceMul, Nat.reduceLeDiff, Nat.reduceLT, Int.reduceEq, Int.reduceAdd, Int.reduceSub, Int.reduceMul, Int.reduceLT, Int.reduceLE, Int.reduceNeg, Int.reduceToNat, wrap_i64, wrap_u64, wrap_u8, wrap_u16, wrap_u32, wrap_i32, base_get0, base_get, base_set0, base_set, base_take, take_self, take_app1, hn, h0, hv.lenM]
        (repeat' (first | apply And.intro | intro _))
        all_goals (refine congrArg AV.bool (Bool.eq_iff_iff.2 ?_); simp [P]; try (intros; omega))
      simp (maxSteps := 2000000) (disch := omega) only [F1, ↓Int.cast_ofNat_Int, ↓R1, R2, C1, P1, O1, V1, V2, V3, reduceCtorEq, Nat.reduceEqDiff, Nat.reduceBEq, Nat.reduceAdd, Nat.reduceSub, Nat.reduceMul, Nat.reduceLeDiff, Nat.reduceLT, Int.reduceEq, Int.reduceAdd, Int.reduceSub, Int.reduceMul, Int.reduceLT, Int.reduceLE, Int.reduceNeg, Int.reduceToNat, wrap_i64, wrap_u64, wrap_u8, wrap_u16, wrap_u32, wrap_i32, base_get0, base_get, base_set0, base_set, base_take, take_self, take_app1, h0, h3]
      rw [condK_any]
      refine ⟨fun hb => ?_, fun hb => ?_⟩
      · simp (maxSteps := 2000000) (disch := omega) only [F1, ↓Int.cast_ofNat_Int, ↓R1, R2, C1, P1, O1, V1, V2, V3, reduceCtorEq, Nat.reduceEqDiff, Nat.reduceBEq, Nat.reduceAdd, Nat.reduceSub, Nat.reduceMul, Nat.reduceLeDiff, Nat.reduceLT, Int.reduceEq, Int.reduceAdd, Int.reduceSub, Int.reduceMul, Int.reduceLT, Int.reduceLE, Int.reduceNeg, Int.reduceToNat, wrap_i64, wrap_u64, wrap_u8, wrap_u16, wrap_u32, wrap_i32, base_get0, base_get, base_set0, base_set, base_take, take_self, take_app1, h0, h3]
        exact ⟨hk', hp.trans (List.prefix_append _ _), all_succ hi (by rw [hx]; exact hb)⟩
      · simp (maxSteps := 2000000) (disch := omega) only [F1, ↓Int.cast_ofNat_Int, ↓R1, R2, C1, P1, O1, V1, V2, V3, reduceCtorEq, Nat.reduceEqDiff, Nat.reduceBEq, Nat.reduceAdd, Nat.reduceSub, Nat.reduceMul, Nat.reduceLeDiff, Nat.reduceLT, Int.reduceEq, Int.reduceAdd, Int.reduceSub, Int.reduceMul, Int.reduceLT, Int.reduceLE, Int.reduceNeg, Int.reduceToNat, wrap_i64, wrap_u64, wrap_u8, wrap_u16, wrap_u32, wrap_i32, base_get0, base_get, base_set0, base_set, base_take, take_self, take_app1, take_pre hN (hp.trans (List.prefix_append _ _))]
        refine ret_eq (congrArg _ ?_) rfl
        simp only [mayR]
        have : l.all P = false := by
          rw [List.all_eq_false]
          exact ⟨x, hx ▸ getD_mem hk', by simpa using hb⟩
        rw [this]; simp
    · simp (maxSteps := 2000000) (disch := omega) only [F1, ↓Int.cast_ofNat_Int, ↓R1, R2, C1, P1, O1, V1, V2, V3, reduceCtorEq, Nat.reduceEqDiff, Nat.reduceBEq, Nat.reduceAdd, Nat.reduceSub, Nat.reduceMul, Nat.reduceLeDiff, Nat.reduceLT, Int.reduceEq, Int.reduceAdd, Int.reduceSub, Int.reduceMul, Int.reduceLT, Int.reduceLE, Int.reduceNeg, Int.reduceToNat, wrap_i64, wrap_u64, wrap_u8, wrap_u16, wrap_u32, wrap_i32, base_get0, base_get, base_set0, base_set, base_take, take_self, take_app1, take_pre hN hp]
      refine ret_eq (congrArg _ ?_) rfl
      have h1 : l.length ≤ 64 := by omega
      have : l.all P = true := by
        rw [List.all_eq_true]
        intro x hx
        obtain ⟨j, hj, rfl⟩ := List.getElem_of_mem hx
        have := hi j (by omega)
        rwa [List.getD_eq_getElem?_getD, List.getElem?_eq_getElem hj] at this
      simp only [mayR, h1, this, decide_true, Bool.and_self]
      exact this.symm

end Go.Proofs.YtoolhdikfdjikaaDoor

/- Words of operations; decimal digits; the reference's text of a program. -/
namespace Go.Proofs.YtoolhdikfdjikaaDoor
open Go Go.Den
set_option maxRecDepth 10000

def wordS (op : Nat) : List UInt8 := wordsL.getD op []

theorem glob_words : X.glob g_asm_words = some (wordsL.map S) := rfl
theorem words_at {i : Nat} (h : i < 39) : (wordsL.map S)[i]? = some (S (wordS i)) := by
  rw [List.getElem?_map, wordS, List.getD_eq_getElem?_getD, List.getElem?_eq_getElem (by exact h)]
  rfl

theorem Word_D (a : Int) (h : 0 ≤ a) (h' : a ≤ 255) (H : List AObj) (lo : Option Nat) : D X (.fn (.func fn_asm_Word) [] []) [.int .u8 a] ⟨H, lo⟩ = some (.ret (.tup [S (wordS a.toNat), .bool (decide (wordS a.toNat ≠ []))]) ⟨H, lo⟩) := by
  refine D_fn pf_asm_Word rfl rfl rfl fun N hN => ?_
  simp (maxSteps := 2000000) (disch := omega) only [R4, F1, ↓Int.cast_ofNat_Int, ↓R1, R2, C1, P1, O1, V1, V2, V3, reduceCtorEq, Nat.reduceEqDiff, Nat.reduceBEq, Nat.reduceAdd, Nat.reduceSub, Nat.reduceMul, Nat.reduceLeDiff, Nat.reduceLT, Int.reduceEq, Int.reduceAdd, Int.reduceSub, Int.reduceMul, Int.reduceLT, Int.reduceLE, Int.reduceNeg, Int.reduceToNat, wrap_i64, wrap_u64, wrap_u8, wrap_u16, wrap_u32, wrap_i32, base_get0, base_get, base_set0, base_set, base_take, take_self, take_app1, pf_asm_Word]
  refine ⟨fun h => ?_, fun h => ?_⟩
  · have : wordS a.toNat = [] := by
      rw [wordS, List.getD_eq_getElem?_getD, List.getElem?_eq_none]; rfl
      show 39 ≤ _; omega
    simp [this]
  · have e := words_at (i := a.toNat) (by omega)
    simp (maxSteps := 2000000) (disch := omega) only [condK_dec, F1, ↓Int.cast_ofNat_Int, ↓R1, R2, C1, P1, O1, V1, V2, V3, reduceCtorEq, Nat.reduceEqDiff, Nat.reduceBEq, Nat.reduceAdd, Nat.reduceSub, Nat.reduceMul, Nat.reduceLeDiff, Nat.reduceLT, Int.reduceEq, Int.reduceAdd, Int.reduceSub, Int.reduceMul, Int.reduceLT, Int.reduceLE, Int.reduceNeg, Int.reduceToNat, wrap_i64, wrap_u64, wrap_u8, wrap_u16, wrap_u32, wrap_i32, base_get0, base_get, base_set0, base_set, base_take, take_self, take_app1, glob_words, e]
    refine ⟨by omega, fun h => ?_, fun h => ?_⟩
    · simp [h]
    · refine ⟨by omega, ?_⟩
      simp [h]

theorem refWord_D (a : Int) (H : List AObj) (lo : Option Nat) : D X (.fn (.func fn_ref23_Word) [] []) [.int .i64 a] ⟨H, lo⟩ = some (.ret (S (if 0 ≤ a then wordS a.toNat else [])) ⟨H, lo⟩) := by
  refine D_fn pf_ref23_Word rfl rfl rfl fun N hN => ?_
  by_cases h1 : (0 ≤ a ∧ a < 7) ∨ (17 ≤ a ∧ a < 39)
  · rcases h1 with h1 | h1
    · simp (maxSteps := 2000000) (disch := omega) only [R4, F1, ↓Int.cast_ofNat_Int, ↓R1, R2, C1, P1, O1, V1, V2, V3, reduceCtorEq, Nat.reduceEqDiff, Nat.reduceBEq, Nat.reduceAdd, Nat.reduceSub, Nat.reduceMul, Nat.reduceLeDiff, Nat.reduceLT, Int.reduceEq, Int.reduceAdd, Int.reduceSub, Int.reduceMul, Int.reduceLT, Int.reduceLE, Int.reduceNeg, Int.reduceToNat, wrap_i64, wrap_u64, wrap_u8, wrap_u16, wrap_u32, wrap_i32, base_get0, base_get, base_set0, base_set, base_take, take_self, take_app1, pf_ref23_Word, h1.1, h1.2]
      have c : a = 0 ∨ a = 1 ∨ a = 2 ∨ a = 3 ∨ a = 4 ∨ a = 5 ∨ a = 6 := by omega
      rcases c with rfl | rfl | rfl | rfl | rfl | rfl | rfl
      all_goals simp (maxSteps := 2000000) (disch := omega) only [F1, ↓Int.cast_ofNat_Int, ↓R1, R2, C1, P1, O1, V1, V2, V3, reduceCtorEq, Nat.reduceEqDiff, Nat.reduceBEq, Nat.reduceAdd, Nat.reduceSub, Nat.reduceMul, Nat.reduceLeDiff, Nat.reduceLT, Int.reduceEq, Int.reduceAdd, Int.reduceSub, Int.reduceMul, Int.reduceLT, Int.reduceLE, Int.reduceNeg, Int.reduceToNat, wrap_i64, wrap_u64, wrap_u8, wrap_u16, wrap_u32, wrap_i32, base_get0, base_get, base_set0, base_set, base_take, take_self, take_app1]
      all_goals first | rfl | exact ⟨by decide, rfl⟩
    · have h2 : 0 ≤ a := by omega
      have h3 : ¬ a < 7 := by omega
      simp (maxSteps := 2000000) (disch := omega) only [R4, F1, ↓Int.cast_ofNat_Int, ↓R1, R2, C1, P1, O1, V1, V2, V3, reduceCtorEq, Nat.reduceEqDiff, Nat.reduceBEq, Nat.reduceAdd, Nat.reduceSub, Nat.reduceMul, Nat.reduceLeDiff, Nat.reduceLT, Int.reduceEq, Int.reduceAdd, Int.reduceSub, Int.reduceMul, Int.reduceLT, Int.reduceLE, Int.reduceNeg, Int.reduceToNat, wrap_i64, wrap_u64, wrap_u8, wrap_u16, wrap_u32, wrap_i32, base_get0, base_get, base_set0, base_set, base_take, take_self, take_app1, pf_ref23_Word, h1.1, h1.2, h2, h3]
      have c : a = 17 ∨ a = 18 ∨ a = 19 ∨ a = 20 ∨ a = 21 ∨ a = 22 ∨ a = 23 ∨ a = 24 ∨ a = 25 ∨ a = 26 ∨ a = 27 ∨ a = 28 ∨ a = 29 ∨ a = 30 ∨ a = 31 ∨ a = 32 ∨ a = 33 ∨ a = 34 ∨ a = 35 ∨ a = 36 ∨ a = 37 ∨ a = 38 := by omega
      rcases c with rfl | rfl | rfl | rfl | rfl | rfl | rfl | rfl | rfl | rfl | rfl | rfl | rfl | rfl | rfl | rfl | rfl | rfl | rfl | rfl | rfl | rfl
      all_goals simp (maxSteps := 2000000) (disch := omega) only [F1, ↓Int.cast_ofNat_Int, ↓R1, R2, C1, P1, O1, V1, V2, V3, reduceCtorEq, Nat.reduceEqDiff, Nat.reduceBEq, Nat.reduceAdd, Nat.reduceSub, Nat.reduceMul, Nat.reduceLeDiff, Nat.reduceLT, Int.reduceEq, Int.reduceAdd, Int.reduceSub, Int.reduceMul, Int.reduceLT, Int.reduceLE, Int.reduceNeg, Int.reduceToNat, wrap_i64, wrap_u64, wrap_u8, wrap_u16, wrap_u32, wrap_i32, base_get0, base_get, base_set0, base_set, base_take, take_self, take_app1, Int.reduceSub]
      all_goals first | rfl | exact ⟨by decide, rfl⟩
  · have e : (if 0 ≤ a then wordS a.toNat else []) = [] := by
      split
      · by_cases h2 : a.toNat < 39
        · have c : a.toNat = 7 ∨ a.toNat = 8 ∨ a.toNat = 9 ∨ a.toNat = 10 ∨ a.toNat = 11 ∨ a.toNat = 12 ∨ a.toNat = 13 ∨ a.toNat = 14 ∨ a.toNat = 15 ∨ a.toNat = 16 := by omega
          rcases c with c | c | c | c | c | c | c | c | c | c <;> rw [c] <;> rfl
        · rw [wordS, List.getD_eq_getElem?_getD, List.getElem?_eq_none]
          · rfl
          · show 39 ≤ _; omega
      · rfl
    rw [e]
    simp (maxSteps := 2000000) (disch := omega) only [R4, F1, ↓Int.cast_ofNat_Int, ↓R1, R2, C1, P1, O1, V1, V2, V3, reduceCtorEq, Nat.reduceEqDiff, Nat.reduceBEq, Nat.reduceAdd, Nat.reduceSub, Nat.reduceMul, Nat.reduceLeDiff, Nat.reduceLT, Int.reduceEq, Int.reduceAdd, Int.reduceSub, Int.reduceMul, Int.reduceLT, Int.reduceLE, Int.reduceNeg, Int.reduceToNat, wrap_i64, wrap_u64, wrap_u8, wrap_u16, wrap_u32, wrap_i32, base_get0, base_get, base_set0, base_set, base_take, take_self, take_app1, pf_ref23_Word]
    (repeat' (first | apply And.intro | intro _))
    all_goals first | omega | rfl | trivial

def digits (n : Nat) : List UInt8 := if h : n < 10 then [(48 + n).toUInt8] else digits (n / 10) ++ digits (n % 10)
termination_by n
decreasing_by all_goals omega

theorem digits_len (n : Nat) : (digits n).length ≤ n + 1 := by
  induction n using Nat.strongRecOn with
  | _ n ih =>
    rw [digits]
    split
    · simp
    · have := ih (n / 10) (by omega)
      have := ih (n % 10) (by omega)
      simp; omega

theorem digit_take : ∀ n : Nat, n < 10 → List.drop n (List.take (n+1) [48, 49, 50, 51, 52, 53, 54, 55, 56, 57]) = [(48 + n).toUInt8] := by decide

theorem digits_D (a : Int) (h0 : 0 ≤ a) (h1 : a < 2^59) (H : List AObj) (lo : Option Nat) : D X (.fn (.func fn_ref23_digits) [] []) [.int .i64 a] ⟨H, lo⟩ = some (.ret (S (digits a.toNat)) ⟨H, lo⟩) := by
  obtain ⟨n, rfl⟩ := Int.eq_ofNat_of_zero_le h0
  simp only [Int.toNat_natCast]
  induction n using Nat.strongRecOn generalizing H lo with
  | _ n ih =>
  refine D_fn pf_ref23_digits rfl rfl rfl ?_
  intro N hN
  simp (maxSteps := 2000000) (disch := omega) only [condK_dec, F1, ↓Int.cast_ofNat_Int, ↓R1, R2, C1, P1, O1, V1, V2, V3, reduceCtorEq, Nat.reduceEqDiff, Nat.reduceBEq, Nat.reduceAdd, Nat.reduceSub, Nat.reduceMul, Nat.reduceLeDiff, Nat.reduceLT, Int.reduceEq, Int.reduceAdd, Int.reduceSub, Int.reduceMul, Int.reduceLT, Int.reduceLE, Int.reduceNeg, Int.reduceToNat, wrap_i64, wrap_u64, wrap_u8, wrap_u16, wrap_u32, wrap_i32, base_get0, base_get, base_set0, base_set, base_take, take_self, take_app1, pf_ref23_digits, Int.tdiv_eq_ediv_of_nonneg, Int.tmod_eq_emod_of_nonneg]
  refine ⟨fun h => ⟨by omega, ?_⟩, fun h => ?_⟩
  · rw [digits, dif_pos (by omega), ← digit_take n (by omega)]
    rfl
  · rw [show (n : Int) / 10 = ((n / 10 : Nat) : Int) by omega, ih (n / 10) (by omega) _ _ (by omega) (by omega)]
    simp (maxSteps := 2000000) (disch := omega) only [F1, ↓Int.cast_ofNat_Int, ↓R1, R2, C1, P1, O1, V1, V2, V3, reduceCtorEq, Nat.reduceEqDiff, Nat.reduceBEq, Nat.reduceAdd, Nat.reduceSub, Nat.reduceMul, Nat.reduceLeDiff, Nat.reduceLT, Int.reduceEq, Int.reduceAdd, Int.reduceSub, Int.reduceMul, Int.reduceLT, Int.reduceLE, Int.reduceNeg, Int.reduceToNat, wrap_i64, wrap_u64, wrap_u8, wrap_u16, wrap_u32, wrap_i32, base_get0, base_get, base_set0, base_set, base_take, take_self, take_app1, Int.tdiv_eq_ediv_of_nonneg, Int.tmod_eq_emod_of_nonneg]
    rw [show (n : Int) % 10 = ((n % 10 : Nat) : Int) by omega, ih (n % 10) (by omega) _ _ (by omega) (by omega)]
    simp (maxSteps := 2000000) (disch := omega) only [F1, ↓Int.cast_ofNat_Int, ↓R1, R2, C1, P1, O1, V1, V2, V3, reduceCtorEq, Nat.reduceEqDiff, Nat.reduceBEq, Nat.reduceAdd, Nat.reduceSub, Nat.reduceMul, Nat.reduceLeDiff, Nat.reduceLT, Int.reduceEq, Int.reduceAdd, Int.reduceSub, Int.reduceMul, Int.reduceLT, Int.reduceLE, Int.reduceNeg, Int.reduceToNat, wrap_i64, wrap_u64, wrap_u8, wrap_u16, wrap_u32, wrap_i32, base_get0, base_get, base_set0, base_set, base_take, take_self, take_app1]
    have := digits_len (n / 10)
    have := digits_len (n % 10)
    refine ⟨by unfold strRoom; omega, ?_⟩
    rw [digits.eq_def n, dif_neg (by omega)]

def lineS (l : List Instr) (i : Nat) (x : Instr) : List UInt8 :=
  (if l.any (fun y => goes y.op && decide (y.n = i)) then [108] ++ digits i ++ [58, 10] else []) ++ (wordS x.op ++ ([32, 114] ++ (digits x.a ++ ([32, 114] ++ (digits x.b ++ ([32, 114] ++ (digits x.c ++ ([32] ++ ((if goes x.op then [108] else []) ++ (digits x.n ++ [10]))))))))))

def printS (l : List Instr) : Nat → List UInt8
  | 0 => []
  | k + 1 => printS l k ++ lineS l k (l.getD k default)

theorem wordS_len (op : Nat) : (wordS op).length ≤ 7 := by
  by_cases h : op < 39
  · have : ∀ op, op < 39 → (wordS op).length ≤ 7 := by decide
    exact this op h
  · rw [wordS, List.getD_eq_getElem?_getD, List.getElem?_eq_none]
    · exact Nat.zero_le _
    · show 39 ≤ _; omega

theorem lineS_len (l : List Instr) (i : Nat) (x : Instr) (hx : x.wf) (hi : i < 100000) : (lineS l i x).length ≤ 1000000 := by
  obtain ⟨h1, h2, h3, h4, h5⟩ := hx
  have := wordS_len x.op
  have := digits_len i
  have := digits_len x.a
  have := digits_len x.b
  have := digits_len x.c
  have := digits_len x.n
  unfold lineS
  simp only [List.length_append, List.length_cons, List.length_nil]
  split <;> split <;> simp <;> omega

theorem printS_len (l : List Instr) (hw : ∀ x ∈ l, x.wf) (hl : l.length < 100000) : ∀ k, k ≤ l.length → (printS l k).length ≤ k * 1000000
  | 0, _ => by simp [printS]
  | k + 1, h => by
    have h1 := printS_len l hw hl k (by omega)
    have h2 := lineS_len l k (l.getD k default) (hw _ (getD_mem (by omega))) (by omega)
    simp only [printS, List.length_append]; omega

theorem any_take_succ {α : Type} [Inhabited α] {l : List α} {k : Nat} (h : k < l.length) (p : α → Bool) : (l.take (k + 1)).any p = ((l.take k).any p || p (l.getD k default)) := by
  rw [take_succ_getD h, List.any_append]; simp

theorem refPrint_D (v : AV) (l : List Instr) (hw : ∀ x ∈ l, x.wf) (hv : Rv v 5 (l.map J5)) (hl : l.length < 100000) (H : List AObj) (lo : Option Nat) : D X (.fn (.func fn_ref23_Print) [] []) [v] ⟨H, lo⟩ = some (.ret (S (printS l l.length)) ⟨H, lo⟩) := by
  refine D_fn pf_ref23_Print rfl rfl rfl fun N hN => ?_
  simp (maxSteps := 2000000) (disch := omega) only [condK_dec, F1, ↓Int.cast_ofNat_Int, ↓R1, R2, C1, P1, O1, V1, V2, V3, reduceCtorEq, Nat.reduceEqDiff, Nat.reduceBEq, Nat.reduceAdd, Nat.reduceSub, Nat.reduceMul, Nat.reduceLeDiff, Nat.reduceLT, Int.reduceEq, Int.reduceAdd, Int.reduceSub, Int.reduceMul, Int.reduceLT, Int.reduceLE, Int.reduceNeg, Int.reduceToNat, wrap_i64, wrap_u64, wrap_u8, wrap_u16, wrap_u32, wrap_i32, base_get0, base_get, base_set0, base_set, base_take, take_self, take_app1, pf_ref23_Print]
  refine wp_loopN l.length (fun k e H' => H <+: H' ∧ e 0 = v ∧ e 3 = S (printS l k) ∧ e 4 = .int .i64 k) 0 (by omega) ?_ ?_
  · simp (maxSteps := 2000000) (disch := omega) only [F1, ↓Int.cast_ofNat_Int, ↓R1, R2, C1, P1, O1, V1, V2, V3, reduceCtorEq, Nat.reduceEqDiff, Nat.reduceBEq, Nat.reduceAdd, Nat.reduceSub, Nat.reduceMul, Nat.reduceLeDiff, Nat.reduceLT, Int.reduceEq, Int.reduceAdd, Int.reduceSub, Int.reduceMul, Int.reduceLT, Int.reduceLE, Int.reduceNeg, Int.reduceToNat, wrap_i64, wrap_u64, wrap_u8, wrap_u16, wrap_u32, wrap_i32, base_get0, base_get, base_set0, base_set, base_take, take_self, take_app1, printS]
    exact List.prefix_rfl
  rintro k hk e H' ⟨hp, h0, h3, h4⟩ n hn
  simp (maxSteps := 2000000) (disch := omega) only [condK_dec, F1, ↓Int.cast_ofNat_Int, ↓R1, R2, C1, P1, O1, V1, V2, V3, reduceCtorEq, Nat.reduceEqDiff, Nat.reduceBEq, Nat.reduceAdd, Nat.reduceSub, Nat.reduceMul, Nat.reduceLeDiff, Nat.reduceLT, Int.reduceEq, Int.reduceAdd, Int.reduceSub, Int.reduceMul, Int.reduceLT, Int.reduceLE, Int.reduceNeg, Int.reduceToNat, wrap_i64, wrap_u64, wrap_u8, wrap_u16, wrap_u32, wrap_i32, base_get0, base_get, base_set0, base_set, base_take, take_self, take_app1, l1_ref23_Print, h0, h3, h4, hv.lenM]
  refine ⟨fun h => ?_, fun h => ?_⟩
  · have hk' : k < l.length := by omega
    let P := fun y : Instr => goes y.op && decide (y.n = k)
    refine wp_loopN l.length (fun j e H'' => H'' = H' ∧ e 0 = v ∧ e 3 = S (printS l k) ∧ e 4 = .int .i64 k ∧ e 5 = .bool ((l.take j).any P) ∧ e 6 = .int .i64 j) 0 (by omega) ?_ ?_
    · simp (maxSteps := 2000000) (disch := omega) only [F1, ↓Int.cast_ofNat_Int, ↓R1, R2, C1, P1, O1, V1, V2, V3, reduceCtorEq, Nat.reduceEqDiff, Nat.reduceBEq, Nat.reduceAdd, Nat.reduceSub, Nat.reduceMul, Nat.reduceLeDiff, Nat.reduceLT, Int.reduceEq, Int.reduceAdd, Int.reduceSub, Int.reduceMul, Int.reduceLT, Int.reduceLE, Int.reduceNeg, Int.reduceToNat, wrap_i64, wrap_u64, wrap_u8, wrap_u16, wrap_u32, wrap_i32, base_get0, base_get, base_set0, base_set, base_take, take_self, take_app1, h0, h3, h4]
      simp
    · rintro j hj e H'' ⟨rfl, h0, h3, h4, h5, h6⟩ n' hn'
      simp (maxSteps := 2000000) (disch := omega) only [condK_dec, F1, ↓Int.cast_ofNat_Int, ↓R1, R2, C1, P1, O1, V1, V2, V3, reduceCtorEq, Nat.reduceEqDiff, Nat.reduceBEq, Nat.reduceAdd, Nat.reduceSub, Nat.reduceMul, Nat.reduceLeDiff, Nat.reduceLT, Int.reduceEq, Int.reduceAdd, Int.reduceSub, Int.reduceMul, Int.reduceLT, Int.reduceLE, Int.reduceNeg, Int.reduceToNat, wrap_i64, wrap_u64, wrap_u8, wrap_u16, wrap_u32, wrap_i32, base_get0, base_get, base_set0, base_set, base_take, take_self, take_app1, l2_ref23_Print, h0, h3, h4, h5, h6, hv.lenM]
      refine ⟨fun h => ?_, fun h => ?_⟩
      · have hj' : j < l.length := by omega
        generalize hx : l.getD j default = x
        refine gK_keep 5 (.bool ((l.take (j + 1)).any P)) [0, 3, 4, 6] rfl rfl ?_ fun e0 => ?_
        · rw [gK_any]
          refine ⟨fun hb => ?_, fun hb => ?_⟩
          all_goals simp (maxSteps := 2000000) (disch := omega) only [R4, F1, ↓Int.cast_ofNat_Int, ↓R1, R2, C1, P1, O1, V1, V2, V3, reduceCtorEq, Nat.reduceEqDiff, Nat.reduceBEq, Nat.reduceAdd, Nat.reduceSub, Nat.reduceMul, Nat.reduceLeDiff, Nat.reduceLT, Int.reduceEq, Int.reduceAdd, Int.reduceSub, Int.reduceMul, Int.reduceLT, Int.reduceLE, Int.reduceNeg, Int.reduceToNat, wrap_i64, wrap_u64, wrap_u8, wrap_u16, wrap_u32, wrap_i32, base_get0, base_get, base_set0, base_set, base_take, take_self, take_app1, h0, h4, h5, h6, hv.addrM, hv.loadM, hv.faddrM, J5, hx]
          all_goals (repeat' (first | apply And.intro | intro _))
          all_goals first | omega | (rw [any_take_succ hj', hx, hb]; (refine congrArg AV.bool (Bool.eq_iff_iff.2 ?_); simp [P, goes]; try (intros; omega)))
        · simp (maxSteps := 2000000) (disch := omega) only [F1, ↓Int.cast_ofNat_Int, ↓R1, R2, C1, P1, O1, V1, V2, V3, reduceCtorEq, Nat.reduceEqDiff, Nat.reduceBEq, Nat.reduceAdd, Nat.reduceSub, Nat.reduceMul, Nat.reduceLeDiff, Nat.reduceLT, Int.reduceEq, Int.reduceAdd, Int.reduceSub, Int.reduceMul, Int.reduceLT, Int.reduceLE, Int.reduceNeg, Int.reduceToNat, wrap_i64, wrap_u64, wrap_u8, wrap_u16, wrap_u32, wrap_i32, base_get0, base_get, base_set0, base_set, base_take, take_self, take_app1, h0, h3, h4, h6]
          exact hj'
      · have e1 : l.take j = l := List.take_of_length_le (by omega)
        rw [e1]
        have hb := printS_len l hw hl k (by omega)
        have hd := digits_len k
        refine condK_keep 3 (S (printS l k ++ (if l.any P then [108] ++ digits k ++ [58, 10] else []))) [0, 4] rfl ?_ fun e0 => ?_
        · rw [condK_any]
          refine ⟨fun ha => ?_, fun ha => ?_⟩
          · rw [ha]
            simp (maxSteps := 2000000) (disch := omega) only [F1, ↓Int.cast_ofNat_Int, ↓R1, R2, C1, P1, O1, V1, V2, V3, reduceCtorEq, Nat.reduceEqDiff, Nat.reduceBEq, Nat.reduceAdd, Nat.reduceSub, Nat.reduceMul, Nat.reduceLeDiff, Nat.reduceLT, Int.reduceEq, Int.reduceAdd, Int.reduceSub, Int.reduceMul, Int.reduceLT, Int.reduceLE, Int.reduceNeg, Int.reduceToNat, wrap_i64, wrap_u64, wrap_u8, wrap_u16, wrap_u32, wrap_i32, base_get0, base_get, base_set0, base_set, base_take, take_self, take_app1, h3, h4, digits_D k]
            unfold strRoom; omega
          · rw [ha]
            simp (maxSteps := 2000000) (disch := omega) only [F1, ↓Int.cast_ofNat_Int, ↓R1, R2, C1, P1, O1, V1, V2, V3, reduceCtorEq, Nat.reduceEqDiff, Nat.reduceBEq, Nat.reduceAdd, Nat.reduceSub, Nat.reduceMul, Nat.reduceLeDiff, Nat.reduceLT, Int.reduceEq, Int.reduceAdd, Int.reduceSub, Int.reduceMul, Int.reduceLT, Int.reduceLE, Int.reduceNeg, Int.reduceToNat, wrap_i64, wrap_u64, wrap_u8, wrap_u16, wrap_u32, wrap_i32, base_get0, base_get, base_set0, base_set, base_take, take_self, take_app1, h3]
        · generalize hx : l.getD k default = x
          obtain ⟨w1, w2, w3, w4, w5⟩ := hw _ (getD_mem hk')
          rw [hx] at w1 w2 w3 w4 w5
          have hm : (if l.any P = true then [108] ++ digits k ++ [58, 10] else []).length ≤ k + 4 := by
            split
            · simp; omega
            · simp
          obtain ⟨m, hq⟩ : ∃ m, m = (if l.any P = true then [108] ++ digits k ++ [58, 10] else []) := ⟨_, rfl⟩
          rw [← hq] at hm ⊢
          have l1 := wordS_len x.op
          have l2 := digits_len x.a
          have l3 := digits_len x.b
          have l4 := digits_len x.c
          have l5 := digits_len x.n
          simp (maxSteps := 2000000) (disch := omega) only [F1, ↓Int.cast_ofNat_Int, ↓R1, R2, C1, P1, O1, V1, V2, V3, reduceCtorEq, Nat.reduceEqDiff, Nat.reduceBEq, Nat.reduceAdd, Nat.reduceSub, Nat.reduceMul, Nat.reduceLeDiff, Nat.reduceLT, Int.reduceEq, Int.reduceAdd, Int.reduceSub, Int.reduceMul, Int.reduceLT, Int.reduceLE, Int.reduceNeg, Int.reduceToNat, wrap_i64, wrap_u64, wrap_u8, wrap_u16, wrap_u32, wrap_i32, base_get0, base_get, base_set0, base_set, base_take, take_self, take_app1, h0, h4, hv.addrM, hv.loadM, J5, hx, hn', refWord_D, digits_D]
          iterate 9 (refine ⟨by first | omega | (unfold strRoom; omega), ?_⟩)
          refine gK_keep 85 (.bool (goes x.op)) [0, 3, 4, 7] rfl rfl ?_ fun e1 => ?_
          · simp (maxSteps := 2000000) (disch := omega) only [R4, F1, ↓Int.cast_ofNat_Int, ↓R1, R2, C1, P1, O1, V1, V2, V3, reduceCtorEq, Nat.reduceEqDiff, Nat.reduceBEq, Nat.reduceAdd, Nat.reduceSub, Nat.reduceMul, Nat.reduceLeDiff, Nat.reduceLT, Int.reduceEq, Int.reduceAdd, Int.reduceSub, Int.reduceMul, Int.reduceLT, Int.reduceLE, Int.reduceNeg, Int.reduceToNat, wrap_i64, wrap_u64, wrap_u8, wrap_u16, wrap_u32, wrap_i32, base_get0, base_get, base_set0, base_set, base_take, take_self, take_app1, hn']
            (repeat' (first | apply And.intro | intro _))
            all_goals (refine congrArg AV.bool (Bool.eq_iff_iff.2 ?_); simp [goes]; try (intros; omega))
          simp (maxSteps := 2000000) (disch := omega) only [F1, ↓Int.cast_ofNat_Int, ↓R1, R2, C1, P1, O1, V1, V2, V3, reduceCtorEq, Nat.reduceEqDiff, Nat.reduceBEq, Nat.reduceAdd, Nat.reduceSub, Nat.reduceMul, Nat.reduceLeDiff, Nat.reduceLT, Int.reduceEq, Int.reduceAdd, Int.reduceSub, Int.reduceMul, Int.reduceLT, Int.reduceLE, Int.reduceNeg, Int.reduceToNat, wrap_i64, wrap_u64, wrap_u8, wrap_u16, wrap_u32, wrap_i32, base_get0, base_get, base_set0, base_set, base_take, take_self, take_app1, h0, h4]
          refine condK_keep 3 (S (printS l k ++ (m ++ (wordS x.op ++ ([32, 114] ++ (digits x.a ++ ([32, 114] ++ (digits x.b ++ ([32, 114] ++ (digits x.c ++ ([32] ++ (if goes x.op then [108] else [])))))))))))) [0, 4, 7] rfl ?_ fun e2 => ?_
          · rw [condK_any]
            refine ⟨fun ha => ?_, fun ha => ?_⟩
            · rw [ha]
              simp (maxSteps := 2000000) (disch := omega) only [F1, ↓Int.cast_ofNat_Int, ↓R1, R2, C1, P1, O1, V1, V2, V3, reduceCtorEq, Nat.reduceEqDiff, Nat.reduceBEq, Nat.reduceAdd, Nat.reduceSub, Nat.reduceMul, Nat.reduceLeDiff, Nat.reduceLT, Int.reduceEq, Int.reduceAdd, Int.reduceSub, Int.reduceMul, Int.reduceLT, Int.reduceLE, Int.reduceNeg, Int.reduceToNat, wrap_i64, wrap_u64, wrap_u8, wrap_u16, wrap_u32, wrap_i32, base_get0, base_get, base_set0, base_set, base_take, take_self, take_app1]
              unfold strRoom; omega
            · rw [ha]
              simp (maxSteps := 2000000) (disch := omega) only [F1, ↓Int.cast_ofNat_Int, ↓R1, R2, C1, P1, O1, V1, V2, V3, reduceCtorEq, Nat.reduceEqDiff, Nat.reduceBEq, Nat.reduceAdd, Nat.reduceSub, Nat.reduceMul, Nat.reduceLeDiff, Nat.reduceLT, Int.reduceEq, Int.reduceAdd, Int.reduceSub, Int.reduceMul, Int.reduceLT, Int.reduceLE, Int.reduceNeg, Int.reduceToNat, wrap_i64, wrap_u64, wrap_u8, wrap_u16, wrap_u32, wrap_i32, base_get0, base_get, base_set0, base_set, base_take, take_self, take_app1]
          obtain ⟨g, hg⟩ : ∃ g, g = (if goes x.op = true then [(108 : UInt8)] else []) := ⟨_, rfl⟩
          have l6 : g.length ≤ 1 := by rw [hg]; split <;> simp
          rw [← hg]
          simp (maxSteps := 2000000) (disch := omega) only [F1, ↓Int.cast_ofNat_Int, ↓R1, R2, C1, P1, O1, V1, V2, V3, reduceCtorEq, Nat.reduceEqDiff, Nat.reduceBEq, Nat.reduceAdd, Nat.reduceSub, Nat.reduceMul, Nat.reduceLeDiff, Nat.reduceLT, Int.reduceEq, Int.reduceAdd, Int.reduceSub, Int.reduceMul, Int.reduceLT, Int.reduceLE, Int.reduceNeg, Int.reduceToNat, wrap_i64, wrap_u64, wrap_u8, wrap_u16, wrap_u32, wrap_i32, base_get0, base_get, base_set0, base_set, base_take, take_self, take_app1, h0, h4, hn', digits_D]
          refine ⟨by unfold strRoom; omega, by unfold strRoom; omega, hk', hp.trans (List.prefix_append _ _), congrArg S ?_⟩
          simp only [printS, hx]
          congr 1
          unfold lineS
          rw [← hg, hq]
          simp [P]
  · have e1 : l.length = k := by omega
    rw [e1]
    simp (maxSteps := 2000000) (disch := omega) only [F1, ↓Int.cast_ofNat_Int, ↓R1, R2, C1, P1, O1, V1, V2, V3, reduceCtorEq, Nat.reduceEqDiff, Nat.reduceBEq, Nat.reduceAdd, Nat.reduceSub, Nat.reduceMul, Nat.reduceLeDiff, Nat.reduceLT, Int.reduceEq, Int.reduceAdd, Int.reduceSub, Int.reduceMul, Int.reduceLT, Int.reduceLE, Int.reduceNeg, Int.reduceToNat, wrap_i64, wrap_u64, wrap_u8, wrap_u16, wrap_u32, wrap_i32, base_get0, base_get, base_set0, base_set, base_take, take_self, take_app1, take_pre hN hp, h3]

end Go.Proofs.YtoolhdikfdjikaaDoor

/- Numbers as text: strconv. -/
namespace Go.Proofs.YtoolhdikfdjikaaDoor
open Go Go.Den
set_option maxRecDepth 10000

theorem shr_lit {k k' : IntKind} {a : Int} (s : Nat) (h : s ≤ k.bits) : shfA .shr (.int k a) (.int k' (s : Int)) = some (.int k (a / ((2 ^ s : Nat) : Int))) := by
  rw [shf_shr, if_pos (Int.natCast_nonneg s)]
  have : min (s : Int).toNat k.bits = s := by rw [Int.toNat_natCast]; omega
  rw [this]
  congr 2
  rw [show ((2 : Int) ^ s) = ((2 ^ s : Nat) : Int) by push_cast; rfl]
  exact Int.fdiv_eq_ediv_of_nonneg _ (Int.natCast_nonneg _)

def len8 (x : Nat) : Nat := (str_11c1601c.getD x 0).toNat
theorem len8_ok : ∀ x, x < 256 → len8 x ≤ 8 ∧ x < 2 ^ len8 x ∧ (x ≠ 0 → 2 ^ len8 x ≤ 2 * x) ∧ (x = 0 → len8 x = 0) := by decide
theorem len8_size : str_11c1601c.length = 256 := by decide

def isLen (a : Int) (b : Nat) : Prop := b ≤ 64 ∧ a < 2 ^ b ∧ (a ≠ 0 → 2 ^ b ≤ 2 * a) ∧ (a = 0 → b = 0)

theorem isLen_step {a : Int} {s : Nat} {x : Nat} (h0 : 0 ≤ a) (hx : a / ((2 ^ s : Nat) : Int) = x) (h1 : x < 256) (hs : s ≤ 56) (hp : s = 0 ∨ 0 < x) : isLen a (s + len8 x) := by
  obtain ⟨e1, e2, e3, e4⟩ := len8_ok x h1
  have hpow : (0 : Int) < ((2 ^ s : Nat) : Int) := by exact_mod_cast Nat.two_pow_pos s
  have hd := Int.emod_def a ((2 ^ s : Nat) : Int)
  have hm0 := Int.emod_nonneg a (Int.ne_of_gt hpow)
  have hm1 := Int.emod_lt_of_pos a hpow
  rw [hx] at hd
  refine ⟨by omega, ?_, ?_, ?_⟩
  · have : (x : Int) + 1 ≤ 2 ^ len8 x := by exact_mod_cast e2
    have h2 : ((2 ^ s : Nat) : Int) * (x + 1) ≤ ((2 ^ s : Nat) : Int) * 2 ^ len8 x := Int.mul_le_mul_of_nonneg_left this (Int.le_of_lt hpow)
    have h3 : (2 : Int) ^ (s + len8 x) = ((2 ^ s : Nat) : Int) * 2 ^ len8 x := by rw [Int.pow_add]; push_cast; rfl
    rw [h3]
    have h4 : ((2 ^ s : Nat) : Int) * (x + 1) = ((2 ^ s : Nat) : Int) * x + ((2 ^ s : Nat) : Int) := by rw [Int.mul_add, Int.mul_one]
    omega
  · intro ha
    have hx0 : x ≠ 0 := by
      rintro rfl
      rcases hp with hp | hp
      · subst hp; simp at hd hm1; omega
      · omega
    have : (2 : Int) ^ len8 x ≤ 2 * x := by exact_mod_cast e3 hx0
    have h2 : ((2 ^ s : Nat) : Int) * 2 ^ len8 x ≤ ((2 ^ s : Nat) : Int) * (2 * x) := Int.mul_le_mul_of_nonneg_left this (Int.le_of_lt hpow)
    have h3 : (2 : Int) ^ (s + len8 x) = ((2 ^ s : Nat) : Int) * 2 ^ len8 x := by rw [Int.pow_add]; push_cast; rfl
    rw [h3]
    have h4 : ((2 ^ s : Nat) : Int) * (2 * x) = 2 * (((2 ^ s : Nat) : Int) * x) := by rw [Int.mul_left_comm]
    omega
  · rintro rfl
    simp at hx
    have hx0 : x = 0 := by omega
    rcases hp with hp | hp
    · rw [hp, e4 hx0]
    · omega

set_option maxHeartbeats 1000000 in
theorem Len64_D (a : Int) (h0 : 0 ≤ a) (h1 : a < 18446744073709551616) (H : List AObj) (lo : Option Nat) : ∃ b : Nat, D X (.fn (.func fn_math_bits_Len64) [] []) [.int .u64 a] ⟨H, lo⟩ = some (.ret (.int .i64 b) ⟨H, lo⟩) ∧ isLen a b := by
  suffices h : ∃ cr, D X (.fn (.func fn_math_bits_Len64) [] []) [.int .u64 a] ⟨H, lo⟩ = some cr ∧ (fun cr => ∃ b : Nat, cr = CRes.ret (.int .i64 b) ⟨H, lo⟩ ∧ isLen a b) cr by
    obtain ⟨cr, h1, r, rfl, h2⟩ := h
    exact ⟨r, h1, h2⟩
  have s32 : ∀ a, shfA .shr (.int .u64 a) (.int .u64 32) = some (.int .u64 (a / 4294967296)) := fun a => shr_lit 32 (by decide)
  have s16 : ∀ a, shfA .shr (.int .u64 a) (.int .u64 16) = some (.int .u64 (a / 65536)) := fun a => shr_lit 16 (by decide)
  have s8 : ∀ a, shfA .shr (.int .u64 a) (.int .u64 8) = some (.int .u64 (a / 256)) := fun a => shr_lit 8 (by decide)
  refine D_fn_ex pf_math_bits_Len64 rfl rfl rfl fun N hN => ?_
  have key : ∀ (s : Nat) (q c x : Int), q = ((2 ^ s : Nat) : Int) → c = s → s ≤ 56 → 0 ≤ x → x < 256 → a / q = x → (s = 0 ∨ 0 < x) → ∃ b : Nat, CRes.ret (.int .i64 (IntKind.i64.wrap (c + IntKind.i64.wrap ((str_11c1601c.getD x.toNat 0).toNat : Int)))) ⟨H, lo⟩ = CRes.ret (.int .i64 b) ⟨H, lo⟩ ∧ isLen a b := by
    intro s q c x hq hc hs hx0 hx1 hx hp
    refine ⟨s + len8 x.toNat, ?_, isLen_step h0 (by rw [← hq, hx]; omega) (by omega) hs (by omega)⟩
    have e1 := (len8_ok x.toNat (by omega)).1
    have e2 : (str_11c1601c.getD x.toNat 0).toNat = len8 x.toNat := rfl
    rw [e2, wrap_i64 (n := (len8 x.toNat : Int)) (by omega) (by omega), wrap_i64 (by omega) (by omega), hc, Int.natCast_add]
  simp (maxSteps := 2000000) (disch := omega) only [condK_dec, F1, ↓Int.cast_ofNat_Int, ↓R1, R2, C1, P1, O1, V1, V2, V3, reduceCtorEq, Nat.reduceEqDiff, Nat.reduceBEq, Nat.reduceAdd, Nat.reduceSub, Nat.reduceMul, Nat.reduceLeDiff, Nat.reduceLT, Int.reduceEq, Int.reduceAdd, Int.reduceSub, Int.reduceMul, Int.reduceLT, Int.reduceLE, Int.reduceNeg, Int.reduceToNat, wrap_i64, wrap_u64, wrap_u8, wrap_u16, wrap_u32, wrap_i32, base_get0, base_get, base_set0, base_set, base_take, take_self, take_app1, pf_math_bits_Len64, s32, s16, s8]
  (repeat' (first | apply And.intro | intro _))
  all_goals try simp (disch := omega) only [wrap_u8, len8_size]
  · omega
  · omega
  · exact key 56 72057594037927936 56 _ rfl rfl (by decide) (by omega) (by omega) (by omega) (by omega)
  · omega
  · omega
  · exact key 48 281474976710656 48 _ rfl rfl (by decide) (by omega) (by omega) (by omega) (by omega)
  · omega
  · omega
  · exact key 40 1099511627776 40 _ rfl rfl (by decide) (by omega) (by omega) (by omega) (by omega)
  · omega
  · omega
  · exact key 32 4294967296 32 _ rfl rfl (by decide) (by omega) (by omega) (by omega) (by omega)
  · omega
  · omega
  · exact key 24 16777216 24 _ rfl rfl (by decide) (by omega) (by omega) (by omega) (by omega)
  · omega
  · omega
  · exact key 16 65536 16 _ rfl rfl (by decide) (by omega) (by omega) (by omega) (by omega)
  · omega
  · omega
  · exact key 8 256 8 _ rfl rfl (by decide) (by omega) (by omega) (by omega) (by omega)
  · omega
  · omega
  · exact key 0 1 0 _ rfl rfl (by decide) (by omega) (by omega) (by omega) (by omega)

/-- How many decimal digits. -/
def nd (n : Nat) : Nat := if n < 10 then 1 else if n < 100 then 2 else if n < 1000 then 3 else if n < 10000 then 4 else if n < 100000 then 5 else if n < 1000000 then 6 else 7

theorem log10_D (b : Nat) (h : b ≤ 64) (H : List AObj) (lo : Option Nat) : D X (.fn (.func fn_istrconv_log10Pow2) [] []) [.int .i64 b] ⟨H, lo⟩ = some (.ret (.int .i64 ((b * 78913 / 262144 : Nat) : Int)) ⟨H, lo⟩) := by
  refine D_fn pf_istrconv_log10Pow2 rfl rfl rfl fun N hN => ?_
  have s18 : ∀ a, shfA .shr (.int .i64 a) (.int .u64 18) = some (.int .i64 (a / 262144)) := fun a => shr_lit 18 (by decide)
  simp (maxSteps := 2000000) (disch := omega) only [condK_dec, F1, ↓Int.cast_ofNat_Int, ↓R1, R2, C1, P1, O1, V1, V2, V3, reduceCtorEq, Nat.reduceEqDiff, Nat.reduceBEq, Nat.reduceAdd, Nat.reduceSub, Nat.reduceMul, Nat.reduceLeDiff, Nat.reduceLT, Int.reduceEq, Int.reduceAdd, Int.reduceSub, Int.reduceMul, Int.reduceLT, Int.reduceLE, Int.reduceNeg, Int.reduceToNat, wrap_i64, wrap_u64, wrap_u8, wrap_u16, wrap_u32, wrap_i32, base_get0, base_get, base_set0, base_set, base_take, take_self, take_app1, pf_istrconv_log10Pow2, s18]
  exact ret_eq (congrArg _ (by omega)) rfl

theorem bool2_D (b : Bool) (H : List AObj) (lo : Option Nat) : D X (.fn (.func fn_istrconv_bool2_int) [] []) [.bool b] ⟨H, lo⟩ = some (.ret (.int .i64 (if b then 1 else 0)) ⟨H, lo⟩) := by
  refine D_fn pf_istrconv_bool2_int rfl rfl rfl fun N hN => ?_
  cases b <;> simp (maxSteps := 2000000) (disch := omega) only [condK_dec, F1, ↓Int.cast_ofNat_Int, ↓R1, R2, C1, P1, O1, V1, V2, V3, reduceCtorEq, Nat.reduceEqDiff, Nat.reduceBEq, Nat.reduceAdd, Nat.reduceSub, Nat.reduceMul, Nat.reduceLeDiff, Nat.reduceLT, Int.reduceEq, Int.reduceAdd, Int.reduceSub, Int.reduceMul, Int.reduceLT, Int.reduceLE, Int.reduceNeg, Int.reduceToNat, wrap_i64, wrap_u64, wrap_u8, wrap_u16, wrap_u32, wrap_i32, base_get0, base_get, base_set0, base_set, base_take, take_self, take_app1, pf_istrconv_bool2_int] <;> rfl

theorem glob_pow10 : X.glob g_istrconv_uint64pow10 = some (pow10L.map fun (n : Nat) => AV.int .u64 n) := rfl

theorem len_range {a : Int} {b : Nat} (h : isLen a b) (h1 : 100 ≤ a) (h2 : a < 10000000) : 7 ≤ b ∧ b ≤ 24 := by
  obtain ⟨_, e1, e2, _⟩ := h
  have e2 := e2 (by omega)
  constructor
  · refine Classical.byContradiction fun hc => ?_
    have : (2 : Int) ^ b ≤ 2 ^ 6 := by exact_mod_cast Nat.pow_le_pow_right (by decide : 0 < 2) (by omega)
    omega
  · refine Classical.byContradiction fun hc => ?_
    have : (2 : Int) ^ 25 ≤ 2 ^ b := by exact_mod_cast Nat.pow_le_pow_right (by decide : 0 < 2) (by omega)
    omega

set_option maxHeartbeats 2000000 in
theorem numDigits_D (a : Int) (h1 : 100 ≤ a) (h2 : a < 10000000) (H : List AObj) (lo : Option Nat) : D X (.fn (.func fn_istrconv_numDigits) [] []) [.int .u64 a] ⟨H, lo⟩ = some (.ret (.int .i64 (nd a.toNat)) ⟨H, lo⟩) := by
  refine D_fn pf_istrconv_numDigits rfl rfl rfl fun N hN => ?_
  obtain ⟨b, e1, e2⟩ := Len64_D a (by omega) (by omega) H none
  have hb := len_range e2 h1 h2
  simp (maxSteps := 2000000) (disch := omega) only [F1, ↓Int.cast_ofNat_Int, ↓R1, R2, C1, P1, O1, V1, V2, V3, reduceCtorEq, Nat.reduceEqDiff, Nat.reduceBEq, Nat.reduceAdd, Nat.reduceSub, Nat.reduceMul, Nat.reduceLeDiff, Nat.reduceLT, Int.reduceEq, Int.reduceAdd, Int.reduceSub, Int.reduceMul, Int.reduceLT, Int.reduceLE, Int.reduceNeg, Int.reduceToNat, wrap_i64, wrap_u64, wrap_u8, wrap_u16, wrap_u32, wrap_i32, base_get0, base_get, base_set0, base_set, base_take, take_self, take_app1, pf_istrconv_numDigits, e1, log10_D b e2.1]
  have hl : b * 78913 / 262144 < 20 := by omega
  obtain ⟨p, hp⟩ : ∃ p : Nat, p = pow10L.getD (b * 78913 / 262144) 0 := ⟨_, rfl⟩
  have hg : (pow10L.map fun (n : Nat) => AV.int .u64 n)[b * 78913 / 262144]? = some (.int .u64 p) := by
    rw [List.getElem?_map, List.getElem?_eq_getElem (by exact hl), hp, List.getD_eq_getElem?_getD, List.getElem?_eq_getElem (by exact hl)]; rfl
  simp (maxSteps := 2000000) (disch := omega) only [F1, ↓Int.cast_ofNat_Int, ↓R1, R2, C1, P1, O1, V1, V2, V3, reduceCtorEq, Nat.reduceEqDiff, Nat.reduceBEq, Nat.reduceAdd, Nat.reduceSub, Nat.reduceMul, Nat.reduceLeDiff, Nat.reduceLT, Int.reduceEq, Int.reduceAdd, Int.reduceSub, Int.reduceMul, Int.reduceLT, Int.reduceLE, Int.reduceNeg, Int.reduceToNat, wrap_i64, wrap_u64, wrap_u8, wrap_u16, wrap_u32, wrap_i32, base_get0, base_get, base_set0, base_set, base_take, take_self, take_app1, glob_pow10, hg, bool2_D]
  refine ⟨by omega, ?_⟩
  obtain ⟨_, e3, e4, _⟩ := e2
  have e4 := e4 (by omega)
  refine ret_eq (congrArg _ ?_) rfl
  have c : b = 7 ∨ b = 8 ∨ b = 9 ∨ b = 10 ∨ b = 11 ∨ b = 12 ∨ b = 13 ∨ b = 14 ∨ b = 15 ∨ b = 16 ∨ b = 17 ∨ b = 18 ∨ b = 19 ∨ b = 20 ∨ b = 21 ∨ b = 22 ∨ b = 23 ∨ b = 24 := by omega
  rcases c with rfl | rfl | rfl | rfl | rfl | rfl | rfl | rfl | rfl | rfl | rfl | rfl | rfl | rfl | rfl | rfl | rfl | rfl
  all_goals
    simp [pow10L] at hp
    subst hp
    unfold nd
    simp only [decide_eq_true_eq]
    (repeat' split) <;> omega

end Go.Proofs.YtoolhdikfdjikaaDoor

/- Numbers as text: formatBase10, Itoa. -/
namespace Go.Proofs.YtoolhdikfdjikaaDoor
open Go Go.Den
set_option maxRecDepth 10000

def z24 : List AV := List.replicate 24 (.int .u8 0)
def dg (n : Nat) : UInt8 := (48 + n).toUInt8
theorem dg_nat {n : Nat} (h : n < 10) : (dg n).toNat = 48 + n := by
  have : ∀ n, n < 10 → (dg n).toNat = 48 + n := by decide
  exact this n h
theorem smalls_ok : ∀ m, m < 100 → str_87730c3d.getD (2 * m) 0 = dg (m / 10) ∧ str_87730c3d.getD (2 * m + 1) 0 = dg (m % 10) := by decide
theorem smalls_size : str_87730c3d.length = 200 := by decide
theorem smalls_0 {x : Int} {m : Nat} (h : x = 2 * m) (hm : m < 100) : str_87730c3d.getD x.toNat 0 = dg (m / 10) := by
  have : x.toNat = 2 * m := by omega
  rw [this]; exact (smalls_ok m hm).1
theorem smalls_1 {x : Int} {m : Nat} (h : x = 2 * m + 1) (hm : m < 100) : str_87730c3d.getD x.toNat 0 = dg (m % 10) := by
  have : x.toNat = 2 * m + 1 := by omega
  rw [this]; exact (smalls_ok m hm).2

theorem digits_1 {n : Nat} (h : n < 10) : digits n = [dg n] := by rw [digits, dif_pos h]; rfl
theorem digits_s {n : Nat} (h : ¬ n < 10) : digits n = digits (n / 10) ++ [dg (n % 10)] := by
  rw [digits, dif_neg h, digits_1 (n := n % 10) (by omega)]
theorem digits_2 {n : Nat} (h : 10 ≤ n) (h' : n < 100) : digits n = [dg (n / 10), dg (n % 10)] := by
  rw [digits_s (by omega), digits_1 (by omega)]; rfl
theorem digits_3 {n : Nat} (h : 100 ≤ n) (h' : n < 1000) : digits n = [dg (n / 100), dg (n / 10 % 10), dg (n % 10)] := by
  rw [digits_s (by omega), digits_2 (by omega) (by omega)]
  simp only [Nat.div_div_eq_div_mul, List.cons_append, List.nil_append, Nat.reduceMul]
theorem digits_4 {n : Nat} (h : 1000 ≤ n) (h' : n < 10000) : digits n = [dg (n / 1000), dg (n / 100 % 10), dg (n / 10 % 10), dg (n % 10)] := by
  rw [digits_s (by omega), digits_3 (by omega) (by omega)]
  simp only [Nat.div_div_eq_div_mul, List.cons_append, List.nil_append, Nat.reduceMul]
theorem digits_5 {n : Nat} (h : 10000 ≤ n) (h' : n < 100000) : digits n = [dg (n / 10000), dg (n / 1000 % 10), dg (n / 100 % 10), dg (n / 10 % 10), dg (n % 10)] := by
  rw [digits_s (by omega), digits_4 (by omega) (by omega)]
  simp only [Nat.div_div_eq_div_mul, List.cons_append, List.nil_append, Nat.reduceMul]

set_option maxHeartbeats 1000000 in
theorem fmt_D3 (n : Nat) (h1 : 100 ≤ n) (h2 : n < 1000) (N : Nat) (H : List AObj) (hN : H.length = N) (lo : Option Nat) :
    D X (.fn (.func fn_istrconv_formatBase10) [] []) [.aref N 1 1 3, .int .u64 n] ⟨H ++ [.box z24 none], lo⟩ = some (.ret (.tup []) ⟨H ++ [.box (.int .u8 0 :: ([dg (n / 100), dg (n / 10 % 10), dg (n % 10)].map (fun x : UInt8 => AV.int .u8 x.toNat) ++ List.replicate 20 (.int .u8 0))) none], lo⟩) := by
  refine D_fn pf_istrconv_formatBase10 rfl rfl rfl fun M hM => ?_
  have hM' : M = N + 1 := by rw [← hM]; simp [hN]
  simp (maxSteps := 2000000) (disch := omega) only [condK_dec, F1, ↓Int.cast_ofNat_Int, ↓R1, R2, C1, P1, O1, V1, V2, V3, reduceCtorEq, Nat.reduceEqDiff, Nat.reduceBEq, Nat.reduceAdd, Nat.reduceSub, Nat.reduceMul, Nat.reduceLeDiff, Nat.reduceLT, Int.reduceEq, Int.reduceAdd, Int.reduceSub, Int.reduceMul, Int.reduceLT, Int.reduceLE, Int.reduceNeg, Int.reduceToNat, wrap_i64, wrap_u64, wrap_u8, wrap_u16, wrap_u32, wrap_i32, base_get0, base_get, base_set0, base_set, base_take, take_self, take_app1, pf_istrconv_formatBase10]
  rw [wp_unroll]
  simp (maxSteps := 2000000) (disch := omega) only [condK_dec, F1, ↓Int.cast_ofNat_Int, ↓R1, R2, C1, P1, O1, V1, V2, V3, reduceCtorEq, Nat.reduceEqDiff, Nat.reduceBEq, Nat.reduceAdd, Nat.reduceSub, Nat.reduceMul, Nat.reduceLeDiff, Nat.reduceLT, Int.reduceEq, Int.reduceAdd, Int.reduceSub, Int.reduceMul, Int.reduceLT, Int.reduceLE, Int.reduceNeg, Int.reduceToNat, wrap_i64, wrap_u64, wrap_u8, wrap_u16, wrap_u32, wrap_i32, base_get0, base_get, base_set0, base_set, base_take, take_self, take_app1, l1_istrconv_formatBase10, Int.tdiv_eq_ediv_of_nonneg, Int.tmod_eq_emod_of_nonneg, z24, smalls_size]
  (repeat' (first | apply And.intro | intro _))
  all_goals first | omega | skip
  refine ret_eq rfl (congrArg (fun l => H ++ [AObj.box l none]) ?_)
  rw [smalls_0 (m := n % 100) (by omega) (by omega), smalls_1 (m := n % 100) (by omega) (by omega), dg_nat (n := n / 100) (by omega)]
  rw [show n % 100 / 10 = n / 10 % 10 by omega, show n % 100 % 10 = n % 10 by omega]
  rfl

set_option maxHeartbeats 1000000 in
theorem fmt_D4 (n : Nat) (h1 : 1000 ≤ n) (h2 : n < 10000) (N : Nat) (H : List AObj) (hN : H.length = N) (lo : Option Nat) :
    D X (.fn (.func fn_istrconv_formatBase10) [] []) [.aref N 1 1 4, .int .u64 n] ⟨H ++ [.box z24 none], lo⟩ = some (.ret (.tup []) ⟨H ++ [.box (.int .u8 0 :: ([dg (n / 1000), dg (n / 100 % 10), dg (n / 10 % 10), dg (n % 10)].map (fun x : UInt8 => AV.int .u8 x.toNat) ++ List.replicate 19 (.int .u8 0))) none], lo⟩) := by
  refine D_fn pf_istrconv_formatBase10 rfl rfl rfl fun M hM => ?_
  have hM' : M = N + 1 := by rw [← hM]; simp [hN]
  simp (maxSteps := 2000000) (disch := omega) only [condK_dec, F1, ↓Int.cast_ofNat_Int, ↓R1, R2, C1, P1, O1, V1, V2, V3, reduceCtorEq, Nat.reduceEqDiff, Nat.reduceBEq, Nat.reduceAdd, Nat.reduceSub, Nat.reduceMul, Nat.reduceLeDiff, Nat.reduceLT, Int.reduceEq, Int.reduceAdd, Int.reduceSub, Int.reduceMul, Int.reduceLT, Int.reduceLE, Int.reduceNeg, Int.reduceToNat, wrap_i64, wrap_u64, wrap_u8, wrap_u16, wrap_u32, wrap_i32, base_get0, base_get, base_set0, base_set, base_take, take_self, take_app1, pf_istrconv_formatBase10]
  rw [wp_unroll]
  simp (maxSteps := 2000000) (disch := omega) only [condK_dec, F1, ↓Int.cast_ofNat_Int, ↓R1, R2, C1, P1, O1, V1, V2, V3, reduceCtorEq, Nat.reduceEqDiff, Nat.reduceBEq, Nat.reduceAdd, Nat.reduceSub, Nat.reduceMul, Nat.reduceLeDiff, Nat.reduceLT, Int.reduceEq, Int.reduceAdd, Int.reduceSub, Int.reduceMul, Int.reduceLT, Int.reduceLE, Int.reduceNeg, Int.reduceToNat, wrap_i64, wrap_u64, wrap_u8, wrap_u16, wrap_u32, wrap_i32, base_get0, base_get, base_set0, base_set, base_take, take_self, take_app1, l1_istrconv_formatBase10, Int.tdiv_eq_ediv_of_nonneg, Int.tmod_eq_emod_of_nonneg, z24, smalls_size]
  (repeat' (first | apply And.intro | intro _))
  all_goals first | omega | skip
  refine ret_eq rfl (congrArg (fun l => H ++ [AObj.box l none]) ?_)
  rw [smalls_0 (m := n / 100) (by omega) (by omega), smalls_1 (m := n / 100) (by omega) (by omega), smalls_0 (m := n % 100) (by omega) (by omega), smalls_1 (m := n % 100) (by omega) (by omega)]
  rw [show n % 100 / 10 = n / 10 % 10 by omega, show n % 100 % 10 = n % 10 by omega, show n / 100 / 10 = n / 1000 by omega]

set_option maxHeartbeats 1000000 in
theorem fmt_D5 (n : Nat) (h1 : 10000 ≤ n) (h2 : n < 100000) (N : Nat) (H : List AObj) (hN : H.length = N) (lo : Option Nat) :
    D X (.fn (.func fn_istrconv_formatBase10) [] []) [.aref N 1 1 5, .int .u64 n] ⟨H ++ [.box z24 none], lo⟩ = some (.ret (.tup []) ⟨H ++ [.box (.int .u8 0 :: ([dg (n / 10000), dg (n / 1000 % 10), dg (n / 100 % 10), dg (n / 10 % 10), dg (n % 10)].map (fun x : UInt8 => AV.int .u8 x.toNat) ++ List.replicate 18 (.int .u8 0))) none], lo⟩) := by
  refine D_fn pf_istrconv_formatBase10 rfl rfl rfl fun M hM => ?_
  have hM' : M = N + 1 := by rw [← hM]; simp [hN]
  simp (maxSteps := 2000000) (disch := omega) only [condK_dec, F1, ↓Int.cast_ofNat_Int, ↓R1, R2, C1, P1, O1, V1, V2, V3, reduceCtorEq, Nat.reduceEqDiff, Nat.reduceBEq, Nat.reduceAdd, Nat.reduceSub, Nat.reduceMul, Nat.reduceLeDiff, Nat.reduceLT, Int.reduceEq, Int.reduceAdd, Int.reduceSub, Int.reduceMul, Int.reduceLT, Int.reduceLE, Int.reduceNeg, Int.reduceToNat, wrap_i64, wrap_u64, wrap_u8, wrap_u16, wrap_u32, wrap_i32, base_get0, base_get, base_set0, base_set, base_take, take_self, take_app1, pf_istrconv_formatBase10]
  rw [wp_unroll]
  simp (maxSteps := 2000000) (disch := omega) only [condK_dec, F1, ↓Int.cast_ofNat_Int, ↓R1, R2, C1, P1, O1, V1, V2, V3, reduceCtorEq, Nat.reduceEqDiff, Nat.reduceBEq, Nat.reduceAdd, Nat.reduceSub, Nat.reduceMul, Nat.reduceLeDiff, Nat.reduceLT, Int.reduceEq, Int.reduceAdd, Int.reduceSub, Int.reduceMul, Int.reduceLT, Int.reduceLE, Int.reduceNeg, Int.reduceToNat, wrap_i64, wrap_u64, wrap_u8, wrap_u16, wrap_u32, wrap_i32, base_get0, base_get, base_set0, base_set, base_take, take_self, take_app1, l1_istrconv_formatBase10, Int.tdiv_eq_ediv_of_nonneg, Int.tmod_eq_emod_of_nonneg, z24, smalls_size]
  (repeat' (first | apply And.intro | intro _))
  all_goals first | omega | skip
  refine ret_eq rfl (congrArg (fun l => H ++ [AObj.box l none]) ?_)
  rw [smalls_0 (m := n % 10000 / 100) (by omega) (by omega), smalls_1 (m := n % 10000 / 100) (by omega) (by omega), smalls_0 (m := n % 100) (by omega) (by omega), smalls_1 (m := n % 100) (by omega) (by omega), dg_nat (n := n / 10000) (by omega)]
  rw [show n % 100 / 10 = n / 10 % 10 by omega, show n % 100 % 10 = n % 10 by omega, show n % 10000 / 100 / 10 = n / 1000 % 10 by omega, show n % 10000 / 100 % 10 = n / 100 % 10 by omega]
  rfl

set_option maxHeartbeats 1000000 in
theorem fmt_E3 (n : Nat) (h1 : 100 ≤ n) (h2 : n < 1000) (N : Nat) (H : List AObj) (hN : H.length = N) (lo : Option Nat) :
    D X (.fn (.func fn_istrconv_formatBase10) [] []) [.aref N 1 0 3, .int .u64 n] ⟨H ++ [.box z24 none], lo⟩ = some (.ret (.tup []) ⟨H ++ [.box ([dg (n / 100), dg (n / 10 % 10), dg (n % 10)].map (fun x : UInt8 => AV.int .u8 x.toNat) ++ List.replicate 21 (.int .u8 0)) none], lo⟩) := by
  refine D_fn pf_istrconv_formatBase10 rfl rfl rfl fun M hM => ?_
  have hM' : M = N + 1 := by rw [← hM]; simp [hN]
  simp (maxSteps := 2000000) (disch := omega) only [condK_dec, F1, ↓Int.cast_ofNat_Int, ↓R1, R2, C1, P1, O1, V1, V2, V3, reduceCtorEq, Nat.reduceEqDiff, Nat.reduceBEq, Nat.reduceAdd, Nat.reduceSub, Nat.reduceMul, Nat.reduceLeDiff, Nat.reduceLT, Int.reduceEq, Int.reduceAdd, Int.reduceSub, Int.reduceMul, Int.reduceLT, Int.reduceLE, Int.reduceNeg, Int.reduceToNat, wrap_i64, wrap_u64, wrap_u8, wrap_u16, wrap_u32, wrap_i32, base_get0, base_get, base_set0, base_set, base_take, take_self, take_app1, pf_istrconv_formatBase10]
  rw [wp_unroll]
  simp (maxSteps := 2000000) (disch := omega) only [condK_dec, F1, ↓Int.cast_ofNat_Int, ↓R1, R2, C1, P1, O1, V1, V2, V3, reduceCtorEq, Nat.reduceEqDiff, Nat.reduceBEq, Nat.reduceAdd, Nat.reduceSub, Nat.reduceMul, Nat.reduceLeDiff, Nat.reduceLT, Int.reduceEq, Int.reduceAdd, Int.reduceSub, Int.reduceMul, Int.reduceLT, Int.reduceLE, Int.reduceNeg, Int.reduceToNat, wrap_i64, wrap_u64, wrap_u8, wrap_u16, wrap_u32, wrap_i32, base_get0, base_get, base_set0, base_set, base_take, take_self, take_app1, l1_istrconv_formatBase10, Int.tdiv_eq_ediv_of_nonneg, Int.tmod_eq_emod_of_nonneg, z24, smalls_size]
  (repeat' (first | apply And.intro | intro _))
  all_goals first | omega | skip
  refine ret_eq rfl (congrArg (fun l => H ++ [AObj.box l none]) ?_)
  rw [smalls_0 (m := n % 100) (by omega) (by omega), smalls_1 (m := n % 100) (by omega) (by omega), dg_nat (n := n / 100) (by omega)]
  rw [show n % 100 / 10 = n / 10 % 10 by omega, show n % 100 % 10 = n % 10 by omega]
  rfl

set_option maxHeartbeats 1000000 in
theorem fmt_E4 (n : Nat) (h1 : 1000 ≤ n) (h2 : n < 10000) (N : Nat) (H : List AObj) (hN : H.length = N) (lo : Option Nat) :
    D X (.fn (.func fn_istrconv_formatBase10) [] []) [.aref N 1 0 4, .int .u64 n] ⟨H ++ [.box z24 none], lo⟩ = some (.ret (.tup []) ⟨H ++ [.box ([dg (n / 1000), dg (n / 100 % 10), dg (n / 10 % 10), dg (n % 10)].map (fun x : UInt8 => AV.int .u8 x.toNat) ++ List.replicate 20 (.int .u8 0)) none], lo⟩) := by
  refine D_fn pf_istrconv_formatBase10 rfl rfl rfl fun M hM => ?_
  have hM' : M = N + 1 := by rw [← hM]; simp [hN]
  simp (maxSteps := 2000000) (disch := omega) only [condK_dec, F1, ↓Int.cast_ofNat_Int, ↓R1, R2, C1, P1, O1, V1, V2, V3, reduceCtorEq, Nat.reduceEqDiff, Nat.reduceBEq, Nat.reduceAdd, Nat.reduceSub, Nat.reduceMul, Nat.reduceLeDiff, Nat.reduceLT, Int.reduceEq, Int.reduceAdd, Int.reduceSub, Int.reduceMul, Int.reduceLT, Int.reduceLE, Int.reduceNeg, Int.reduceToNat, wrap_i64, wrap_u64, wrap_u8, wrap_u16, wrap_u32, wrap_i32, base_get0, base_get, base_set0, base_set, base_take, take_self, take_app1, pf_istrconv_formatBase10]
  rw [wp_unroll]
  simp (maxSteps := 2000000) (disch := omega) only [condK_dec, F1, ↓Int.cast_ofNat_Int, ↓R1, R2, C1, P1, O1, V1, V2, V3, reduceCtorEq, Nat.reduceEqDiff, Nat.reduceBEq, Nat.reduceAdd, Nat.reduceSub, Nat.reduceMul, Nat.reduceLeDiff, Nat.reduceLT, Int.reduceEq, Int.reduceAdd, Int.reduceSub, Int.reduceMul, Int.reduceLT, Int.reduceLE, Int.reduceNeg, Int.reduceToNat, wrap_i64, wrap_u64, wrap_u8, wrap_u16, wrap_u32, wrap_i32, base_get0, base_get, base_set0, base_set, base_take, take_self, take_app1, l1_istrconv_formatBase10, Int.tdiv_eq_ediv_of_nonneg, Int.tmod_eq_emod_of_nonneg, z24, smalls_size]
  (repeat' (first | apply And.intro | intro _))
  all_goals first | omega | skip
  refine ret_eq rfl (congrArg (fun l => H ++ [AObj.box l none]) ?_)
  rw [smalls_0 (m := n / 100) (by omega) (by omega), smalls_1 (m := n / 100) (by omega) (by omega), smalls_0 (m := n % 100) (by omega) (by omega), smalls_1 (m := n % 100) (by omega) (by omega)]
  rw [show n % 100 / 10 = n / 10 % 10 by omega, show n % 100 % 10 = n % 10 by omega, show n / 100 / 10 = n / 1000 by omega]

set_option maxHeartbeats 1000000 in
theorem fmt_E5 (n : Nat) (h1 : 10000 ≤ n) (h2 : n < 100000) (N : Nat) (H : List AObj) (hN : H.length = N) (lo : Option Nat) :
    D X (.fn (.func fn_istrconv_formatBase10) [] []) [.aref N 1 0 5, .int .u64 n] ⟨H ++ [.box z24 none], lo⟩ = some (.ret (.tup []) ⟨H ++ [.box ([dg (n / 10000), dg (n / 1000 % 10), dg (n / 100 % 10), dg (n / 10 % 10), dg (n % 10)].map (fun x : UInt8 => AV.int .u8 x.toNat) ++ List.replicate 19 (.int .u8 0)) none], lo⟩) := by
  refine D_fn pf_istrconv_formatBase10 rfl rfl rfl fun M hM => ?_
  have hM' : M = N + 1 := by rw [← hM]; simp [hN]
  simp (maxSteps := 2000000) (disch := omega) only [condK_dec, F1, ↓Int.cast_ofNat_Int, ↓R1, R2, C1, P1, O1, V1, V2, V3, reduceCtorEq, Nat.reduceEqDiff, Nat.reduceBEq, Nat.reduceAdd, Nat.reduceSub, Nat.reduceMul, Nat.reduceLeDiff, Nat.reduceLT, Int.reduceEq, Int.reduceAdd, Int.reduceSub, Int.reduceMul, Int.reduceLT, Int.reduceLE, Int.reduceNeg, Int.reduceToNat, wrap_i64, wrap_u64, wrap_u8, wrap_u16, wrap_u32, wrap_i32, base_get0, base_get, base_set0, base_set, base_take, take_self, take_app1, pf_istrconv_formatBase10]
  rw [wp_unroll]
  simp (maxSteps := 2000000) (disch := omega) only [condK_dec, F1, ↓Int.cast_ofNat_Int, ↓R1, R2, C1, P1, O1, V1, V2, V3, reduceCtorEq, Nat.reduceEqDiff, Nat.reduceBEq, Nat.reduceAdd, Nat.reduceSub, Nat.reduceMul, Nat.reduceLeDiff, Nat.reduceLT, Int.reduceEq, Int.reduceAdd, Int.reduceSub, Int.reduceMul, Int.reduceLT, Int.reduceLE, Int.reduceNeg, Int.reduceToNat, wrap_i64, wrap_u64, wrap_u8, wrap_u16, wrap_u32, wrap_i32, base_get0, base_get, base_set0, base_set, base_take, take_self, take_app1, l1_istrconv_formatBase10, Int.tdiv_eq_ediv_of_nonneg, Int.tmod_eq_emod_of_nonneg, z24, smalls_size]
  (repeat' (first | apply And.intro | intro _))
  all_goals first | omega | skip
  refine ret_eq rfl (congrArg (fun l => H ++ [AObj.box l none]) ?_)
  rw [smalls_0 (m := n % 10000 / 100) (by omega) (by omega), smalls_1 (m := n % 10000 / 100) (by omega) (by omega), smalls_0 (m := n % 100) (by omega) (by omega), smalls_1 (m := n % 100) (by omega) (by omega), dg_nat (n := n / 10000) (by omega)]
  rw [show n % 100 / 10 = n / 10 % 10 by omega, show n % 100 % 10 = n % 10 by omega, show n % 10000 / 100 / 10 = n / 1000 % 10 by omega, show n % 10000 / 100 % 10 = n / 100 % 10 by omega]
  rfl

theorem small_D (n : Nat) (h : n < 100) (H : List AObj) (lo : Option Nat) : D X (.fn (.func fn_istrconv_small) [] []) [.int .i64 n] ⟨H, lo⟩ = some (.ret (S (digits n)) ⟨H, lo⟩) := by
  refine D_fn pf_istrconv_small rfl rfl rfl fun N hN => ?_
  have t1 : ∀ n : Nat, n < 10 → List.drop n (List.take (n + 1) str_fdb5537d) = [dg n] := by decide
  have t2 : ∀ n : Nat, n < 100 → List.drop (2 * n) (List.take (2 * n + 2) str_87730c3d) = [dg (n / 10), dg (n % 10)] := by decide
  simp (maxSteps := 2000000) (disch := omega) only [condK_dec, F1, ↓Int.cast_ofNat_Int, ↓R1, R2, C1, P1, O1, V1, V2, V3, reduceCtorEq, Nat.reduceEqDiff, Nat.reduceBEq, Nat.reduceAdd, Nat.reduceSub, Nat.reduceMul, Nat.reduceLeDiff, Nat.reduceLT, Int.reduceEq, Int.reduceAdd, Int.reduceSub, Int.reduceMul, Int.reduceLT, Int.reduceLE, Int.reduceNeg, Int.reduceToNat, wrap_i64, wrap_u64, wrap_u8, wrap_u16, wrap_u32, wrap_i32, base_get0, base_get, base_set0, base_set, base_take, take_self, take_app1, pf_istrconv_small, smalls_size]
  refine ⟨fun h => ⟨⟨by omega, ?_⟩, ?_⟩, fun h => ⟨by omega, ?_⟩⟩
  · show (n : Int) + 1 ≤ 36; omega
  · rw [show ((n : Int) + 1).toNat = n + 1 by omega, t1 n (by omega), digits_1 (by omega)]
  · rw [show ((n : Int) * 2).toNat = 2 * n by omega, show ((n : Int) * 2 + 2).toNat = 2 * n + 2 by omega, t2 n (by omega), digits_2 (by omega) (by omega)]

theorem ofNat_toNat (x : UInt8) : UInt8.ofNat x.toNat = x := by simp

theorem FormatInt_D (n : Nat) (h : n < 100000) (H : List AObj) (lo : Option Nat) : D X (.fn (.func fn_istrconv_FormatInt) [] []) [.int .i64 n, .int .i64 10] ⟨H, lo⟩ = some (.ret (S (digits n)) ⟨H, lo⟩) := by
  refine D_fn pf_istrconv_FormatInt rfl rfl rfl fun N hN => ?_
  by_cases hs : n < 100
  · simp (maxSteps := 2000000) (disch := omega) only [R4, F1, ↓Int.cast_ofNat_Int, ↓R1, R2, C1, P1, O1, V1, V2, V3, reduceCtorEq, Nat.reduceEqDiff, Nat.reduceBEq, Nat.reduceAdd, Nat.reduceSub, Nat.reduceMul, Nat.reduceLeDiff, Nat.reduceLT, Int.reduceEq, Int.reduceAdd, Int.reduceSub, Int.reduceMul, Int.reduceLT, Int.reduceLE, Int.reduceNeg, Int.reduceToNat, wrap_i64, wrap_u64, wrap_u8, wrap_u16, wrap_u32, wrap_i32, base_get0, base_get, base_set0, base_set, base_take, take_self, take_app1, pf_istrconv_FormatInt, small_D n hs]
    (repeat' (first | apply And.intro | intro _))
    all_goals first | omega | rfl | trivial
  have hd := numDigits_D n (by omega) (by omega)
  rw [Int.toNat_natCast] at hd
  have c : (100 ≤ n ∧ n < 1000) ∨ (1000 ≤ n ∧ n < 10000) ∨ (10000 ≤ n ∧ n < 100000) := by omega
  rcases c with c | c | c
  · have e : nd n = 3 := by unfold nd; (repeat' split) <;> omega
    rw [e] at hd
    have hf := fmt_D3 n c.1 c.2 N H hN none
    rw [digits_3 c.1 c.2]
    simp only [z24, List.replicate_succ, List.replicate_zero, List.map_cons, List.map_nil, List.cons_append, List.nil_append] at hf
    simp (maxSteps := 2000000) (disch := omega) only [R4, F1, ↓Int.cast_ofNat_Int, ↓R1, R2, C1, P1, O1, V1, V2, V3, reduceCtorEq, Nat.reduceEqDiff, Nat.reduceBEq, Nat.reduceAdd, Nat.reduceSub, Nat.reduceMul, Nat.reduceLeDiff, Nat.reduceLT, Int.reduceEq, Int.reduceAdd, Int.reduceSub, Int.reduceMul, Int.reduceLT, Int.reduceLE, Int.reduceNeg, Int.reduceToNat, wrap_i64, wrap_u64, wrap_u8, wrap_u16, wrap_u32, wrap_i32, base_get0, base_get, base_set0, base_set, base_take, take_self, take_app1, pf_istrconv_FormatInt, hd, hf, hN, ofNat_toNat]
    (repeat' (first | apply And.intro | intro _))
    all_goals first | omega | rfl | trivial
  · have e : nd n = 4 := by unfold nd; (repeat' split) <;> omega
    rw [e] at hd
    have hf := fmt_D4 n c.1 c.2 N H hN none
    rw [digits_4 c.1 c.2]
    simp only [z24, List.replicate_succ, List.replicate_zero, List.map_cons, List.map_nil, List.cons_append, List.nil_append] at hf
    simp (maxSteps := 2000000) (disch := omega) only [R4, F1, ↓Int.cast_ofNat_Int, ↓R1, R2, C1, P1, O1, V1, V2, V3, reduceCtorEq, Nat.reduceEqDiff, Nat.reduceBEq, Nat.reduceAdd, Nat.reduceSub, Nat.reduceMul, Nat.reduceLeDiff, Nat.reduceLT, Int.reduceEq, Int.reduceAdd, Int.reduceSub, Int.reduceMul, Int.reduceLT, Int.reduceLE, Int.reduceNeg, Int.reduceToNat, wrap_i64, wrap_u64, wrap_u8, wrap_u16, wrap_u32, wrap_i32, base_get0, base_get, base_set0, base_set, base_take, take_self, take_app1, pf_istrconv_FormatInt, hd, hf, hN, ofNat_toNat]
    (repeat' (first | apply And.intro | intro _))
    all_goals first | omega | rfl | trivial
  · have e : nd n = 5 := by unfold nd; (repeat' split) <;> omega
    rw [e] at hd
    have hf := fmt_D5 n c.1 c.2 N H hN none
    rw [digits_5 c.1 c.2]
    simp only [z24, List.replicate_succ, List.replicate_zero, List.map_cons, List.map_nil, List.cons_append, List.nil_append] at hf
    simp (maxSteps := 2000000) (disch := omega) only [R4, F1, ↓Int.cast_ofNat_Int, ↓R1, R2, C1, P1, O1, V1, V2, V3, reduceCtorEq, Nat.reduceEqDiff, Nat.reduceBEq, Nat.reduceAdd, Nat.reduceSub, Nat.reduceMul, Nat.reduceLeDiff, Nat.reduceLT, Int.reduceEq, Int.reduceAdd, Int.reduceSub, Int.reduceMul, Int.reduceLT, Int.reduceLE, Int.reduceNeg, Int.reduceToNat, wrap_i64, wrap_u64, wrap_u8, wrap_u16, wrap_u32, wrap_i32, base_get0, base_get, base_set0, base_set, base_take, take_self, take_app1, pf_istrconv_FormatInt, hd, hf, hN, ofNat_toNat]
    (repeat' (first | apply And.intro | intro _))
    all_goals first | omega | rfl | trivial

theorem Itoa_D (n : Nat) (h : n < 100000) (H : List AObj) (lo : Option Nat) : D X (.fn (.func fn_strconv_Itoa) [] []) [.int .i64 n] ⟨H, lo⟩ = some (.ret (S (digits n)) ⟨H, lo⟩) := by
  have h1 : ∀ H lo, D X (.fn (.func fn_istrconv_Itoa) [] []) [.int .i64 n] ⟨H, lo⟩ = some (.ret (S (digits n)) ⟨H, lo⟩) := fun H lo => by
    refine D_fn pf_istrconv_Itoa rfl rfl rfl fun N hN => ?_
    simp (maxSteps := 2000000) (disch := omega) only [F1, ↓Int.cast_ofNat_Int, ↓R1, R2, C1, P1, O1, V1, V2, V3, reduceCtorEq, Nat.reduceEqDiff, Nat.reduceBEq, Nat.reduceAdd, Nat.reduceSub, Nat.reduceMul, Nat.reduceLeDiff, Nat.reduceLT, Int.reduceEq, Int.reduceAdd, Int.reduceSub, Int.reduceMul, Int.reduceLT, Int.reduceLE, Int.reduceNeg, Int.reduceToNat, wrap_i64, wrap_u64, wrap_u8, wrap_u16, wrap_u32, wrap_i32, base_get0, base_get, base_set0, base_set, base_take, take_self, take_app1, pf_istrconv_Itoa, FormatInt_D n h]
  refine D_fn pf_strconv_Itoa rfl rfl rfl fun N hN => ?_
  simp (maxSteps := 2000000) (disch := omega) only [F1, ↓Int.cast_ofNat_Int, ↓R1, R2, C1, P1, O1, V1, V2, V3, reduceCtorEq, Nat.reduceEqDiff, Nat.reduceBEq, Nat.reduceAdd, Nat.reduceSub, Nat.reduceMul, Nat.reduceLeDiff, Nat.reduceLT, Int.reduceEq, Int.reduceAdd, Int.reduceSub, Int.reduceMul, Int.reduceLT, Int.reduceLE, Int.reduceNeg, Int.reduceToNat, wrap_i64, wrap_u64, wrap_u8, wrap_u16, wrap_u32, wrap_i32, base_get0, base_get, base_set0, base_set, base_take, take_self, take_app1, pf_strconv_Itoa, h1]

end Go.Proofs.YtoolhdikfdjikaaDoor

/- strings.Builder. -/
namespace Go.Proofs.YtoolhdikfdjikaaDoor
open Go Go.Den
set_option maxRecDepth 10000

def bs (l : List UInt8) : List (List AV) := l.map fun b => [.int .u8 b.toNat]

theorem bs_append (l m : List UInt8) : bs (l ++ m) = bs l ++ bs m := by simp [bs]
theorem bs_len (l : List UInt8) : (bs l).length = l.length := by simp [bs]
theorem bs_sz (l : List UInt8) : ∀ el ∈ bs l, el.length = 1 := by simp [bs]
theorem bs_refs (l : List UInt8) : refsLL (bs l) = 0 := refsLL_map (fun x => by simp [refsL, AV.refs]) l
theorem bs_str : ∀ l : List UInt8, stringA (bs l) = some l
  | [] => rfl
  | x :: xs => by
    have := bs_str xs
    simp only [bs, List.map_cons, stringA] at this ⊢
    rw [this]; simp

/-- A builder that lies at B and holds l. -/
def Bld (H : List AObj) (B : Nat) (l : List UInt8) : Prop := ∃ c v, H[B]? = some (.box [c, v] (some ty_strings_Builder)) ∧ (c = .nilp ∨ c = .ptr B 0) ∧ Own (B + 1) H v 1 ty_uint8 (bs l) ∧ (l = [] → v = .nils)

theorem copyCheck_D (B : Nat) (H : List AObj) (lo : Option Nat) (c v : AV) (hb : H[B]? = some (.box [c, v] (some ty_strings_Builder))) (hc : c = .nilp ∨ c = .ptr B 0) : D X (.fn (.func fn_Pstrings_Builder_copyCheck) [] []) [.ptr B 0] ⟨H, lo⟩ = some (.ret (.tup []) ⟨H.set B (.box [.ptr B 0, v] (some ty_strings_Builder)), lo⟩) := by
  refine D_prim (p := copyCheckP) rfl ?_
  simp only [copyCheckP, hb]
  rw [if_pos]
  rcases hc with rfl | rfl <;> simp

theorem WriteString_D (B : Nat) (l m : List UInt8) (H : List AObj) (lo : Option Nat) (hb : Bld H B l) (hl : l.length + m.length ≤ room) :
    ∃ H' lo', D X (.fn (.func fn_Pstrings_Builder_WriteString) [] []) [.ptr B 0, S m] ⟨H, lo⟩ = some (.ret (.tup [.int .i64 m.length, .nili]) ⟨H', lo'⟩) ∧ Bld H' B (l ++ m) ∧ H.length ≤ H'.length ∧ (∀ id, id < B → H'[id]? = H[id]?) ∧ (∀ (id : Nat) cs tg, id ≠ B → H[id]? = some (.box cs tg) → H'[id]? = some (.box cs tg)) ∧ (lo' = lo ∨ lo' = joinLo lo (some B)) := by
  obtain ⟨c, v, h1, h2, h3, h4⟩ := hb
  have hlt := (List.getElem?_eq_some_iff.1 h1).1
  have hc := copyCheck_D B H none c v h1 h2
  obtain ⟨H1, hH1⟩ : ∃ H1, H1 = H.set B (.box [.ptr B 0, v] (some ty_strings_Builder)) := ⟨_, rfl⟩
  have b1 : H1[B]? = some (.box [.ptr B 0, v] (some ty_strings_Builder)) := by rw [hH1]; simp [hlt]
  have o1 : Own (B + 1) H1 v 1 ty_uint8 (bs l) := by
    obtain ⟨q1, q2⟩ := h3
    refine ⟨q1, ?_⟩
    rcases q2 with q2 | ⟨id, ver, e1, e2, e3⟩
    · exact .inl q2
    · exact .inr ⟨id, ver, e1, e2, by rw [hH1, List.getElem?_set_ne (by omega)]; exact e3⟩
  rw [← hH1] at hc
  have len1 : H1.length = H.length := by rw [hH1]; simp
  obtain ⟨v', H2, a1, a2, a3, a4, a5⟩ := o1.append2 (ys := bs m) (bytes := 1) (by rw [len1]; omega) (by decide) (bs_sz m) (bs_refs m) (by rw [bs_len, bs_len]; omega)
  have b2 := a5 B _ _ b1
  rw [← bs_append] at a2
  have a6 : l ++ m = [] → v' = .nils := by
    intro hlm
    have hm : m = [] := (List.append_eq_nil_iff.1 hlm).2
    have hl' : l = [] := (List.append_eq_nil_iff.1 hlm).1
    subst hm
    rw [h4 hl'] at a1
    simp [appendA, bs] at a1; exact a1.1.symm
  have hlt2 : B < H2.length := by omega
  suffices h : ∃ cr, D X (.fn (.func fn_Pstrings_Builder_WriteString) [] []) [.ptr B 0, S m] ⟨H, lo⟩ = some cr ∧ (fun cr => ∃ lo', cr = CRes.ret (.tup [.int .i64 m.length, .nili]) ⟨H2.set B (.box [.ptr B 0, v'] (some ty_strings_Builder)), lo'⟩ ∧ (lo' = lo ∨ lo' = joinLo lo (some B))) cr by
    obtain ⟨cr, e1, lo', rfl, e2⟩ := h
    refine ⟨_, lo', e1, ⟨.ptr B 0, v', by simp [hlt2], .inr rfl, ?_, a6⟩, by simp; omega, fun id hid => ?_, fun id cs tg hid hcs => ?_, e2⟩
    · obtain ⟨q1, q2⟩ := a2
      refine ⟨q1, ?_⟩
      rcases q2 with q2 | ⟨id, ver, e1, e2, e3⟩
      · exact .inl q2
      · exact .inr ⟨id, ver, e1, e2, by rw [List.getElem?_set_ne (by omega)]; exact e3⟩
    · rw [List.getElem?_set_ne (by omega), a4 id (by omega), hH1, List.getElem?_set_ne (by omega)]
    · rw [List.getElem?_set_ne (by omega)]
      refine a5 id cs tg ?_
      rw [hH1, List.getElem?_set_ne (by omega)]; exact hcs
  refine D_fn_ex pf_Pstrings_Builder_WriteString rfl rfl rfl fun N hN => ?_
  have a1' : appendA ⟨H1, none⟩ ty_uint8 1 1 v (List.map (fun b : UInt8 => [AV.int IntKind.u8 b.toNat]) m) = some (v', ⟨H2, none⟩) := a1
  simp (maxSteps := 2000000) (disch := omega) only [↓Int.cast_ofNat_Int, ↓R1, R2, C1, P1, O1, V1, V2, V3, reduceCtorEq, Nat.reduceEqDiff, Nat.reduceBEq, Nat.reduceAdd, Nat.reduceSub, Nat.reduceMul, Nat.reduceLeDiff, Nat.reduceLT, Int.reduceEq, Int.reduceAdd, Int.reduceSub, Int.reduceMul, Int.reduceLT, Int.reduceLE, Int.reduceNeg, Int.reduceToNat, wrap_i64, wrap_u64, wrap_u8, wrap_u16, wrap_u32, wrap_i32, base_get0, base_get, base_set0, base_set, base_take, take_self, take_app1, pf_Pstrings_Builder_WriteString, hc, b1, a1', b2]
  rcases a2.2 with ⟨rfl, hnil⟩ | ⟨id, ver, e1, rfl, e3⟩
  · refine ⟨⟨rfl, rfl⟩, lo, ?_, .inl rfl⟩
    have hlm : l ++ m = [] := by simpa [bs] using hnil
    have hm : m = [] := (List.append_eq_nil_iff.1 hlm).2
    have hl' : l = [] := (List.append_eq_nil_iff.1 hlm).1
    subst hm
    have hH : H2 = H1 := by
      rcases o1.2 with ⟨rfl, _⟩ | ⟨id, ver, e1, rfl, e3⟩
      · simp [appendA, bs] at a1; exact a1.symm
      · simp only [appendA, bs, List.map_nil, e3] at a1
        split at a1
        · split at a1
          · simp at a1
          · cases a1
        · cases a1
    simp (maxSteps := 2000000) (disch := omega) only [F1, ↓Int.cast_ofNat_Int, ↓R1, R2, C1, P1, O1, V1, V2, V3, reduceCtorEq, Nat.reduceEqDiff, Nat.reduceBEq, Nat.reduceAdd, Nat.reduceSub, Nat.reduceMul, Nat.reduceLeDiff, Nat.reduceLT, Int.reduceEq, Int.reduceAdd, Int.reduceSub, Int.reduceMul, Int.reduceLT, Int.reduceLE, Int.reduceNeg, Int.reduceToNat, wrap_i64, wrap_u64, wrap_u8, wrap_u16, wrap_u32, wrap_i32, base_get0, base_get, base_set0, base_set, base_take, take_self, take_app1]
    have : List.take N (H2.set B (.box [.ptr B 0, .nils] (some ty_strings_Builder))) = H2.set B (.box [.ptr B 0, .nils] (some ty_strings_Builder)) := by
      rw [List.take_of_length_le]; rw [List.length_set, hH]; omega
    rw [this]
  · refine ⟨⟨rfl, rfl⟩, joinLo lo (some B), ?_, .inr rfl⟩
    have hr : ¬ id + 1 ≤ B + 1 := by omega
    have hN' : ¬ N ≤ B := by omega
    simp (maxSteps := 2000000) (disch := omega) only [F1, ↓Int.cast_ofNat_Int, ↓R1, R2, C1, P1, O1, V1, V2, V3, reduceCtorEq, Nat.reduceEqDiff, Nat.reduceBEq, Nat.reduceAdd, Nat.reduceSub, Nat.reduceMul, Nat.reduceLeDiff, Nat.reduceLT, Int.reduceEq, Int.reduceAdd, Int.reduceSub, Int.reduceMul, Int.reduceLT, Int.reduceLE, Int.reduceNeg, Int.reduceToNat, wrap_i64, wrap_u64, wrap_u8, wrap_u16, wrap_u32, wrap_i32, base_get0, base_get, base_set0, base_set, base_take, take_self, take_app1, hr, minLo, hN']

theorem String_D (B : Nat) (l : List UInt8) (H : List AObj) (lo : Option Nat) (hb : Bld H B l) (hl : l.length ≤ room) :
    ∃ H', D X (.fn (.func fn_Pstrings_Builder_String) [] []) [.ptr B 0] ⟨H, lo⟩ = some (.ret (S l) ⟨H', lo⟩) ∧ H'.length = H.length ∧ (∀ id, id < B → H'[id]? = H[id]?) := by
  obtain ⟨c, v, h1, h2, h3, h4⟩ := hb
  rcases h3.2 with ⟨rfl, hnil⟩ | ⟨id, ver, e1, rfl, e3⟩
  · have hl' : l = [] := by simpa [bs] using hnil
    subst hl'
    refine ⟨H, ?_, rfl, fun _ _ => rfl⟩
    refine D_fn pf_Pstrings_Builder_String rfl rfl rfl fun N hN => ?_
    simp (maxSteps := 2000000) (disch := omega) only [F1, ↓Int.cast_ofNat_Int, ↓R1, R2, C1, P1, O1, V1, V2, V3, reduceCtorEq, Nat.reduceEqDiff, Nat.reduceBEq, Nat.reduceAdd, Nat.reduceSub, Nat.reduceMul, Nat.reduceLeDiff, Nat.reduceLT, Int.reduceEq, Int.reduceAdd, Int.reduceSub, Int.reduceMul, Int.reduceLT, Int.reduceLE, Int.reduceNeg, Int.reduceToNat, wrap_i64, wrap_u64, wrap_u8, wrap_u16, wrap_u32, wrap_i32, base_get0, base_get, base_set0, base_set, base_take, take_self, take_app1, pf_Pstrings_Builder_String, h1, usdA, ustrA, lenA]
    rfl
  · have hne : l ≠ [] := fun h => by cases h4 h
    have hpos : 0 < l.length := List.length_pos_iff.2 hne
    rw [bs_len] at *
    refine ⟨H.set id .dead, ?_, by simp, fun j hj => by rw [List.getElem?_set_ne (by omega)]⟩
    refine D_fn pf_Pstrings_Builder_String rfl rfl rfl fun N hN => ?_
    have u1 : usdA (.ref id ver 1 0 l.length false) = some (.rptr id ver 0 0) := by simp [usdA, hpos]
    have u2 : ustrA ⟨H, none⟩ ty_uint8 (.rptr id ver 0 0) (.int .i64 l.length) = some (S l, ⟨H.set id .dead, none⟩) := by
      simp only [ustrA, e3]
      rw [if_pos ⟨trivial, trivial, by omega, by rw [bs_len]; omega, by omega⟩]
      rw [List.drop_zero, Int.toNat_natCast, ← bs_len, List.take_length, bs_str]
      rfl
    have u3 : ∀ σ, lenA σ .sl (.ref id ver 1 0 l.length false) = some (.int .i64 l.length) := fun _ => rfl
    simp (maxSteps := 2000000) (disch := omega) only [F1, ↓Int.cast_ofNat_Int, ↓R1, R2, C1, P1, O1, V1, V2, V3, reduceCtorEq, Nat.reduceEqDiff, Nat.reduceBEq, Nat.reduceAdd, Nat.reduceSub, Nat.reduceMul, Nat.reduceLeDiff, Nat.reduceLT, Int.reduceEq, Int.reduceAdd, Int.reduceSub, Int.reduceMul, Int.reduceLT, Int.reduceLE, Int.reduceNeg, Int.reduceToNat, wrap_i64, wrap_u64, wrap_u8, wrap_u16, wrap_u32, wrap_i32, base_get0, base_get, base_set0, base_set, base_take, take_self, take_app1, pf_Pstrings_Builder_String, h1, u1, u2, u3]
    rw [take_self (by rw [List.length_set]; exact hN)]

end Go.Proofs.YtoolhdikfdjikaaDoor

/- asm.Print. -/
namespace Go.Proofs.YtoolhdikfdjikaaDoor
open Go Go.Den
set_option maxRecDepth 10000

theorem Print1_D (n : Nat) (h : n < 100000) (H : List AObj) (lo : Option Nat) : D X (.fn (.func fn_asm_Print_1) [] []) [.int .i64 n] ⟨H, lo⟩ = some (.ret (S ([108] ++ digits n)) ⟨H, lo⟩) := by
  refine D_fn pf_asm_Print_1 rfl rfl rfl fun N hN => ?_
  have := digits_len n
  simp (maxSteps := 2000000) (disch := omega) only [F1, ↓Int.cast_ofNat_Int, ↓R1, R2, C1, P1, O1, V1, V2, V3, reduceCtorEq, Nat.reduceEqDiff, Nat.reduceBEq, Nat.reduceAdd, Nat.reduceSub, Nat.reduceMul, Nat.reduceLeDiff, Nat.reduceLT, Int.reduceEq, Int.reduceAdd, Int.reduceSub, Int.reduceMul, Int.reduceLT, Int.reduceLE, Int.reduceNeg, Int.reduceToNat, wrap_i64, wrap_u64, wrap_u8, wrap_u16, wrap_u32, wrap_i32, base_get0, base_get, base_set0, base_set, base_take, take_self, take_app1, pf_asm_Print_1, Itoa_D n h]
  unfold strRoom; omega

theorem Print2_D (x : Instr) (hx : x.wf) (i p : Nat) (H : List AObj) (lo : Option Nat) (hp : H[p]? = some (.box [.int .i64 i] none)) : D X (.fn (.func fn_asm_Print_2) [] [.ptr p 0]) [.agg (I5 x)] ⟨H, lo⟩ = some (.ret (.bool (goes x.op && decide (x.n = i))) ⟨H, lo⟩) := by
  obtain ⟨w1, w2, w3, w4, w5⟩ := hx
  have hp' : ∀ L, (H ++ L)[p]? = some (.box [.int .i64 i] none) := fun L => by
    rw [List.getElem?_append_left (List.getElem?_eq_some_iff.1 hp).1]; exact hp
  unfold I5
  refine D_clo pf_asm_Print_2 rfl rfl rfl fun N hN => ?_
  simp (maxSteps := 2000000) (disch := omega) only [F1, ↓Int.cast_ofNat_Int, ↓R1, R2, C1, P1, O1, V1, V2, V3, reduceCtorEq, Nat.reduceEqDiff, Nat.reduceBEq, Nat.reduceAdd, Nat.reduceSub, Nat.reduceMul, Nat.reduceLeDiff, Nat.reduceLT, Int.reduceEq, Int.reduceAdd, Int.reduceSub, Int.reduceMul, Int.reduceLT, Int.reduceLE, Int.reduceNeg, Int.reduceToNat, wrap_i64, wrap_u64, wrap_u8, wrap_u16, wrap_u32, wrap_i32, base_get0, base_get, base_set0, base_set, base_take, take_self, take_app1, pf_asm_Print_2, hN, hp', goes_D]
  rw [gK_any]
  refine ⟨fun ha => ?_, fun ha => ?_⟩
  · simp (maxSteps := 2000000) (disch := omega) only [F1, ↓Int.cast_ofNat_Int, ↓R1, R2, C1, P1, O1, V1, V2, V3, reduceCtorEq, Nat.reduceEqDiff, Nat.reduceBEq, Nat.reduceAdd, Nat.reduceSub, Nat.reduceMul, Nat.reduceLeDiff, Nat.reduceLT, Int.reduceEq, Int.reduceAdd, Int.reduceSub, Int.reduceMul, Int.reduceLT, Int.reduceLE, Int.reduceNeg, Int.reduceToNat, wrap_i64, wrap_u64, wrap_u8, wrap_u16, wrap_u32, wrap_i32, base_get0, base_get, base_set0, base_set, base_take, take_self, take_app1, hN, hp']
    refine ret_eq (congrArg _ ?_) rfl
    rw [ha, Bool.true_and, Bool.eq_iff_iff]; simp; omega
  · simp (maxSteps := 2000000) (disch := omega) only [F1, ↓Int.cast_ofNat_Int, ↓R1, R2, C1, P1, O1, V1, V2, V3, reduceCtorEq, Nat.reduceEqDiff, Nat.reduceBEq, Nat.reduceAdd, Nat.reduceSub, Nat.reduceMul, Nat.reduceLeDiff, Nat.reduceLT, Int.reduceEq, Int.reduceAdd, Int.reduceSub, Int.reduceMul, Int.reduceLT, Int.reduceLE, Int.reduceNeg, Int.reduceToNat, wrap_i64, wrap_u64, wrap_u8, wrap_u16, wrap_u32, wrap_i32, base_get0, base_get, base_set0, base_set, base_take, take_self, take_app1, hN, hp', ha]
    simp

/-- The state within Print: what was there, then the builder. -/
structure PSt (H0 : List AObj) (N : Nat) (H : List AObj) (lo : Option Nat) (l : List UInt8) : Prop where
  len : H0.length = N
  pre : H0 <+: H
  bld : Bld H N l
  lo : lo = none ∨ lo = some N

theorem prefix_of_get {H0 H : List AObj} {N : Nat} (hN : H0.length = N) {H1 : List AObj} (hp : H0 <+: H) (hl : H.length ≤ H1.length) (h : ∀ id, id < N → H1[id]? = H[id]?) : H0 <+: H1 := by
  obtain ⟨L, rfl⟩ := hp
  rw [List.prefix_iff_eq_take]
  apply List.ext_getElem?
  intro i
  by_cases hi : i < N
  · rw [List.getElem?_take_of_lt (by omega), h i hi, List.getElem?_append_left (by omega)]
  · rw [List.getElem?_eq_none (by omega), List.getElem?_eq_none (by rw [List.length_take]; omega)]

theorem PSt.write {H0 H : List AObj} {N : Nat} {lo : Option Nat} {l m : List UInt8} (h : PSt H0 N H lo l) (hl : l.length + m.length ≤ room) :
    ∃ H' lo', D X (.fn (.func fn_Pstrings_Builder_WriteString) [] []) [.ptr N 0, S m] ⟨H, lo⟩ = some (.ret (.tup [.int .i64 m.length, .nili]) ⟨H', lo'⟩) ∧ PSt H0 N H' lo' (l ++ m) ∧ H.length ≤ H'.length ∧ (∀ (id : Nat) cs tg, id ≠ N → H[id]? = some (.box cs tg) → H'[id]? = some (.box cs tg)) := by
  obtain ⟨H', lo', e1, e2, e3, e4, e5, e6⟩ := WriteString_D N l m H lo h.bld hl
  refine ⟨H', lo', e1, ⟨h.len, prefix_of_get h.len h.pre e3 e4, e2, ?_⟩, e3, e5⟩
  rcases h.lo with h | h <;> rcases e6 with e6 | e6 <;> subst h <;> subst e6 <;> simp [joinLo, minLo]

theorem PSt.push {H0 H L : List AObj} {N : Nat} {lo : Option Nat} {l : List UInt8} (h : PSt H0 N H lo l) : PSt H0 N (H ++ L) lo l where
  len := h.len
  pre := h.pre.trans (List.prefix_append _ _)
  bld := by
    obtain ⟨c, v, h1, h2, h3, h4⟩ := h.bld
    exact ⟨c, v, by rw [List.getElem?_append_left (List.getElem?_eq_some_iff.1 h1).1]; exact h1, h2, h3.ext, h4⟩
  lo := h.lo

theorem words_D (op : Nat) (h : op < 39) : iaddraA X 39 1 (.glob g_asm_words) (.int .u8 op) = some (.eptr (wordsL.map S) op) := by
  rw [addra_glob, if_pos (by omega), glob_words]; simp

theorem Print_D (v : AV) (l : List Instr) (hw : ∀ x ∈ l, x.wf) (hv : Rv v 5 (l.map I5)) (hl : l.length < 2^40) (H : List AObj) (lo : Option Nat) : D X (.fn (.func fn_asm_Print) [] []) [v] ⟨H, lo⟩ = some (.ret (if mayL l then .tup [S (printS l l.length), .int .i64 0] else .tup [S [], .int .i64 3]) ⟨H, lo⟩) := by
  refine D_fn pf_asm_Print rfl rfl rfl fun N hN => ?_
  cases hm : mayL l
  · simp (maxSteps := 2000000) (disch := omega) only [F1, ↓Int.cast_ofNat_Int, ↓R1, R2, C1, P1, O1, V1, V2, V3, reduceCtorEq, Nat.reduceEqDiff, Nat.reduceBEq, Nat.reduceAdd, Nat.reduceSub, Nat.reduceMul, Nat.reduceLeDiff, Nat.reduceLT, Int.reduceEq, Int.reduceAdd, Int.reduceSub, Int.reduceMul, Int.reduceLT, Int.reduceLE, Int.reduceNeg, Int.reduceToNat, wrap_i64, wrap_u64, wrap_u8, wrap_u16, wrap_u32, wrap_i32, base_get0, base_get, base_set0, base_set, base_take, take_self, take_app1, pf_asm_Print, May_D v l hw hv hl, hm]
  have hl64 : l.length ≤ 64 := by simp [mayL] at hm; exact hm.1
  have hma : ∀ x ∈ l, mayI x l.length = true := by
    simp [mayL] at hm; exact hm.2
  simp (maxSteps := 2000000) (disch := omega) only [F1, ↓Int.cast_ofNat_Int, ↓R1, R2, C1, P1, O1, V1, V2, V3, reduceCtorEq, Nat.reduceEqDiff, Nat.reduceBEq, Nat.reduceAdd, Nat.reduceSub, Nat.reduceMul, Nat.reduceLeDiff, Nat.reduceLT, Int.reduceEq, Int.reduceAdd, Int.reduceSub, Int.reduceMul, Int.reduceLT, Int.reduceLE, Int.reduceNeg, Int.reduceToNat, wrap_i64, wrap_u64, wrap_u8, wrap_u16, wrap_u32, wrap_i32, base_get0, base_get, base_set0, base_set, base_take, take_self, take_app1, pf_asm_Print, May_D v l hw hv hl, hm, hv.lenM, hN]
  refine wp_loopL l.length (fun k e H' lo' => PSt H N H' lo' (printS l k) ∧ e 0 = v ∧ e 4 = .fn (.func fn_asm_Print_1) [] [] ∧ e 5 = .ptr N 0 ∧ e 14 = v ∧ e 15 = .int .i64 l.length ∧ e 16 = .int .i64 k) 0 (by omega) ?_ ?_
  · simp (maxSteps := 2000000) (disch := omega) only [F1, ↓Int.cast_ofNat_Int, ↓R1, R2, C1, P1, O1, V1, V2, V3, reduceCtorEq, Nat.reduceEqDiff, Nat.reduceBEq, Nat.reduceAdd, Nat.reduceSub, Nat.reduceMul, Nat.reduceLeDiff, Nat.reduceLT, Int.reduceEq, Int.reduceAdd, Int.reduceSub, Int.reduceMul, Int.reduceLT, Int.reduceLE, Int.reduceNeg, Int.reduceToNat, wrap_i64, wrap_u64, wrap_u8, wrap_u16, wrap_u32, wrap_i32, base_get0, base_get, base_set0, base_set, base_take, take_self, take_app1, hN, printS]
    exact ⟨hN, List.prefix_append _ _, ⟨.nilp, .nils, by rw [base_get0 hN]; rfl, .inl rfl, .nils, fun _ => rfl⟩, .inl rfl⟩
  rintro k hk e H' lo' ⟨hP, h0, h4, h5, h14, h15, h16⟩ n hn
  simp (maxSteps := 2000000) (disch := omega) only [condK_dec, F1, ↓Int.cast_ofNat_Int, ↓R1, R2, C1, P1, O1, V1, V2, V3, reduceCtorEq, Nat.reduceEqDiff, Nat.reduceBEq, Nat.reduceAdd, Nat.reduceSub, Nat.reduceMul, Nat.reduceLeDiff, Nat.reduceLT, Int.reduceEq, Int.reduceAdd, Int.reduceSub, Int.reduceMul, Int.reduceLT, Int.reduceLE, Int.reduceNeg, Int.reduceToNat, wrap_i64, wrap_u64, wrap_u8, wrap_u16, wrap_u32, wrap_i32, base_get0, base_get, base_set0, base_set, base_take, take_self, take_app1, l1_asm_Print, h0, h4, h5, h14, h15, h16]
  refine ⟨fun h => ?_, fun h => ?_⟩
  · have hk' : k < l.length := by omega
    generalize hx : l.getD k default = x
    have hxw := hw _ (getD_mem hk')
    have hxm := hma _ (getD_mem hk')
    rw [hx] at hxw hxm
    obtain ⟨w1, w2, w3, w4, w5⟩ := hxw
    simp (maxSteps := 2000000) (disch := omega) only [F1, ↓Int.cast_ofNat_Int, ↓R1, R2, C1, P1, O1, V1, V2, V3, reduceCtorEq, Nat.reduceEqDiff, Nat.reduceBEq, Nat.reduceAdd, Nat.reduceSub, Nat.reduceMul, Nat.reduceLeDiff, Nat.reduceLT, Int.reduceEq, Int.reduceAdd, Int.reduceSub, Int.reduceMul, Int.reduceLT, Int.reduceLE, Int.reduceNeg, Int.reduceToNat, wrap_i64, wrap_u64, wrap_u8, wrap_u16, wrap_u32, wrap_i32, base_get0, base_get, base_set0, base_set, base_take, take_self, take_app1, hv.addrM, hv.loadM, hx, I5, hn]
    refine ⟨h, ?_⟩
    have hNn : N < n := by
      obtain ⟨c, v, h1, _⟩ := hP.bld
      rw [← hn]; exact (List.getElem?_eq_some_iff.1 h1).1
    obtain ⟨H1, hH1⟩ : ∃ H1, H' ++ [AObj.box [.int .i64 k] none, AObj.box [.int .u8 x.op, .int .u8 x.a, .int .u8 x.b, .int .u8 x.c, .int .u16 x.n] none] = H1 := ⟨_, rfl⟩
    have b6 : H1[n]? = some (.box [.int .i64 k] none) := by rw [← hH1, base_get0 hn]; rfl
    have b7 : H1[n + 1]? = some (.box [.int .u8 x.op, .int .u8 x.a, .int .u8 x.b, .int .u8 x.c, .int .u16 x.n] none) := by rw [← hH1, base_get hn]; rfl
    have hP1 : PSt H N H1 lo' (printS l k) := hH1 ▸ hP.push
    rw [hH1]
    have hb := printS_len l hw (by omega) k (by omega)
    have hlen : (printS l k).length ≤ 64000000 := by omega
    have hd := digits_len k
    have l1 := wordS_len x.op
    have l2 := digits_len x.a
    have l3 := digits_len x.b
    have l4 := digits_len x.c
    have l5 := digits_len x.n
    have hc := ContainsFunc_D v (.fn (.func fn_asm_Print_2) [] [.ptr n 0]) l hv hl (fun y => goes y.op && decide (y.n = k)) H1 lo' (fun y hy => Print2_D y (hw y hy) k n H1 none b6)
    rw [h0, hc]
    clear hH1 hP
    obtain ⟨m, hq⟩ : ∃ m, m = (if l.any (fun y => goes y.op && decide (y.n = k)) = true then [108] ++ digits k ++ [58, 10] else []) := ⟨_, rfl⟩
    have hml : m.length ≤ k + 4 := by
      rw [hq]; split
      · simp; omega
      · simp
    simp (maxSteps := 2000000) (disch := omega) only [F1, ↓Int.cast_ofNat_Int, ↓R1, R2, C1, P1, O1, V1, V2, V3, reduceCtorEq, Nat.reduceEqDiff, Nat.reduceBEq, Nat.reduceAdd, Nat.reduceSub, Nat.reduceMul, Nat.reduceLeDiff, Nat.reduceLT, Int.reduceEq, Int.reduceAdd, Int.reduceSub, Int.reduceMul, Int.reduceLT, Int.reduceLE, Int.reduceNeg, Int.reduceToNat, wrap_i64, wrap_u64, wrap_u8, wrap_u16, wrap_u32, wrap_i32, base_get0, base_get, base_set0, base_set, base_take, take_self, take_app1]
    refine condK_keepP 5 (.ptr N 0) [0, 4, 6, 7, 14, 15, 16] (fun σ => ∃ H2 lo2, σ = ⟨H2, lo2⟩ ∧ PSt H N H2 lo2 (printS l k ++ m) ∧ H2[n]? = some (.box [.int .i64 k] none) ∧ H2[n + 1]? = some (.box [.int .u8 x.op, .int .u8 x.a, .int .u8 x.b, .int .u8 x.c, .int .u16 x.n] none)) rfl ?_ ?_
    · rw [condK_any]
      refine ⟨fun ha => ?_, fun ha => ?_⟩
      · rw [if_pos ha] at hq
        obtain ⟨H2, lo2, e1, e2, e3, e4⟩ := hP1.write (m := m) (by unfold room; omega)
        have e1' : D X (.fn (.func fn_Pstrings_Builder_WriteString) [] []) [.ptr N 0, S (108 :: (digits k ++ [58, 10]))] ⟨H1, lo'⟩ = some (.ret (.tup [.int .i64 m.length, .nili]) ⟨H2, lo2⟩) := by rw [← e1, hq]; rfl
        simp (maxSteps := 2000000) (disch := omega) only [F1, ↓Int.cast_ofNat_Int, ↓R1, R2, C1, P1, O1, V1, V2, V3, reduceCtorEq, Nat.reduceEqDiff, Nat.reduceBEq, Nat.reduceAdd, Nat.reduceSub, Nat.reduceMul, Nat.reduceLeDiff, Nat.reduceLT, Int.reduceEq, Int.reduceAdd, Int.reduceSub, Int.reduceMul, Int.reduceLT, Int.reduceLE, Int.reduceNeg, Int.reduceToNat, wrap_i64, wrap_u64, wrap_u8, wrap_u16, wrap_u32, wrap_i32, base_get0, base_get, base_set0, base_set, base_take, take_self, take_app1, h4, h5, b6, Print1_D k, e1']
        refine ⟨by unfold strRoom; omega, H2, lo2, rfl, e2, e4 _ _ _ (by omega) b6, e4 _ _ _ (by omega) b7⟩
      · rw [if_neg (by rw [ha]; decide)] at hq
        simp (maxSteps := 2000000) (disch := omega) only [F1, ↓Int.cast_ofNat_Int, ↓R1, R2, C1, P1, O1, V1, V2, V3, reduceCtorEq, Nat.reduceEqDiff, Nat.reduceBEq, Nat.reduceAdd, Nat.reduceSub, Nat.reduceMul, Nat.reduceLeDiff, Nat.reduceLT, Int.reduceEq, Int.reduceAdd, Int.reduceSub, Int.reduceMul, Int.reduceLT, Int.reduceLE, Int.reduceNeg, Int.reduceToNat, wrap_i64, wrap_u64, wrap_u8, wrap_u16, wrap_u32, wrap_i32, base_get0, base_get, base_set0, base_set, base_take, take_self, take_app1, h5]
        exact ⟨H1, lo', rfl, by rw [hq, List.append_nil]; exact hP1, b6, b7⟩
    clear hP1 b6 b7 hc
    rintro e0 _ ⟨H2, lo2, rfl, hP2, b6, b7⟩
    simp (maxSteps := 2000000) (disch := omega) only [F1, ↓Int.cast_ofNat_Int, ↓R1, R2, C1, P1, O1, V1, V2, V3, reduceCtorEq, Nat.reduceEqDiff, Nat.reduceBEq, Nat.reduceAdd, Nat.reduceSub, Nat.reduceMul, Nat.reduceLeDiff, Nat.reduceLT, Int.reduceEq, Int.reduceAdd, Int.reduceSub, Int.reduceMul, Int.reduceLT, Int.reduceLE, Int.reduceNeg, Int.reduceToNat, wrap_i64, wrap_u64, wrap_u8, wrap_u16, wrap_u32, wrap_i32, base_get0, base_get, base_set0, base_set, base_take, take_self, take_app1, h0, h4, h14, h15, h16, b6, b7, Itoa_D x.n, goes_D]
    obtain ⟨g, hg⟩ : ∃ g, g = (if goes x.op = true then [(108 : UInt8)] else []) := ⟨_, rfl⟩
    have l6 : g.length ≤ 1 := by rw [hg]; split <;> simp
    refine condK_keep 8 (S (g ++ digits x.n)) [0, 4, 5, 6, 7, 14, 15, 16] rfl ?_ fun e1 => ?_
    · rw [condK_any]
      refine ⟨fun ha => ?_, fun ha => ?_⟩
      · rw [if_pos ha] at hg
        simp (maxSteps := 2000000) (disch := omega) only [F1, ↓Int.cast_ofNat_Int, ↓R1, R2, C1, P1, O1, V1, V2, V3, reduceCtorEq, Nat.reduceEqDiff, Nat.reduceBEq, Nat.reduceAdd, Nat.reduceSub, Nat.reduceMul, Nat.reduceLeDiff, Nat.reduceLT, Int.reduceEq, Int.reduceAdd, Int.reduceSub, Int.reduceMul, Int.reduceLT, Int.reduceLE, Int.reduceNeg, Int.reduceToNat, wrap_i64, wrap_u64, wrap_u8, wrap_u16, wrap_u32, wrap_i32, base_get0, base_get, base_set0, base_set, base_take, take_self, take_app1, h4, b7, Print1_D x.n, hg]
      · rw [if_neg (by rw [ha]; decide)] at hg
        simp (maxSteps := 2000000) (disch := omega) only [F1, ↓Int.cast_ofNat_Int, ↓R1, R2, C1, P1, O1, V1, V2, V3, reduceCtorEq, Nat.reduceEqDiff, Nat.reduceBEq, Nat.reduceAdd, Nat.reduceSub, Nat.reduceMul, Nat.reduceLeDiff, Nat.reduceLT, Int.reduceEq, Int.reduceAdd, Int.reduceSub, Int.reduceMul, Int.reduceLT, Int.reduceLE, Int.reduceNeg, Int.reduceToNat, wrap_i64, wrap_u64, wrap_u8, wrap_u16, wrap_u32, wrap_i32, base_get0, base_get, base_set0, base_set, base_take, take_self, take_app1, hg]
    have hop : x.op < 39 := by
      simp [mayI] at hxm; omega
    have hwd := words_at hop
    obtain ⟨H3, lo3, f1, hP3, f3, f4⟩ := hP2.write (m := wordS x.op) (by simp; unfold room; omega)
    have c7 := f4 _ _ _ (by omega) b7
    simp (maxSteps := 2000000) (disch := omega) only [F1, ↓Int.cast_ofNat_Int, ↓R1, R2, C1, P1, O1, V1, V2, V3, reduceCtorEq, Nat.reduceEqDiff, Nat.reduceBEq, Nat.reduceAdd, Nat.reduceSub, Nat.reduceMul, Nat.reduceLeDiff, Nat.reduceLT, Int.reduceEq, Int.reduceAdd, Int.reduceSub, Int.reduceMul, Int.reduceLT, Int.reduceLE, Int.reduceNeg, Int.reduceToNat, wrap_i64, wrap_u64, wrap_u8, wrap_u16, wrap_u32, wrap_i32, base_get0, base_get, base_set0, base_set, base_take, take_self, take_app1, b7, words_D x.op hop, hwd, f1, c7]
    rw [wp_unroll]
    obtain ⟨H4, lo4, g1, hP4, g3, g4⟩ := hP3.write (m := 32 :: 114 :: digits x.a) (by simp; unfold room; omega)
    simp (maxSteps := 2000000) (disch := omega) only [F1, ↓Int.cast_ofNat_Int, ↓R1, R2, C1, P1, O1, V1, V2, V3, reduceCtorEq, Nat.reduceEqDiff, Nat.reduceBEq, Nat.reduceAdd, Nat.reduceSub, Nat.reduceMul, Nat.reduceLeDiff, Nat.reduceLT, Int.reduceEq, Int.reduceAdd, Int.reduceSub, Int.reduceMul, Int.reduceLT, Int.reduceLE, Int.reduceNeg, Int.reduceToNat, wrap_i64, wrap_u64, wrap_u8, wrap_u16, wrap_u32, wrap_i32, base_get0, base_get, base_set0, base_set, base_take, take_self, take_app1, l2_asm_Print, Itoa_D x.a, g1]
    refine ⟨by unfold strRoom; omega, ?_⟩
    rw [wp_unroll]
    obtain ⟨H5, lo5, i1, hP5, i3, i4⟩ := hP4.write (m := 32 :: 114 :: digits x.b) (by simp; unfold room; omega)
    simp (maxSteps := 2000000) (disch := omega) only [F1, ↓Int.cast_ofNat_Int, ↓R1, R2, C1, P1, O1, V1, V2, V3, reduceCtorEq, Nat.reduceEqDiff, Nat.reduceBEq, Nat.reduceAdd, Nat.reduceSub, Nat.reduceMul, Nat.reduceLeDiff, Nat.reduceLT, Int.reduceEq, Int.reduceAdd, Int.reduceSub, Int.reduceMul, Int.reduceLT, Int.reduceLE, Int.reduceNeg, Int.reduceToNat, wrap_i64, wrap_u64, wrap_u8, wrap_u16, wrap_u32, wrap_i32, base_get0, base_get, base_set0, base_set, base_take, take_self, take_app1, l2_asm_Print, Itoa_D x.b, i1]
    refine ⟨by unfold strRoom; omega, ?_⟩
    rw [wp_unroll]
    obtain ⟨H6, lo6, j1, hP6, j3, j4⟩ := hP5.write (m := 32 :: 114 :: digits x.c) (by simp; unfold room; omega)
    simp (maxSteps := 2000000) (disch := omega) only [F1, ↓Int.cast_ofNat_Int, ↓R1, R2, C1, P1, O1, V1, V2, V3, reduceCtorEq, Nat.reduceEqDiff, Nat.reduceBEq, Nat.reduceAdd, Nat.reduceSub, Nat.reduceMul, Nat.reduceLeDiff, Nat.reduceLT, Int.reduceEq, Int.reduceAdd, Int.reduceSub, Int.reduceMul, Int.reduceLT, Int.reduceLE, Int.reduceNeg, Int.reduceToNat, wrap_i64, wrap_u64, wrap_u8, wrap_u16, wrap_u32, wrap_i32, base_get0, base_get, base_set0, base_set, base_take, take_self, take_app1, l2_asm_Print, Itoa_D x.c, j1]
    refine ⟨by unfold strRoom; omega, ?_⟩
    rw [wp_unroll]
    obtain ⟨H7, lo7, k1, hP7, k3, k4⟩ := hP6.write (m := 32 :: (g ++ (digits x.n ++ [10]))) (by simp; unfold room; omega)
    simp (maxSteps := 2000000) (disch := omega) only [F1, ↓Int.cast_ofNat_Int, ↓R1, R2, C1, P1, O1, V1, V2, V3, reduceCtorEq, Nat.reduceEqDiff, Nat.reduceBEq, Nat.reduceAdd, Nat.reduceSub, Nat.reduceMul, Nat.reduceLeDiff, Nat.reduceLT, Int.reduceEq, Int.reduceAdd, Int.reduceSub, Int.reduceMul, Int.reduceLT, Int.reduceLE, Int.reduceNeg, Int.reduceToNat, wrap_i64, wrap_u64, wrap_u8, wrap_u16, wrap_u32, wrap_i32, base_get0, base_get, base_set0, base_set, base_take, take_self, take_app1, l2_asm_Print, k1, h15]
    refine ⟨by unfold strRoom; omega, by unfold strRoom; omega, hk', ?_⟩
    have e : printS l (k + 1) = printS l k ++ m ++ wordS x.op ++ 32 :: 114 :: digits x.a ++ 32 :: 114 :: digits x.b ++ 32 :: 114 :: digits x.c ++ 32 :: (g ++ (digits x.n ++ [10])) := by
      simp only [printS, hx]
      unfold lineS
      rw [← hg, ← hq]
      simp
    rw [e]
    exact hP7
  · have e1 : l.length = k := by omega
    obtain ⟨H2, f1, f2, f3⟩ := String_D N (printS l k) H' lo' hP.bld (by have := printS_len l hw (by omega) k (by omega); unfold room; omega)
    have hpr : H <+: H2 := prefix_of_get hN hP.pre (by omega) f3
    rw [e1]
    simp (maxSteps := 2000000) (disch := omega) only [↓Int.cast_ofNat_Int, ↓R1, R2, C1, P1, O1, V1, V2, V3, reduceCtorEq, Nat.reduceEqDiff, Nat.reduceBEq, Nat.reduceAdd, Nat.reduceSub, Nat.reduceMul, Nat.reduceLeDiff, Nat.reduceLT, Int.reduceEq, Int.reduceAdd, Int.reduceSub, Int.reduceMul, Int.reduceLT, Int.reduceLE, Int.reduceNeg, Int.reduceToNat, wrap_i64, wrap_u64, wrap_u8, wrap_u16, wrap_u32, wrap_i32, base_get0, base_get, base_set0, base_set, base_take, take_self, take_app1, f1, h5]
    rcases hP.lo with rfl | rfl
    · simp (maxSteps := 2000000) (disch := omega) only [F1, ↓Int.cast_ofNat_Int, ↓R1, R2, C1, P1, O1, V1, V2, V3, reduceCtorEq, Nat.reduceEqDiff, Nat.reduceBEq, Nat.reduceAdd, Nat.reduceSub, Nat.reduceMul, Nat.reduceLeDiff, Nat.reduceLT, Int.reduceEq, Int.reduceAdd, Int.reduceSub, Int.reduceMul, Int.reduceLT, Int.reduceLE, Int.reduceNeg, Int.reduceToNat, wrap_i64, wrap_u64, wrap_u8, wrap_u16, wrap_u32, wrap_i32, base_get0, base_get, base_set0, base_set, base_take, take_self, take_app1, take_pre hN hpr]
    · simp (maxSteps := 2000000) (disch := omega) only [F1, ↓Int.cast_ofNat_Int, ↓R1, R2, C1, P1, O1, V1, V2, V3, reduceCtorEq, Nat.reduceEqDiff, Nat.reduceBEq, Nat.reduceAdd, Nat.reduceSub, Nat.reduceMul, Nat.reduceLeDiff, Nat.reduceLT, Int.reduceEq, Int.reduceAdd, Int.reduceSub, Int.reduceMul, Int.reduceLT, Int.reduceLE, Int.reduceNeg, Int.reduceToNat, wrap_i64, wrap_u64, wrap_u8, wrap_u16, wrap_u32, wrap_i32, base_get0, base_get, base_set0, base_set, base_take, take_self, take_app1, take_pre hN hpr, Nat.le_refl]

end Go.Proofs.YtoolhdikfdjikaaDoor

/- Numbers out of text: strconv.ParseUint of sixteen bits, and asm.number. -/
namespace Go.Proofs.YtoolhdikfdjikaaDoor
open Go Go.Den
set_option maxRecDepth 10000

theorem FormatUint_D (n : Nat) (h : n < 100000) (H : List AObj) (lo : Option Nat) : D X (.fn (.func fn_strconv_FormatUint) [] []) [.int .u64 n, .int .i64 10] ⟨H, lo⟩ = some (.ret (S (digits n)) ⟨H, lo⟩) := by
  have key : ∀ H lo, D X (.fn (.func fn_istrconv_FormatUint) [] []) [.int .u64 n, .int .i64 10] ⟨H, lo⟩ = some (.ret (S (digits n)) ⟨H, lo⟩) := by
    intro H lo
    refine D_fn pf_istrconv_FormatUint rfl rfl rfl fun N hN => ?_
    by_cases hs : n < 100
    · simp (maxSteps := 2000000) (disch := omega) only [condK_dec, F1, ↓Int.cast_ofNat_Int, ↓R1, R2, C1, P1, O1, V1, V2, V3, reduceCtorEq, Nat.reduceEqDiff, Nat.reduceBEq, Nat.reduceAdd, Nat.reduceSub, Nat.reduceMul, Nat.reduceLeDiff, Nat.reduceLT, Int.reduceEq, Int.reduceAdd, Int.reduceSub, Int.reduceMul, Int.reduceLT, Int.reduceLE, Int.reduceNeg, Int.reduceToNat, wrap_i64, wrap_u64, wrap_u8, wrap_u16, wrap_u32, wrap_i32, base_get0, base_get, base_set0, base_set, base_take, take_self, take_app1, pf_istrconv_FormatUint, small_D n hs]
      (repeat' (first | apply And.intro | intro _))
      all_goals first | omega | rfl | trivial
    have hd := numDigits_D n (by omega) (by omega)
    rw [Int.toNat_natCast] at hd
    have c : (100 ≤ n ∧ n < 1000) ∨ (1000 ≤ n ∧ n < 10000) ∨ (10000 ≤ n ∧ n < 100000) := by omega
    rcases c with c | c | c
    · have e : nd n = 3 := by unfold nd; (repeat' split) <;> omega
      rw [e] at hd
      have hf := fmt_E3 n c.1 c.2 N H hN none
      rw [digits_3 c.1 c.2]
      simp only [z24, List.replicate_succ, List.replicate_zero, List.map_cons, List.map_nil, List.cons_append, List.nil_append] at hf
      simp (maxSteps := 2000000) (disch := omega) only [condK_dec, F1, ↓Int.cast_ofNat_Int, ↓R1, R2, C1, P1, O1, V1, V2, V3, reduceCtorEq, Nat.reduceEqDiff, Nat.reduceBEq, Nat.reduceAdd, Nat.reduceSub, Nat.reduceMul, Nat.reduceLeDiff, Nat.reduceLT, Int.reduceEq, Int.reduceAdd, Int.reduceSub, Int.reduceMul, Int.reduceLT, Int.reduceLE, Int.reduceNeg, Int.reduceToNat, wrap_i64, wrap_u64, wrap_u8, wrap_u16, wrap_u32, wrap_i32, base_get0, base_get, base_set0, base_set, base_take, take_self, take_app1, pf_istrconv_FormatUint, hd, hf, hN, ofNat_toNat]
      (repeat' (first | apply And.intro | intro _))
      all_goals first | omega | rfl | trivial
    · have e : nd n = 4 := by unfold nd; (repeat' split) <;> omega
      rw [e] at hd
      have hf := fmt_E4 n c.1 c.2 N H hN none
      rw [digits_4 c.1 c.2]
      simp only [z24, List.replicate_succ, List.replicate_zero, List.map_cons, List.map_nil, List.cons_append, List.nil_append] at hf
      simp (maxSteps := 2000000) (disch := omega) only [condK_dec, F1, ↓Int.cast_ofNat_Int, ↓R1, R2, C1, P1, O1, V1, V2, V3, reduceCtorEq, Nat.reduceEqDiff, Nat.reduceBEq, Nat.reduceAdd, Nat.reduceSub, Nat.reduceMul, Nat.reduceLeDiff, Nat.reduceLT, Int.reduceEq, Int.reduceAdd, Int.reduceSub, Int.reduceMul, Int.reduceLT, Int.reduceLE, Int.reduceNeg, Int.reduceToNat, wrap_i64, wrap_u64, wrap_u8, wrap_u16, wrap_u32, wrap_i32, base_get0, base_get, base_set0, base_set, base_take, take_self, take_app1, pf_istrconv_FormatUint, hd, hf, hN, ofNat_toNat]
      (repeat' (first | apply And.intro | intro _))
      all_goals first | omega | rfl | trivial
    · have e : nd n = 5 := by unfold nd; (repeat' split) <;> omega
      rw [e] at hd
      have hf := fmt_E5 n c.1 c.2 N H hN none
      rw [digits_5 c.1 c.2]
      simp only [z24, List.replicate_succ, List.replicate_zero, List.map_cons, List.map_nil, List.cons_append, List.nil_append] at hf
      simp (maxSteps := 2000000) (disch := omega) only [condK_dec, F1, ↓Int.cast_ofNat_Int, ↓R1, R2, C1, P1, O1, V1, V2, V3, reduceCtorEq, Nat.reduceEqDiff, Nat.reduceBEq, Nat.reduceAdd, Nat.reduceSub, Nat.reduceMul, Nat.reduceLeDiff, Nat.reduceLT, Int.reduceEq, Int.reduceAdd, Int.reduceSub, Int.reduceMul, Int.reduceLT, Int.reduceLE, Int.reduceNeg, Int.reduceToNat, wrap_i64, wrap_u64, wrap_u8, wrap_u16, wrap_u32, wrap_i32, base_get0, base_get, base_set0, base_set, base_take, take_self, take_app1, pf_istrconv_FormatUint, hd, hf, hN, ofNat_toNat]
      (repeat' (first | apply And.intro | intro _))
      all_goals first | omega | rfl | trivial
  refine D_fn pf_strconv_FormatUint rfl rfl rfl fun N hN => ?_
  simp (maxSteps := 2000000) (disch := omega) only [F1, ↓Int.cast_ofNat_Int, ↓R1, R2, C1, P1, O1, V1, V2, V3, reduceCtorEq, Nat.reduceEqDiff, Nat.reduceBEq, Nat.reduceAdd, Nat.reduceSub, Nat.reduceMul, Nat.reduceLeDiff, Nat.reduceLT, Int.reduceEq, Int.reduceAdd, Int.reduceSub, Int.reduceMul, Int.reduceLT, Int.reduceLE, Int.reduceNeg, Int.reduceToNat, wrap_i64, wrap_u64, wrap_u8, wrap_u16, wrap_u32, wrap_i32, base_get0, base_get, base_set0, base_set, base_take, take_self, take_app1, pf_strconv_FormatUint, key]

inductive PU where
  | ok (n : Nat)
  | syn
  | rng
  deriving DecidableEq

def isDg (c : UInt8) : Bool := 48 ≤ c.toNat && c.toNat ≤ 57

def puL : List UInt8 → Nat → PU
  | [], n => .ok n
  | c :: cs, n => if isDg c then (if n * 10 + (c.toNat - 48) > 65535 then .rng else puL cs (n * 10 + (c.toNat - 48))) else .syn

def puV : PU → AV
  | .ok n => .tup [.int .u64 n, .nili]
  | .syn => .tup [.int .u64 0, .ifc ty_strconv_Error (.int .i64 2)]
  | .rng => .tup [.int .u64 65535, .ifc ty_strconv_Error (.int .i64 1)]

theorem puL_ok : ∀ (l : List UInt8) (n m : Nat), n ≤ 65535 → puL l n = .ok m → m ≤ 65535
  | [], n, m, hn, h => by simp [puL] at h; omega
  | c :: cs, n, m, hn, h => by
    simp only [puL] at h
    split at h
    · split at h
      · cases h
      · exact puL_ok cs _ m (by omega) h
    · cases h

theorem u8_or (a : Int) (h0 : 0 ≤ a) (h1 : a < 256) : 0 ≤ IntKind.u8.wrap (BitVec.ofInt IntKind.u8.bits a ||| BitVec.ofInt IntKind.u8.bits 32).toNat ∧ IntKind.u8.wrap (BitVec.ofInt IntKind.u8.bits a ||| BitVec.ofInt IntKind.u8.bits 32).toNat < 256 := by
  have : ∀ a : Nat, a < 256 → 0 ≤ IntKind.u8.wrap (BitVec.ofInt IntKind.u8.bits (a : Int) ||| BitVec.ofInt IntKind.u8.bits 32).toNat ∧ IntKind.u8.wrap (BitVec.ofInt IntKind.u8.bits (a : Int) ||| BitVec.ofInt IntKind.u8.bits 32).toNat < 256 := by decide
  obtain ⟨n, rfl⟩ := Int.eq_ofNat_of_zero_le h0
  exact this n (by omega)

/-- lower: some byte. -/
theorem lower_D (a : Int) (h0 : 0 ≤ a) (h1 : a < 256) : ∃ b : Nat, b < 256 ∧ ∀ H lo, D X (.fn (.func fn_istrconv_lower) [] []) [.int .u8 a] ⟨H, lo⟩ = some (.ret (.int .u8 b) ⟨H, lo⟩) := by
  obtain ⟨e1, e2⟩ := u8_or a h0 h1
  obtain ⟨b, hb⟩ := Int.eq_ofNat_of_zero_le e1
  refine ⟨b, by omega, fun H lo => ?_⟩
  refine D_fn pf_istrconv_lower rfl rfl rfl fun N hN => ?_
  simp (maxSteps := 2000000) (disch := omega) only [F1, ↓Int.cast_ofNat_Int, ↓R1, R2, C1, P1, O1, V1, V2, V3, reduceCtorEq, Nat.reduceEqDiff, Nat.reduceBEq, Nat.reduceAdd, Nat.reduceSub, Nat.reduceMul, Nat.reduceLeDiff, Nat.reduceLT, Int.reduceEq, Int.reduceAdd, Int.reduceSub, Int.reduceMul, Int.reduceLT, Int.reduceLE, Int.reduceNeg, Int.reduceToNat, wrap_i64, wrap_u64, wrap_u8, wrap_u16, wrap_u32, wrap_i32, base_get0, base_get, base_set0, base_set, base_take, take_self, take_app1, pf_istrconv_lower, hb]

theorem s2b_S (l : List UInt8) : s2bA (S l) = if l.length ≤ room then some (.sl (bs l) false) else none := by
  simp only [s2bA, S, size_mk, bytesA, bs]

theorem bs_rv (l : List UInt8) : Rv (.sl (bs l) false) 1 (l.map fun b => [AV.int .u8 b.toNat]) := Rv.sl (bs_sz l)

theorem iParseUint_D (l : List UInt8) (hl : l.length ≤ 1000000) (H : List AObj) (lo : Option Nat) : D X (.fn (.func fn_istrconv_ParseUint) [] []) [S l, .int .i64 10, .int .i64 16] ⟨H, lo⟩ = some (.ret (puV (if l = [] then .syn else puL l 0)) ⟨H, lo⟩) := by
  refine D_fn pf_istrconv_ParseUint rfl rfl rfl fun N hN => ?_
  have s16 : shfA .shl (.int .u64 1) (.int .u64 16) = some (.int .u64 65536) := rfl
  simp (maxSteps := 2000000) (disch := omega) only [condK_dec, F1, ↓Int.cast_ofNat_Int, ↓R1, R2, C1, P1, O1, V1, V2, V3, reduceCtorEq, Nat.reduceEqDiff, Nat.reduceBEq, Nat.reduceAdd, Nat.reduceSub, Nat.reduceMul, Nat.reduceLeDiff, Nat.reduceLT, Int.reduceEq, Int.reduceAdd, Int.reduceSub, Int.reduceMul, Int.reduceLT, Int.reduceLE, Int.reduceNeg, Int.reduceToNat, wrap_i64, wrap_u64, wrap_u8, wrap_u16, wrap_u32, wrap_i32, base_get0, base_get, base_set0, base_set, base_take, take_self, take_app1, pf_istrconv_ParseUint, s16, s2b_S]
  refine ⟨fun h => by simp [h, puV], fun h => ?_⟩
  refine ⟨by unfold room; omega, ?_⟩
  have hv := bs_rv l
  obtain ⟨v, hvv⟩ : ∃ v, AV.sl (bs l) false = v := ⟨_, rfl⟩
  rw [hvv] at hv
  refine wp_loopN l.length (fun k e H' => H' = H ∧ e 1 = .int .i64 10 ∧ e 8 = .bool false ∧ e 9 = S l ∧ e 10 = .int .u64 1844674407370955162 ∧ e 11 = .int .u64 65535 ∧ e 12 = .bool false ∧ e 99 = v ∧ e 100 = .int .i64 l.length ∧ e 101 = .int .i64 k ∧
    ∃ n : Nat, n ≤ 65535 ∧ e 13 = .int .u64 n ∧ puL l 0 = puL (l.drop k) n) 0 (by omega) ?_ ?_
  · simp (maxSteps := 2000000) (disch := omega) only [F1, ↓Int.cast_ofNat_Int, ↓R1, R2, C1, P1, O1, V1, V2, V3, reduceCtorEq, Nat.reduceEqDiff, Nat.reduceBEq, Nat.reduceAdd, Nat.reduceSub, Nat.reduceMul, Nat.reduceLeDiff, Nat.reduceLT, Int.reduceEq, Int.reduceAdd, Int.reduceSub, Int.reduceMul, Int.reduceLT, Int.reduceLE, Int.reduceNeg, Int.reduceToNat, wrap_i64, wrap_u64, wrap_u8, wrap_u16, wrap_u32, wrap_i32, base_get0, base_get, base_set0, base_set, base_take, take_self, take_app1, bs_len, hvv]
    exact ⟨0, by decide, rfl, rfl⟩
  rintro k hk e H' ⟨rfl, h1, h8, h9, h10, h11, h12, h99, h100, h101, n, hn, h13, hp⟩ n' hn'
  simp (maxSteps := 2000000) (disch := omega) only [condK_dec, F1, ↓Int.cast_ofNat_Int, ↓R1, R2, C1, P1, O1, V1, V2, V3, reduceCtorEq, Nat.reduceEqDiff, Nat.reduceBEq, Nat.reduceAdd, Nat.reduceSub, Nat.reduceMul, Nat.reduceLeDiff, Nat.reduceLT, Int.reduceEq, Int.reduceAdd, Int.reduceSub, Int.reduceMul, Int.reduceLT, Int.reduceLE, Int.reduceNeg, Int.reduceToNat, wrap_i64, wrap_u64, wrap_u8, wrap_u16, wrap_u32, wrap_i32, base_get0, base_get, base_set0, base_set, base_take, take_self, take_app1, l1_istrconv_ParseUint, h1, h8, h9, h10, h11, h12, h99, h100, h101, h13]
  refine ⟨fun hlt => ?_, fun hge => ?_⟩
  · have hk' : k < l.length := by omega
    have hd : l.drop k = l.getD k default :: l.drop (k + 1) := by
      rw [List.getD_eq_getElem?_getD, List.getElem?_eq_getElem hk']; exact List.drop_eq_getElem_cons hk'
    rw [hd] at hp
    simp (maxSteps := 2000000) (disch := omega) only [F1, ↓Int.cast_ofNat_Int, ↓R1, R2, C1, P1, O1, V1, V2, V3, reduceCtorEq, Nat.reduceEqDiff, Nat.reduceBEq, Nat.reduceAdd, Nat.reduceSub, Nat.reduceMul, Nat.reduceLeDiff, Nat.reduceLT, Int.reduceEq, Int.reduceAdd, Int.reduceSub, Int.reduceMul, Int.reduceLT, Int.reduceLE, Int.reduceNeg, Int.reduceToNat, wrap_i64, wrap_u64, wrap_u8, wrap_u16, wrap_u32, wrap_i32, base_get0, base_get, base_set0, base_set, base_take, take_self, take_app1, hv.addrM, hv.loadM, h99]
    refine ⟨hlt, ?_⟩
    generalize l.getD k default = c at hp
    have hc := c.toNat_lt
    refine gK_keep 106 (.bool false) [1, 8, 9, 10, 11, 12, 13, 15, 16, 99, 100, 101] rfl rfl ?_ fun e0 => ?_
    · simp (maxSteps := 2000000) (disch := omega) only [R4, F1, ↓Int.cast_ofNat_Int, ↓R1, R2, C1, P1, O1, V1, V2, V3, reduceCtorEq, Nat.reduceEqDiff, Nat.reduceBEq, Nat.reduceAdd, Nat.reduceSub, Nat.reduceMul, Nat.reduceLeDiff, Nat.reduceLT, Int.reduceEq, Int.reduceAdd, Int.reduceSub, Int.reduceMul, Int.reduceLT, Int.reduceLE, Int.reduceNeg, Int.reduceToNat, wrap_i64, wrap_u64, wrap_u8, wrap_u16, wrap_u32, wrap_i32, base_get0, base_get, base_set0, base_set, base_take, take_self, take_app1, h8]
      (repeat' (first | apply And.intro | intro _))
      all_goals trivial
    simp (maxSteps := 2000000) (disch := omega) only [F1, ↓Int.cast_ofNat_Int, ↓R1, R2, C1, P1, O1, V1, V2, V3, reduceCtorEq, Nat.reduceEqDiff, Nat.reduceBEq, Nat.reduceAdd, Nat.reduceSub, Nat.reduceMul, Nat.reduceLeDiff, Nat.reduceLT, Int.reduceEq, Int.reduceAdd, Int.reduceSub, Int.reduceMul, Int.reduceLT, Int.reduceLE, Int.reduceNeg, Int.reduceToNat, wrap_i64, wrap_u64, wrap_u8, wrap_u16, wrap_u32, wrap_i32, base_get0, base_get, base_set0, base_set, base_take, take_self, take_app1, h1, h8, h9, h10, h11, h12, h99, h100, h101, h13]
    refine gK_keep 112 (.bool (isDg c)) [1, 8, 9, 10, 11, 12, 13, 15, 16, 99, 100, 101] rfl rfl ?_ fun e0 => ?_
    · simp (maxSteps := 2000000) (disch := omega) only [R4, F1, ↓Int.cast_ofNat_Int, ↓R1, R2, C1, P1, O1, V1, V2, V3, reduceCtorEq, Nat.reduceEqDiff, Nat.reduceBEq, Nat.reduceAdd, Nat.reduceSub, Nat.reduceMul, Nat.reduceLeDiff, Nat.reduceLT, Int.reduceEq, Int.reduceAdd, Int.reduceSub, Int.reduceMul, Int.reduceLT, Int.reduceLE, Int.reduceNeg, Int.reduceToNat, wrap_i64, wrap_u64, wrap_u8, wrap_u16, wrap_u32, wrap_i32, base_get0, base_get, base_set0, base_set, base_take, take_self, take_app1, h8]
      (repeat' (first | apply And.intro | intro _))
      all_goals (refine congrArg AV.bool (Bool.eq_iff_iff.2 ?_); simp [isDg]; try (intros; omega))
    simp (maxSteps := 2000000) (disch := omega) only [F1, ↓Int.cast_ofNat_Int, ↓R1, R2, C1, P1, O1, V1, V2, V3, reduceCtorEq, Nat.reduceEqDiff, Nat.reduceBEq, Nat.reduceAdd, Nat.reduceSub, Nat.reduceMul, Nat.reduceLeDiff, Nat.reduceLT, Int.reduceEq, Int.reduceAdd, Int.reduceSub, Int.reduceMul, Int.reduceLT, Int.reduceLE, Int.reduceNeg, Int.reduceToNat, wrap_i64, wrap_u64, wrap_u8, wrap_u16, wrap_u32, wrap_i32, base_get0, base_get, base_set0, base_set, base_take, take_self, take_app1, h1, h8, h9, h10, h11, h12, h99, h100, h101, h13]
    rw [condK_any]
    refine ⟨fun hdg => ?_, fun hdg => ?_⟩
    · have hdg' : 48 ≤ c.toNat ∧ c.toNat ≤ 57 := by simpa [isDg] using hdg
      simp only [puL, hdg, if_true] at hp
      simp (maxSteps := 2000000) (disch := omega) only [condK_dec, F1, ↓Int.cast_ofNat_Int, ↓R1, R2, C1, P1, O1, V1, V2, V3, reduceCtorEq, Nat.reduceEqDiff, Nat.reduceBEq, Nat.reduceAdd, Nat.reduceSub, Nat.reduceMul, Nat.reduceLeDiff, Nat.reduceLT, Int.reduceEq, Int.reduceAdd, Int.reduceSub, Int.reduceMul, Int.reduceLT, Int.reduceLE, Int.reduceNeg, Int.reduceToNat, wrap_i64, wrap_u64, wrap_u8, wrap_u16, wrap_u32, wrap_i32, base_get0, base_get, base_set0, base_set, base_take, take_self, take_app1, h1, h8, h9, h10, h11, h12, h99, h100, h101, h13]
      refine ⟨fun h => absurd h (by omega), fun _ => ⟨fun h => absurd h (by omega), fun _ => ?_⟩⟩
      refine gK_keep 159 (.bool (decide (65535 < n * 10 + (c.toNat - 48)))) [1, 8, 9, 10, 11, 12, 17, 99, 100, 101] rfl rfl ?_ fun e0 => ?_
      · simp (maxSteps := 2000000) (disch := omega) only [R4, F1, ↓Int.cast_ofNat_Int, ↓R1, R2, C1, P1, O1, V1, V2, V3, reduceCtorEq, Nat.reduceEqDiff, Nat.reduceBEq, Nat.reduceAdd, Nat.reduceSub, Nat.reduceMul, Nat.reduceLeDiff, Nat.reduceLT, Int.reduceEq, Int.reduceAdd, Int.reduceSub, Int.reduceMul, Int.reduceLT, Int.reduceLE, Int.reduceNeg, Int.reduceToNat, wrap_i64, wrap_u64, wrap_u8, wrap_u16, wrap_u32, wrap_i32, base_get0, base_get, base_set0, base_set, base_take, take_self, take_app1, h11]
        (repeat' (first | apply And.intro | intro _))
        all_goals (refine congrArg AV.bool (Bool.eq_iff_iff.2 ?_); simp []; try (intros; omega))
      simp (maxSteps := 2000000) (disch := omega) only [condK_dec, F1, ↓Int.cast_ofNat_Int, ↓R1, R2, C1, P1, O1, V1, V2, V3, reduceCtorEq, Nat.reduceEqDiff, Nat.reduceBEq, Nat.reduceAdd, Nat.reduceSub, Nat.reduceMul, Nat.reduceLeDiff, Nat.reduceLT, Int.reduceEq, Int.reduceAdd, Int.reduceSub, Int.reduceMul, Int.reduceLT, Int.reduceLE, Int.reduceNeg, Int.reduceToNat, wrap_i64, wrap_u64, wrap_u8, wrap_u16, wrap_u32, wrap_i32, base_get0, base_get, base_set0, base_set, base_take, take_self, take_app1, h1, h8, h9, h10, h11, h12, h99, h100, h101]
      refine ⟨fun h => ?_, fun h => ?_⟩
      · rw [if_pos (by omega)] at hp
        have hne : l ≠ [] := by rintro rfl; simp at hk'
        rw [if_neg hne, hp]; rfl
      · rw [if_neg (by omega)] at hp
        exact ⟨hk', n * 10 + (c.toNat - 48), by omega, by congr 1; omega, hp⟩
    · have hdg' : isDg c = false := hdg
      simp only [puL, hdg'] at hp
      have hne : l ≠ [] := by rintro rfl; simp at hk'
      obtain ⟨b, hb, hlow⟩ := lower_D (c.toNat : Int) (by omega) (by omega)
      simp (maxSteps := 2000000) (disch := omega) only [condK_dec, F1, ↓Int.cast_ofNat_Int, ↓R1, R2, C1, P1, O1, V1, V2, V3, reduceCtorEq, Nat.reduceEqDiff, Nat.reduceBEq, Nat.reduceAdd, Nat.reduceSub, Nat.reduceMul, Nat.reduceLeDiff, Nat.reduceLT, Int.reduceEq, Int.reduceAdd, Int.reduceSub, Int.reduceMul, Int.reduceLT, Int.reduceLE, Int.reduceNeg, Int.reduceToNat, wrap_i64, wrap_u64, wrap_u8, wrap_u16, wrap_u32, wrap_i32, base_get0, base_get, base_set0, base_set, base_take, take_self, take_app1, hlow]
      refine gK_keep 121 (.bool (decide (97 ≤ b ∧ b ≤ 122))) [1, 8, 9, 10, 11, 12, 13, 15, 16, 99, 100, 101] rfl rfl ?_ fun e0 => ?_
      · simp (maxSteps := 2000000) (disch := omega) only [R4, F1, ↓Int.cast_ofNat_Int, ↓R1, R2, C1, P1, O1, V1, V2, V3, reduceCtorEq, Nat.reduceEqDiff, Nat.reduceBEq, Nat.reduceAdd, Nat.reduceSub, Nat.reduceMul, Nat.reduceLeDiff, Nat.reduceLT, Int.reduceEq, Int.reduceAdd, Int.reduceSub, Int.reduceMul, Int.reduceLT, Int.reduceLE, Int.reduceNeg, Int.reduceToNat, wrap_i64, wrap_u64, wrap_u8, wrap_u16, wrap_u32, wrap_i32, base_get0, base_get, base_set0, base_set, base_take, take_self, take_app1, hlow]
        (repeat' (first | apply And.intro | intro _))
        all_goals (refine congrArg AV.bool (Bool.eq_iff_iff.2 ?_); simp []; try (intros; omega))
      simp (maxSteps := 2000000) (disch := omega) only [condK_dec, F1, ↓Int.cast_ofNat_Int, ↓R1, R2, C1, P1, O1, V1, V2, V3, reduceCtorEq, Nat.reduceEqDiff, Nat.reduceBEq, Nat.reduceAdd, Nat.reduceSub, Nat.reduceMul, Nat.reduceLeDiff, Nat.reduceLT, Int.reduceEq, Int.reduceAdd, Int.reduceSub, Int.reduceMul, Int.reduceLT, Int.reduceLE, Int.reduceNeg, Int.reduceToNat, wrap_i64, wrap_u64, wrap_u8, wrap_u16, wrap_u32, wrap_i32, base_get0, base_get, base_set0, base_set, base_take, take_self, take_app1, h1, h8, h9, h10, h11, h12, h99, h100, h101, h13, hlow]
      have hr : puL l 0 = .syn := by rw [hp]; rfl
      refine ⟨fun hb2 => ⟨fun _ => by rw [if_neg hne, hr]; rfl, fun h => absurd h ?_⟩, fun _ => by rw [if_neg hne, hr]; rfl⟩
      rw [wrap_u8 (n := (b : Int) - 97) (by omega) (by omega), wrap_u8 (by omega) (by omega)]
      omega
  · have hne : l ≠ [] := h
    rw [if_neg hne, hp, List.drop_eq_nil_of_le (by omega)]
    rfl

theorem load_glob {X : Ctx} {σ : AS} {agg : Bool} {n g : Nat} : loadA X σ agg n (.glob g) = match X.glob g with | some cs => Den.part agg n cs 0 | none => none := by
  simp only [loadA]; cases X.glob g <;> rfl

theorem glob_syn : X.glob g_strconv_ErrSyntax = some [.ifc ty_p_errors_errorString (.eptr [S [105, 110, 118, 97, 108, 105, 100, 32, 115, 121, 110, 116, 97, 120]] 0)] := rfl
theorem glob_rng : X.glob g_strconv_ErrRange = some [.ifc ty_p_errors_errorString (.eptr [S [118, 97, 108, 117, 101, 32, 111, 117, 116, 32, 111, 102, 32, 114, 97, 110, 103, 101]] 0)] := rfl

theorem Clone_D (l : List UInt8) (hl : l.length ≤ room) (H : List AObj) (lo : Option Nat) : D X (.fn (.func fn_istringslite_Clone) [] []) [S l] ⟨H, lo⟩ = some (.ret (S l) ⟨H, lo⟩) := by
  refine D_fn pf_istringslite_Clone rfl rfl rfl fun N hN => ?_
  simp (maxSteps := 2000000) (disch := omega) only [condK_dec, F1, ↓Int.cast_ofNat_Int, ↓R1, R2, C1, P1, O1, V1, V2, V3, reduceCtorEq, Nat.reduceEqDiff, Nat.reduceBEq, Nat.reduceAdd, Nat.reduceSub, Nat.reduceMul, Nat.reduceLeDiff, Nat.reduceLT, Int.reduceEq, Int.reduceAdd, Int.reduceSub, Int.reduceMul, Int.reduceLT, Int.reduceLE, Int.reduceNeg, Int.reduceToNat, wrap_i64, wrap_u64, wrap_u8, wrap_u16, wrap_u32, wrap_i32, base_get0, base_get, base_set0, base_set, base_take, take_self, take_app1, pf_istringslite_Clone]
  refine ⟨fun h => ?_, fun h => ?_⟩
  · have : l = [] := List.length_eq_zero_iff.1 (by omega)
    rw [this]
  · have hm : mksliceA ⟨H, none⟩ ty_uint8 [.int .u8 0] 1 (.int .i64 l.length) (.int .i64 l.length) = some (.ref N 0 1 0 l.length false, ⟨H ++ [.row 0 1 ty_uint8 (List.replicate l.length [.int .u8 0])], none⟩) := by
      simp only [mksliceA]
      rw [if_pos ⟨by omega, by omega, by omega, by omega⟩, hN, Int.toNat_natCast]
      rfl
    have hc : copyA ⟨H ++ [.row 0 1 ty_uint8 (List.replicate l.length [.int .u8 0])], none⟩ 1 (.ref N 0 1 0 l.length false) (S l) = some (.int .i64 l.length, ⟨H ++ [.row 0 1 ty_uint8 (bs l)], none⟩) := by
      have e1 : srcA ⟨H ++ [.row 0 1 ty_uint8 (List.replicate l.length [.int .u8 0])], none⟩ 1 (S l) = some (bs l) := by simp [srcA, S, bytesA, bs]
      have e2 : (H ++ [AObj.row 0 1 ty_uint8 (List.replicate l.length [.int .u8 0])])[N]? = some (.row 0 1 ty_uint8 (List.replicate l.length [.int .u8 0])) := by rw [base_get0 hN]; rfl
      unfold copyA
      rw [e1]
      simp only [e2]
      rw [if_pos ⟨trivial, trivial, trivial, by simp⟩]
      simp [AS.set, bs_len, bs_refs, base_set0 hN]
      rw [← bs_len l, List.take_length]
    have hu : ustrA ⟨H ++ [.row 0 1 ty_uint8 (bs l)], none⟩ ty_uint8 (.rptr N 0 0 0) (.int .i64 l.length) = some (S l, ⟨H ++ [.dead], none⟩) := by
      have e2 : (H ++ [AObj.row 0 1 ty_uint8 (bs l)])[N]? = some (.row 0 1 ty_uint8 (bs l)) := by rw [base_get0 hN]; rfl
      simp only [ustrA, e2]
      rw [if_pos ⟨trivial, trivial, by omega, by rw [bs_len]; omega, by omega⟩]
      rw [List.drop_zero, Int.toNat_natCast, ← bs_len, List.take_length, bs_str]
      simp only [AS.set, base_set0 hN]
      rfl
    have ha : iaddrsA 1 (.ref N 0 1 0 l.length false) (.int .i64 0) = some (.rptr N 0 0 0) := by
      simp only [iaddrsA, intOf?]
      rw [if_pos ⟨by omega, by omega, trivial⟩]; rfl
    simp (maxSteps := 2000000) (disch := omega) only [F1, ↓Int.cast_ofNat_Int, ↓R1, R2, C1, P1, O1, V1, V2, V3, reduceCtorEq, Nat.reduceEqDiff, Nat.reduceBEq, Nat.reduceAdd, Nat.reduceSub, Nat.reduceMul, Nat.reduceLeDiff, Nat.reduceLT, Int.reduceEq, Int.reduceAdd, Int.reduceSub, Int.reduceMul, Int.reduceLT, Int.reduceLE, Int.reduceNeg, Int.reduceToNat, wrap_i64, wrap_u64, wrap_u8, wrap_u16, wrap_u32, wrap_i32, base_get0, base_get, base_set0, base_set, base_take, take_self, take_app1, hm, hc, hu, ha]

theorem syntaxError_D (fn l : List UInt8) (hl : l.length ≤ room) (N : Nat) (H : List AObj) (hN : H.length = N) (lo : Option Nat) : ∃ cs, D X (.fn (.func fn_strconv_syntaxError) [] []) [S fn, S l] ⟨H, lo⟩ = some (.ret (.ptr N 0) ⟨H ++ [.box cs none], lo⟩) := by
  suffices h : ∃ cr, D X (.fn (.func fn_strconv_syntaxError) [] []) [S fn, S l] ⟨H, lo⟩ = some cr ∧ (fun cr => ∃ cs, cr = CRes.ret (.ptr N 0) ⟨H ++ [.box cs none], lo⟩) cr by
    obtain ⟨cr, h1, L, rfl⟩ := h
    exact ⟨L, h1⟩
  refine D_fn_ex pf_strconv_syntaxError rfl rfl rfl fun M hM => ?_
  obtain rfl : M = N := by omega
  simp (maxSteps := 2000000) (disch := omega) only [↓Int.cast_ofNat_Int, ↓R1, R2, C1, P1, O1, V1, V2, V3, reduceCtorEq, Nat.reduceEqDiff, Nat.reduceBEq, Nat.reduceAdd, Nat.reduceSub, Nat.reduceMul, Nat.reduceLeDiff, Nat.reduceLT, Int.reduceEq, Int.reduceAdd, Int.reduceSub, Int.reduceMul, Int.reduceLT, Int.reduceLE, Int.reduceNeg, Int.reduceToNat, wrap_i64, wrap_u64, wrap_u8, wrap_u16, wrap_u32, wrap_i32, base_get0, base_get, base_set0, base_set, base_take, take_self, take_app1, pf_strconv_syntaxError, Clone_D l hl, load_glob, glob_syn, hN, finish_ptr, Nat.le_refl]
  exact ⟨_, rfl⟩

theorem rangeError_D (fn l : List UInt8) (hl : l.length ≤ room) (N : Nat) (H : List AObj) (hN : H.length = N) (lo : Option Nat) : ∃ cs, D X (.fn (.func fn_strconv_rangeError) [] []) [S fn, S l] ⟨H, lo⟩ = some (.ret (.ptr N 0) ⟨H ++ [.box cs none], lo⟩) := by
  suffices h : ∃ cr, D X (.fn (.func fn_strconv_rangeError) [] []) [S fn, S l] ⟨H, lo⟩ = some cr ∧ (fun cr => ∃ cs, cr = CRes.ret (.ptr N 0) ⟨H ++ [.box cs none], lo⟩) cr by
    obtain ⟨cr, h1, L, rfl⟩ := h
    exact ⟨L, h1⟩
  refine D_fn_ex pf_strconv_rangeError rfl rfl rfl fun M hM => ?_
  obtain rfl : M = N := by omega
  simp (maxSteps := 2000000) (disch := omega) only [↓Int.cast_ofNat_Int, ↓R1, R2, C1, P1, O1, V1, V2, V3, reduceCtorEq, Nat.reduceEqDiff, Nat.reduceBEq, Nat.reduceAdd, Nat.reduceSub, Nat.reduceMul, Nat.reduceLeDiff, Nat.reduceLT, Int.reduceEq, Int.reduceAdd, Int.reduceSub, Int.reduceMul, Int.reduceLT, Int.reduceLE, Int.reduceNeg, Int.reduceToNat, wrap_i64, wrap_u64, wrap_u8, wrap_u16, wrap_u32, wrap_i32, base_get0, base_get, base_set0, base_set, base_take, take_self, take_app1, pf_strconv_rangeError, Clone_D l hl, load_glob, glob_rng, hN, finish_ptr, Nat.le_refl]
  exact ⟨_, rfl⟩

theorem eq_ife {ts : List Nat} {t : Nat} {k : IntKind} {a b : Int} (h : ts.contains t = true) : eqA (.ife ts) (.ifc t (.int k a)) (.ifc t (.int k b)) = some (decide (a = b)) := by
  simp only [eqA, eqP, if_true]
  rw [if_pos ⟨h, trivial⟩, Bool.eq_iff_iff.2 (show (a == b) = true ↔ decide (a = b) = true by simp)]

theorem toError_D (fn l : List UInt8) (hl : l.length ≤ room) (k : Int) (hk : k = 1 ∨ k = 2) (N : Nat) (H : List AObj) (hN : H.length = N) (lo : Option Nat) : ∃ cs, D X (.fn (.func fn_strconv_toError) [] []) [S fn, S l, .int .i64 10, .int .i64 16, .ifc ty_strconv_Error (.int .i64 k)] ⟨H, lo⟩ = some (.ret (.ifc ty_p_strconv_NumError (.ptr N 0)) ⟨H ++ [.box cs none], lo⟩) := by
  suffices h : ∃ cr, D X (.fn (.func fn_strconv_toError) [] []) [S fn, S l, .int .i64 10, .int .i64 16, .ifc ty_strconv_Error (.int .i64 k)] ⟨H, lo⟩ = some cr ∧ (fun cr => ∃ cs, cr = CRes.ret (.ifc ty_p_strconv_NumError (.ptr N 0)) ⟨H ++ [.box cs none], lo⟩) cr by
    obtain ⟨cr, h1, L, rfl⟩ := h
    exact ⟨L, h1⟩
  refine D_fn_ex pf_strconv_toError rfl rfl rfl fun M hM => ?_
  obtain rfl : M = N := by omega
  have he : ∀ a b, eqA (.ife tys_int) (.ifc ty_strconv_Error (.int .i64 a)) (.ifc ty_strconv_Error (.int .i64 b)) = some (decide (a = b)) := fun a b => eq_ife rfl
  rcases hk with rfl | rfl
  · obtain ⟨cs, e⟩ := rangeError_D fn l hl M H hN none
    simp (maxSteps := 2000000) (disch := omega) only [↓Int.cast_ofNat_Int, ↓R1, R2, C1, P1, O1, V1, V2, V3, reduceCtorEq, Nat.reduceEqDiff, Nat.reduceBEq, Nat.reduceAdd, Nat.reduceSub, Nat.reduceMul, Nat.reduceLeDiff, Nat.reduceLT, Int.reduceEq, Int.reduceAdd, Int.reduceSub, Int.reduceMul, Int.reduceLT, Int.reduceLE, Int.reduceNeg, Int.reduceToNat, wrap_i64, wrap_u64, wrap_u8, wrap_u16, wrap_u32, wrap_i32, base_get0, base_get, base_set0, base_set, base_take, take_self, take_app1, pf_strconv_toError, he, e, finish_ifc, Nat.le_refl]
    exact ⟨_, rfl⟩
  · obtain ⟨cs, e⟩ := syntaxError_D fn l hl M H hN none
    simp (maxSteps := 2000000) (disch := omega) only [↓Int.cast_ofNat_Int, ↓R1, R2, C1, P1, O1, V1, V2, V3, reduceCtorEq, Nat.reduceEqDiff, Nat.reduceBEq, Nat.reduceAdd, Nat.reduceSub, Nat.reduceMul, Nat.reduceLeDiff, Nat.reduceLT, Int.reduceEq, Int.reduceAdd, Int.reduceSub, Int.reduceMul, Int.reduceLT, Int.reduceLE, Int.reduceNeg, Int.reduceToNat, wrap_i64, wrap_u64, wrap_u8, wrap_u16, wrap_u32, wrap_i32, base_get0, base_get, base_set0, base_set, base_take, take_self, take_app1, pf_strconv_toError, he, e, finish_ifc, Nat.le_refl]
    exact ⟨_, rfl⟩

/-- What strconv.ParseUint (10, 16) answers. -/
def puE (N : Nat) : PU → AV
  | .ok n => .tup [.int .u64 n, .nili]
  | .syn => .tup [.int .u64 0, .ifc ty_p_strconv_NumError (.ptr N 0)]
  | .rng => .tup [.int .u64 65535, .ifc ty_p_strconv_NumError (.ptr N 0)]

theorem ParseUint_D (l : List UInt8) (hl : l.length ≤ 1000000) (N : Nat) (H : List AObj) (hN : H.length = N) (lo : Option Nat) : ∃ L, D X (.fn (.func fn_strconv_ParseUint) [] []) [S l, .int .i64 10, .int .i64 16] ⟨H, lo⟩ = some (.ret (puE N (if l = [] then .syn else puL l 0)) ⟨H ++ L, lo⟩) := by
  suffices h : ∃ cr, D X (.fn (.func fn_strconv_ParseUint) [] []) [S l, .int .i64 10, .int .i64 16] ⟨H, lo⟩ = some cr ∧ (fun cr => ∃ L, cr = CRes.ret (puE N (if l = [] then .syn else puL l 0)) ⟨H ++ L, lo⟩) cr by
    obtain ⟨cr, h1, L, rfl⟩ := h
    exact ⟨L, h1⟩
  refine D_fn_ex pf_strconv_ParseUint rfl rfl rfl fun M hM => ?_
  obtain rfl : M = N := by omega
  have hp := iParseUint_D l hl
  have e3 : ∀ t a, eqA .ifc (.ifc t a) .nili = some false := fun t a => rfl
  have e4 : eqA .ifc .nili .nili = some true := rfl
  generalize (if l = [] then PU.syn else puL l 0) = r at hp
  cases r with
  | ok n =>
    simp (maxSteps := 2000000) (disch := omega) only [F1, ↓Int.cast_ofNat_Int, ↓R1, R2, C1, P1, O1, V1, V2, V3, reduceCtorEq, Nat.reduceEqDiff, Nat.reduceBEq, Nat.reduceAdd, Nat.reduceSub, Nat.reduceMul, Nat.reduceLeDiff, Nat.reduceLT, Int.reduceEq, Int.reduceAdd, Int.reduceSub, Int.reduceMul, Int.reduceLT, Int.reduceLE, Int.reduceNeg, Int.reduceToNat, wrap_i64, wrap_u64, wrap_u8, wrap_u16, wrap_u32, wrap_i32, base_get0, base_get, base_set0, base_set, base_take, take_self, take_app1, pf_strconv_ParseUint, hp, puV, puE, e4]
    exact ⟨[], by simp⟩
  | syn =>
    obtain ⟨cs, e⟩ := toError_D [80, 97, 114, 115, 101, 85, 105, 110, 116] l (by unfold room; omega) 2 (.inr rfl) M H hN none
    simp (maxSteps := 2000000) (disch := omega) only [↓Int.cast_ofNat_Int, ↓R1, R2, C1, P1, O1, V1, V2, V3, reduceCtorEq, Nat.reduceEqDiff, Nat.reduceBEq, Nat.reduceAdd, Nat.reduceSub, Nat.reduceMul, Nat.reduceLeDiff, Nat.reduceLT, Int.reduceEq, Int.reduceAdd, Int.reduceSub, Int.reduceMul, Int.reduceLT, Int.reduceLE, Int.reduceNeg, Int.reduceToNat, wrap_i64, wrap_u64, wrap_u8, wrap_u16, wrap_u32, wrap_i32, base_get0, base_get, base_set0, base_set, base_take, take_self, take_app1, pf_strconv_ParseUint, hp, puV, puE, e3, e, finish_tup_ifc, Nat.le_refl]
    exact ⟨_, rfl⟩
  | rng =>
    obtain ⟨cs, e⟩ := toError_D [80, 97, 114, 115, 101, 85, 105, 110, 116] l (by unfold room; omega) 1 (.inl rfl) M H hN none
    simp (maxSteps := 2000000) (disch := omega) only [↓Int.cast_ofNat_Int, ↓R1, R2, C1, P1, O1, V1, V2, V3, reduceCtorEq, Nat.reduceEqDiff, Nat.reduceBEq, Nat.reduceAdd, Nat.reduceSub, Nat.reduceMul, Nat.reduceLeDiff, Nat.reduceLT, Int.reduceEq, Int.reduceAdd, Int.reduceSub, Int.reduceMul, Int.reduceLT, Int.reduceLE, Int.reduceNeg, Int.reduceToNat, wrap_i64, wrap_u64, wrap_u8, wrap_u16, wrap_u32, wrap_i32, base_get0, base_get, base_set0, base_set, base_take, take_self, take_app1, pf_strconv_ParseUint, hp, puV, puE, e3, e, finish_tup_ifc, Nat.le_refl]
    exact ⟨_, rfl⟩

/-- A number in asm's text. -/
def numS (l : List UInt8) : Option Nat := if l = [] then none else match puL l 0 with
  | .ok n => if digits n = l then some n else none
  | _ => none

/-- The value that comes with it. -/
def numV (l : List UInt8) : Nat := match (if l = [] then PU.syn else puL l 0) with
  | .ok n => n
  | .syn => 0
  | .rng => 65535

theorem numS_V (l : List UInt8) (m : Nat) (h : numS l = some m) : numV l = m := by
  unfold numS at h
  unfold numV
  split at h
  · cases h
  · rename_i hl
    rw [if_neg hl]
    split at h
    · rename_i n hn
      rw [hn]
      split at h <;> cases h
      rfl
    · cases h

theorem numV_lt (l : List UInt8) : numV l < 65536 := by
  unfold numV
  split
  · rename_i n h
    split at h
    · cases h
    · have := puL_ok l 0 n (by decide) h; omega
  · decide
  · decide

theorem number_D (l : List UInt8) (hl : l.length ≤ 1000000) (H : List AObj) (lo : Option Nat) : D X (.fn (.func fn_asm_number) [] []) [S l] ⟨H, lo⟩ = some (.ret (.tup [.int .u16 (numV l), .bool (numS l).isSome]) ⟨H, lo⟩) := by
  have e3 : ∀ t a, eqA .ifc (.ifc t a) .nili = some false := fun t a => rfl
  have e4 : eqA .ifc .nili .nili = some true := rfl
  have hp := fun N H hN lo => ParseUint_D l hl N H hN lo
  have hq : numS l = match (if l = [] then PU.syn else puL l 0) with | .ok n => if digits n = l then some n else none | _ => none := by
    unfold numS; split <;> rfl
  have hv : numV l = match (if l = [] then PU.syn else puL l 0) with | .ok n => n | .syn => 0 | .rng => 65535 := rfl
  have hok : ∀ n, (if l = [] then PU.syn else puL l 0) = .ok n → n ≤ 65535 := by
    intro n h
    split at h
    · cases h
    · exact puL_ok l 0 n (by decide) h
  generalize (if l = [] then PU.syn else puL l 0) = r at hp hq hok hv
  cases r with
  | ok n =>
    have hn := hok n rfl
    have hv' : numV l = n := hv
    rw [hv']
    refine D_fn pf_asm_number rfl rfl rfl fun N hN => ?_
    obtain ⟨L, e⟩ := hp N H hN none
    simp (maxSteps := 2000000) (disch := omega) only [F1, ↓Int.cast_ofNat_Int, ↓R1, R2, C1, P1, O1, V1, V2, V3, reduceCtorEq, Nat.reduceEqDiff, Nat.reduceBEq, Nat.reduceAdd, Nat.reduceSub, Nat.reduceMul, Nat.reduceLeDiff, Nat.reduceLT, Int.reduceEq, Int.reduceAdd, Int.reduceSub, Int.reduceMul, Int.reduceLT, Int.reduceLE, Int.reduceNeg, Int.reduceToNat, wrap_i64, wrap_u64, wrap_u8, wrap_u16, wrap_u32, wrap_i32, base_get0, base_get, base_set0, base_set, base_take, take_self, take_app1, pf_asm_number, e, puE, e4, FormatUint_D n]
    rw [hq]
    refine ret_eq ?_ rfl
    by_cases h : digits n = l <;> simp [h]
  | syn =>
    have hno : numS l = none := hq
    have hv' : numV l = 0 := hv
    rw [hv']
    refine D_fn pf_asm_number rfl rfl rfl fun N hN => ?_
    obtain ⟨L, e⟩ := hp N H hN none
    simp (maxSteps := 2000000) (disch := omega) only [F1, ↓Int.cast_ofNat_Int, ↓R1, R2, C1, P1, O1, V1, V2, V3, reduceCtorEq, Nat.reduceEqDiff, Nat.reduceBEq, Nat.reduceAdd, Nat.reduceSub, Nat.reduceMul, Nat.reduceLeDiff, Nat.reduceLT, Int.reduceEq, Int.reduceAdd, Int.reduceSub, Int.reduceMul, Int.reduceLT, Int.reduceLE, Int.reduceNeg, Int.reduceToNat, wrap_i64, wrap_u64, wrap_u8, wrap_u16, wrap_u32, wrap_i32, base_get0, base_get, base_set0, base_set, base_take, take_self, take_app1, pf_asm_number, e, puE, e3]
    rw [hq]; rfl
  | rng =>
    have hno : numS l = none := hq
    have hv' : numV l = 65535 := hv
    rw [hv']
    refine D_fn pf_asm_number rfl rfl rfl fun N hN => ?_
    obtain ⟨L, e⟩ := hp N H hN none
    simp (maxSteps := 2000000) (disch := omega) only [F1, ↓Int.cast_ofNat_Int, ↓R1, R2, C1, P1, O1, V1, V2, V3, reduceCtorEq, Nat.reduceEqDiff, Nat.reduceBEq, Nat.reduceAdd, Nat.reduceSub, Nat.reduceMul, Nat.reduceLeDiff, Nat.reduceLT, Int.reduceEq, Int.reduceAdd, Int.reduceSub, Int.reduceMul, Int.reduceLT, Int.reduceLE, Int.reduceNeg, Int.reduceToNat, wrap_i64, wrap_u64, wrap_u8, wrap_u16, wrap_u32, wrap_i32, base_get0, base_get, base_set0, base_set, base_take, take_self, take_app1, pf_asm_number, e, puE, e3]
    rw [hq]; rfl

end Go.Proofs.YtoolhdikfdjikaaDoor
