/- Contracts of the functions that asm.Parse reaches, and plain laws of texts (conditions: sizes, as each theorem says). -/
import Derived.Test.YtoolhdikfdjikaaDoorAsmA
import Derived.Laws.RangeString
import Derived.Laws.RangeAny
set_option linter.unusedVariables false
set_option linter.unusedSimpArgs false
set_option linter.unusedSectionVars false
set_option linter.deprecated false

/- strings.Index, Cut, Split at a byte. -/
namespace Go.Proofs.YtoolhdikfdjikaaDoor
open Go Go.Den
set_option maxRecDepth 10000

theorem u8_range (c : UInt8) : 0 ≤ (c.toNat : Int) ∧ (c.toNat : Int) < 256 := by
  have := c.toNat_lt; omega
theorem countStr_D (l : List UInt8) (c : UInt8) (σ : AS) : D X (.fn (.func fn_ibytealg_CountString) [] []) [S l, .int .u8 c.toNat] σ = some (.ret (.int .i64 ((l.filter fun b => decide ((b.toNat : Int) = c.toNat)).length : Nat)) σ) :=
  D_prim (p := countP) rfl (if_pos (u8_range c))
theorem idxStr_D (l : List UInt8) (c : UInt8) (σ : AS) : D X (.fn (.func fn_ibytealg_IndexByteString) [] []) [S l, .int .u8 c.toNat] σ = some (.ret (.int .i64 (idxB c.toNat l)) σ) :=
  D_prim (p := indexByteP) rfl (if_pos (u8_range c))

theorem getD1 (c : UInt8) : ([c] : List UInt8).getD 0 0 = c := rfl

theorem idxB_range (c : Int) (l : List UInt8) : -1 ≤ idxB c l ∧ idxB c l < l.length := by
  unfold idxB
  cases h : l.findIdx? (fun b => decide ((b.toNat : Int) = c)) with
  | none => simp [optI]; omega
  | some i =>
    have := (List.findIdx?_eq_some_iff_getElem.1 h).1
    simp only [optI]; omega

theorem IndexByte_D (l : List UInt8) (c : UInt8) (H : List AObj) (lo : Option Nat) : D X (.fn (.func fn_istringslite_IndexByte) [] []) [S l, .int .u8 c.toNat] ⟨H, lo⟩ = some (.ret (.int .i64 (idxB c.toNat l)) ⟨H, lo⟩) := by
  refine D_fn pf_istringslite_IndexByte rfl rfl rfl fun N hN => ?_
  simp (maxSteps := 2000000) (disch := omega) only [F1, ↓Int.cast_ofNat_Int, ↓R1, R2, C1, P1, O1, V1, V2, V3, reduceCtorEq, Nat.reduceEqDiff, Nat.reduceBEq, Nat.reduceAdd, Nat.reduceSub, Nat.reduceMul, Nat.reduceLeDiff, Nat.reduceLT, Int.reduceEq, Int.reduceAdd, Int.reduceSub, Int.reduceMul, Int.reduceLT, Int.reduceLE, Int.reduceNeg, Int.reduceToNat, wrap_i64, wrap_u64, wrap_u8, wrap_u16, wrap_u32, wrap_i32, base_get0, base_get, base_set0, base_set, base_take, take_self, take_app1, pf_istringslite_IndexByte, idxStr_D]

theorem sliteIndex_D (l : List UInt8) (c : UInt8) (hl : l.length < 2^40) (H : List AObj) (lo : Option Nat) : D X (.fn (.func fn_istringslite_Index) [] []) [S l, S [c]] ⟨H, lo⟩ = some (.ret (.int .i64 (idxB c.toNat l)) ⟨H, lo⟩) := by
  refine D_fn pf_istringslite_Index rfl rfl rfl fun N hN => ?_
  simp (maxSteps := 2000000) (disch := omega) only [R4, F1, ↓Int.cast_ofNat_Int, ↓R1, R2, C1, P1, O1, V1, V2, V3, reduceCtorEq, Nat.reduceEqDiff, Nat.reduceBEq, Nat.reduceAdd, Nat.reduceSub, Nat.reduceMul, Nat.reduceLeDiff, Nat.reduceLT, Int.reduceEq, Int.reduceAdd, Int.reduceSub, Int.reduceMul, Int.reduceLT, Int.reduceLE, Int.reduceNeg, Int.reduceToNat, wrap_i64, wrap_u64, wrap_u8, wrap_u16, wrap_u32, wrap_i32, base_get0, base_get, base_set0, base_set, base_take, take_self, take_app1, pf_istringslite_Index, IndexByte_D, getD1]
  refine ⟨fun h => ?_, fun _ => trivial⟩
  subst h
  simp [idxB, optI, List.findIdx?_cons]

theorem Index_D (l : List UInt8) (c : UInt8) (hl : l.length < 2^40) (H : List AObj) (lo : Option Nat) : D X (.fn (.func fn_strings_Index) [] []) [S l, S [c]] ⟨H, lo⟩ = some (.ret (.int .i64 (idxB c.toNat l)) ⟨H, lo⟩) := by
  refine D_fn pf_strings_Index rfl rfl rfl fun N hN => ?_
  simp (maxSteps := 2000000) (disch := omega) only [F1, ↓Int.cast_ofNat_Int, ↓R1, R2, C1, P1, O1, V1, V2, V3, reduceCtorEq, Nat.reduceEqDiff, Nat.reduceBEq, Nat.reduceAdd, Nat.reduceSub, Nat.reduceMul, Nat.reduceLeDiff, Nat.reduceLT, Int.reduceEq, Int.reduceAdd, Int.reduceSub, Int.reduceMul, Int.reduceLT, Int.reduceLE, Int.reduceNeg, Int.reduceToNat, wrap_i64, wrap_u64, wrap_u8, wrap_u16, wrap_u32, wrap_i32, base_get0, base_get, base_set0, base_set, base_take, take_self, take_app1, pf_strings_Index, sliteIndex_D l c hl]

/-- A text up to the first such byte; what is behind; whether there is one. -/
def cutS (c : UInt8) : List UInt8 → List UInt8 × List UInt8 × Bool
  | [] => ([], [], false)
  | b :: bs => if b = c then ([], bs, true) else (b :: (cutS c bs).1, (cutS c bs).2.1, (cutS c bs).2.2)

theorem optI_map (q : Option Nat) : optI (q.map (· + 1)) = if optI q = -1 then -1 else optI q + 1 := by
  cases q with
  | none => rfl
  | some i =>
    have h : ¬ (optI (some i) = -1) := by simp only [optI]; omega
    rw [if_neg h]; rfl

theorem cutS_idx (c : UInt8) : ∀ l : List UInt8, (idxB c.toNat l = -1 ∧ cutS c l = (l, [], false)) ∨ (0 ≤ idxB c.toNat l ∧ idxB c.toNat l < l.length ∧ cutS c l = (l.take (idxB c.toNat l).toNat, l.drop ((idxB c.toNat l).toNat + 1), true))
  | [] => .inl ⟨rfl, rfl⟩
  | b :: bs => by
    have ih := cutS_idx c bs
    have hbc : (decide ((b.toNat : Int) = (c.toNat : Int))) = decide (b = c) := by
      rw [Bool.eq_iff_iff, decide_eq_true_eq, decide_eq_true_eq]
      exact ⟨fun h => UInt8.toNat_inj.1 (by omega), fun h => by rw [h]⟩
    by_cases h : b = c
    · right
      have e : idxB c.toNat (b :: bs) = 0 := by simp [idxB, optI, List.findIdx?_cons, h]
      rw [e]
      simp [cutS, h]
    · have e : idxB c.toNat (b :: bs) = if idxB c.toNat bs = -1 then -1 else idxB c.toNat bs + 1 := by
        simp only [idxB, List.findIdx?_cons, hbc, h, decide_false, Bool.false_eq_true, if_false]
        exact optI_map _
      rcases ih with ⟨h1, h2⟩ | ⟨h1, h2, h3⟩
      · left; rw [e, if_pos h1]; simp [cutS, h, h2]
      · right
        rw [e, if_neg (by omega)]
        refine ⟨by omega, by simp; omega, ?_⟩
        simp only [cutS, if_neg h, h3]
        have : (idxB c.toNat bs + 1).toNat = (idxB c.toNat bs).toNat + 1 := by omega
        rw [this]; simp

theorem sliteCut_D (l : List UInt8) (c : UInt8) (hl : l.length < 2^40) (H : List AObj) (lo : Option Nat) : D X (.fn (.func fn_istringslite_Cut) [] []) [S l, S [c]] ⟨H, lo⟩ = some (.ret (.tup [S (cutS c l).1, S (cutS c l).2.1, .bool (cutS c l).2.2]) ⟨H, lo⟩) := by
  refine D_fn pf_istringslite_Cut rfl rfl rfl fun N hN => ?_
  rcases cutS_idx c l with ⟨h1, h2⟩ | ⟨h1, h2, h3⟩
  · simp (maxSteps := 2000000) (disch := omega) only [condK_dec, F1, ↓Int.cast_ofNat_Int, ↓R1, R2, C1, P1, O1, V1, V2, V3, reduceCtorEq, Nat.reduceEqDiff, Nat.reduceBEq, Nat.reduceAdd, Nat.reduceSub, Nat.reduceMul, Nat.reduceLeDiff, Nat.reduceLT, Int.reduceEq, Int.reduceAdd, Int.reduceSub, Int.reduceMul, Int.reduceLT, Int.reduceLE, Int.reduceNeg, Int.reduceToNat, wrap_i64, wrap_u64, wrap_u8, wrap_u16, wrap_u32, wrap_i32, base_get0, base_get, base_set0, base_set, base_take, take_self, take_app1, pf_istringslite_Cut, sliteIndex_D l c hl, h1, h2]
  · simp (maxSteps := 2000000) (disch := omega) only [condK_dec, F1, ↓Int.cast_ofNat_Int, ↓R1, R2, C1, P1, O1, V1, V2, V3, reduceCtorEq, Nat.reduceEqDiff, Nat.reduceBEq, Nat.reduceAdd, Nat.reduceSub, Nat.reduceMul, Nat.reduceLeDiff, Nat.reduceLT, Int.reduceEq, Int.reduceAdd, Int.reduceSub, Int.reduceMul, Int.reduceLT, Int.reduceLE, Int.reduceNeg, Int.reduceToNat, wrap_i64, wrap_u64, wrap_u8, wrap_u16, wrap_u32, wrap_i32, base_get0, base_get, base_set0, base_set, base_take, take_self, take_app1, pf_istringslite_Cut, sliteIndex_D l c hl, h3, h1]
    refine ⟨by omega, by omega, ?_⟩
    rw [show (idxB c.toNat l + 1).toNat = (idxB c.toNat l).toNat + 1 by omega]

theorem Cut_D (l : List UInt8) (c : UInt8) (hl : l.length < 2^40) (H : List AObj) (lo : Option Nat) : D X (.fn (.func fn_strings_Cut) [] []) [S l, S [c]] ⟨H, lo⟩ = some (.ret (.tup [S (cutS c l).1, S (cutS c l).2.1, .bool (cutS c l).2.2]) ⟨H, lo⟩) := by
  refine D_fn pf_strings_Cut rfl rfl rfl fun N hN => ?_
  simp (maxSteps := 2000000) (disch := omega) only [F1, ↓Int.cast_ofNat_Int, ↓R1, R2, C1, P1, O1, V1, V2, V3, reduceCtorEq, Nat.reduceEqDiff, Nat.reduceBEq, Nat.reduceAdd, Nat.reduceSub, Nat.reduceMul, Nat.reduceLeDiff, Nat.reduceLT, Int.reduceEq, Int.reduceAdd, Int.reduceSub, Int.reduceMul, Int.reduceLT, Int.reduceLE, Int.reduceNeg, Int.reduceToNat, wrap_i64, wrap_u64, wrap_u8, wrap_u16, wrap_u32, wrap_i32, base_get0, base_get, base_set0, base_set, base_take, take_self, take_app1, pf_strings_Cut, sliteCut_D l c hl]

theorem Count_D (l : List UInt8) (c : UInt8) (hl : l.length < 2^40) (H : List AObj) (lo : Option Nat) : D X (.fn (.func fn_strings_Count) [] []) [S l, S [c]] ⟨H, lo⟩ = some (.ret (.int .i64 ((l.filter fun b => decide ((b.toNat : Int) = c.toNat)).length : Nat)) ⟨H, lo⟩) := by
  refine D_fn pf_strings_Count rfl rfl rfl fun N hN => ?_
  simp (maxSteps := 2000000) (disch := omega) only [condK_dec, F1, ↓Int.cast_ofNat_Int, ↓R1, R2, C1, P1, O1, V1, V2, V3, reduceCtorEq, Nat.reduceEqDiff, Nat.reduceBEq, Nat.reduceAdd, Nat.reduceSub, Nat.reduceMul, Nat.reduceLeDiff, Nat.reduceLT, Int.reduceEq, Int.reduceAdd, Int.reduceSub, Int.reduceMul, Int.reduceLT, Int.reduceLE, Int.reduceNeg, Int.reduceToNat, wrap_i64, wrap_u64, wrap_u8, wrap_u16, wrap_u32, wrap_i32, base_get0, base_get, base_set0, base_set, base_take, take_self, take_app1, pf_strings_Count, countStr_D, getD1]

/-- A text's pieces between such bytes. -/
def splitS (c : UInt8) : List UInt8 → List (List UInt8)
  | [] => [[]]
  | b :: bs => if b = c then [] :: splitS c bs else match splitS c bs with
    | x :: xs => (b :: x) :: xs
    | [] => [[b]]

theorem splitS_ne (c : UInt8) : ∀ l, splitS c l ≠ []
  | [] => by simp [splitS]
  | b :: bs => by
    simp only [splitS]
    split
    · simp
    · split <;> simp

theorem splitS_cut (c : UInt8) : ∀ l : List UInt8, splitS c l = if (cutS c l).2.2 then (cutS c l).1 :: splitS c (cutS c l).2.1 else [l]
  | [] => rfl
  | b :: bs => by
    have ih := splitS_cut c bs
    simp only [splitS, cutS]
    by_cases h : b = c
    · simp [h]
    · simp only [if_neg h]
      rw [ih]
      cases hc : (cutS c bs).2.2 <;> simp

def cnt (c : UInt8) (l : List UInt8) : Nat := (l.filter fun b => decide ((b.toNat : Int) = c.toNat)).length

theorem cnt_cut (c : UInt8) : ∀ l : List UInt8, cnt c l = if (cutS c l).2.2 then cnt c (cutS c l).2.1 + 1 else 0
  | [] => rfl
  | b :: bs => by
    have ih := cnt_cut c bs
    have hbc : (decide ((b.toNat : Int) = (c.toNat : Int))) = decide (b = c) := by
      rw [Bool.eq_iff_iff, decide_eq_true_eq, decide_eq_true_eq]
      exact ⟨fun h => UInt8.toNat_inj.1 (by omega), fun h => by rw [h]⟩
    by_cases h : b = c
    · simp [cnt, cutS, h]
    · have e : cnt c (b :: bs) = cnt c bs := by simp only [cnt, List.filter_cons, hbc, h, decide_false, Bool.false_eq_true, if_false]
      rw [e, ih]
      simp only [cutS, if_neg h]

theorem cnt_le (c : UInt8) (l : List UInt8) : cnt c l ≤ l.length := List.length_filter_le _ _
theorem cutS_len (c : UInt8) (l : List UInt8) : (cutS c l).1.length ≤ l.length ∧ (cutS c l).2.1.length ≤ l.length := by
  rcases cutS_idx c l with ⟨h1, h2⟩ | ⟨h1, h2, h3⟩
  · simp [h2]
  · rw [h3]; constructor
    · simp only [List.length_take]; omega
    · simp only [List.length_drop]; omega

def ls (l : List (List UInt8)) : List (List AV) := l.map fun x => [S x]

theorem store_row {H : List AObj} {lo : Option Nat} {id ver i : Nat} {ty : TypeId} {els : List (List AV)} {x : List UInt8} (h : H[id]? = some (.row ver 1 ty els)) (hi : i < els.length) (hz : ∀ el ∈ els, el.length = 1) : storeA ⟨H, lo⟩ 1 (.rptr id ver i 0) (S x) = some ⟨H.set id (.row ver 1 ty (els.set i [S x])), lo⟩ := by
  have h1 := hz _ (List.getElem_mem hi)
  simp only [storeA, h, List.getElem?_eq_getElem hi]
  rw [if_pos ⟨trivial, h1, rfl, rfl, by rw [h1]; decide⟩]
  have : splice els[i] 0 (S x).cells = [S x] := by
    have h2 : els[i].drop 1 = [] := List.drop_eq_nil_of_le (by omega)
    simp only [splice, cells_S, List.take_zero, List.nil_append, List.length_cons, List.length_nil, Nat.zero_add, h2, List.append_nil]
  rw [this]
  simp [AS.set, refs_S]

theorem genSplit_D (l : List UInt8) (c : UInt8) (hl : l.length < 2^30) (H : List AObj) (lo : Option Nat) : ∃ r, D X (.fn (.func fn_strings_genSplit) [] []) [S l, S [c], .int .i64 0, .int .i64 (-1)] ⟨H, lo⟩ = some (.ret r ⟨H, lo⟩) ∧ Rv r 1 (ls (splitS c l)) := by
  suffices h : ∃ cr, D X (.fn (.func fn_strings_genSplit) [] []) [S l, S [c], .int .i64 0, .int .i64 (-1)] ⟨H, lo⟩ = some cr ∧ (fun cr => ∃ r, cr = CRes.ret r ⟨H, lo⟩ ∧ Rv r 1 (ls (splitS c l))) cr by
    obtain ⟨cr, h1, r, rfl, h2⟩ := h
    exact ⟨r, h1, h2⟩
  refine D_fn_ex pf_strings_genSplit rfl rfl rfl fun N hN => ?_
  have hcl := cnt_le c l
  have hcd := Count_D l c (by omega)
  have hcd' : ∀ H lo, D X (.fn (.func fn_strings_Count) [] []) [S l, S [c]] ⟨H, lo⟩ = some (.ret (.int .i64 (cnt c l)) ⟨H, lo⟩) := hcd
  have hmin : min ((cnt c l : Int) + 1) ((l.length : Int) + 1) = (cnt c l : Int) + 1 := by omega
  have hmk : mksliceA ⟨H, none⟩ ty_string [S []] 16 (.int .i64 ((cnt c l : Int) + 1)) (.int .i64 ((cnt c l : Int) + 1)) = some (.ref N 0 1 0 (cnt c l + 1) false, ⟨H ++ [.row 0 1 ty_string (List.replicate (cnt c l + 1) [S []])], none⟩) := by
    simp only [mksliceA]
    rw [if_pos ⟨by omega, by omega, by unfold room; omega, by unfold room; omega⟩, hN, show ((cnt c l : Int) + 1).toNat = cnt c l + 1 by omega]
    rfl
  simp (maxSteps := 2000000) (disch := omega) only [condK_dec, F1, ↓Int.cast_ofNat_Int, ↓R1, R2, C1, P1, O1, V1, V2, V3, reduceCtorEq, Nat.reduceEqDiff, Nat.reduceBEq, Nat.reduceAdd, Nat.reduceSub, Nat.reduceMul, Nat.reduceLeDiff, Nat.reduceLT, Int.reduceEq, Int.reduceAdd, Int.reduceSub, Int.reduceMul, Int.reduceLT, Int.reduceLE, Int.reduceNeg, Int.reduceToNat, wrap_i64, wrap_u64, wrap_u8, wrap_u16, wrap_u32, wrap_i32, base_get0, base_get, base_set0, base_set, base_take, take_self, take_app1, pf_strings_genSplit, hcd', hmin, hmk]
  obtain ⟨m, hm⟩ : ∃ m, cnt c l = m := ⟨_, rfl⟩
  rw [hm] at hcl ⊢
  clear hcd hcd' hmin hmk
  refine wp_loopN m (fun i e H' => e 1 = S [c] ∧ e 2 = .int .i64 0 ∧ e 3 = .int .i64 m ∧ e 9 = .ref N 0 1 0 (m + 1) false ∧ e 10 = .int .i64 i ∧
    ∃ fs r, fs.length = i ∧ splitS c l = fs ++ splitS c r ∧ cnt c r + i = m ∧ r.length ≤ l.length ∧ e 0 = S r ∧ H' = H ++ [.row 0 1 ty_string (ls fs ++ List.replicate (m + 1 - i) [S []])]) 0 (by omega) ?_ ?_
  · simp (maxSteps := 2000000) (disch := omega) only [F1, ↓Int.cast_ofNat_Int, ↓R1, R2, C1, P1, O1, V1, V2, V3, reduceCtorEq, Nat.reduceEqDiff, Nat.reduceBEq, Nat.reduceAdd, Nat.reduceSub, Nat.reduceMul, Nat.reduceLeDiff, Nat.reduceLT, Int.reduceEq, Int.reduceAdd, Int.reduceSub, Int.reduceMul, Int.reduceLT, Int.reduceLE, Int.reduceNeg, Int.reduceToNat, wrap_i64, wrap_u64, wrap_u8, wrap_u16, wrap_u32, wrap_i32, base_get0, base_get, base_set0, base_set, base_take, take_self, take_app1]
    exact ⟨congrArg _ (by omega), [], l, rfl, rfl, hm, Nat.le_refl _, rfl, rfl⟩
  rintro i hi e H' ⟨h1, h2, h3, h9, h10, fs, r, hfs, hsp, hcr, hrl, h0, rfl⟩ n hn
  have hrow : (H ++ [AObj.row 0 1 ty_string (ls fs ++ List.replicate (m + 1 - i) [S []])])[N]? = some (.row 0 1 ty_string (ls fs ++ List.replicate (m + 1 - i) [S []])) := by rw [base_get0 hN]; rfl
  have hz : ∀ el ∈ ls fs ++ List.replicate (m + 1 - i) [S []], el.length = 1 := by
    intro el hel
    rcases List.mem_append.1 hel with h | h
    · simp only [ls, List.mem_map] at h; obtain ⟨x, _, rfl⟩ := h; rfl
    · rw [(List.mem_replicate.1 h).2]; rfl
  have hlen : (ls fs ++ List.replicate (m + 1 - i) [S []]).length = m + 1 := by simp [ls]; omega
  have hset : ∀ x, (ls fs ++ List.replicate (m + 1 - i) [S []]).set i [S x] = ls (fs ++ [x]) ++ List.replicate (m + 1 - (i + 1)) [S []] := by
    intro x
    have e1 : m + 1 - i = (m + 1 - (i + 1)) + 1 := by omega
    rw [e1, List.replicate_succ, List.set_append_right _ _ (by simp [ls]; omega)]
    simp [ls, hfs]
  have hst : ∀ x, storeA ⟨H ++ [AObj.row 0 1 ty_string (ls fs ++ List.replicate (m + 1 - i) [S []])], none⟩ 1 (.rptr N 0 i 0) (S x) = some ⟨H ++ [.row 0 1 ty_string (ls (fs ++ [x]) ++ List.replicate (m + 1 - (i + 1)) [S []])], none⟩ := by
    intro x
    rw [store_row hrow (by omega) hz, hset, base_set0 hN]; rfl
  have hadr : iaddrsA 1 (.ref N 0 1 0 (m + 1) false) (.int .i64 i) = some (.rptr N 0 i 0) := by
    simp only [iaddrsA, intOf?]
    rw [if_pos ⟨by omega, by omega, trivial⟩, Int.toNat_natCast, Nat.zero_add]
  have hidx := Index_D r c (by omega)
  by_cases hlt : i < m
  · have hlt' : (i : Int) < m := by omega
    have hc1 := cnt_cut c r
    have hs1 := splitS_cut c r
    have hcl2 := cutS_len c r
    rcases cutS_idx c r with ⟨q1, q2⟩ | ⟨q1, q2, q3⟩
    · rw [q2] at hc1; simp at hc1; omega
    · rw [q3] at hc1 hs1 hcl2
      simp only [if_true] at hc1 hs1 hcl2
      have e5 : (idxB (↑c.toNat) r + 1).toNat = (idxB (↑c.toNat) r).toNat + 1 := by omega
      have hneg : ¬ idxB (↑c.toNat) r < 0 := by omega
      simp (maxSteps := 2000000) (disch := omega) only [condK_dec, F1, ↓Int.cast_ofNat_Int, ↓R1, R2, C1, P1, O1, V1, V2, V3, reduceCtorEq, Nat.reduceEqDiff, Nat.reduceBEq, Nat.reduceAdd, Nat.reduceSub, Nat.reduceMul, Nat.reduceLeDiff, Nat.reduceLT, Int.reduceEq, Int.reduceAdd, Int.reduceSub, Int.reduceMul, Int.reduceLT, Int.reduceLE, Int.reduceNeg, Int.reduceToNat, wrap_i64, wrap_u64, wrap_u8, wrap_u16, wrap_u32, wrap_i32, base_get0, base_get, base_set0, base_set, base_take, take_self, take_app1, l1_strings_genSplit, h0, h1, h2, h3, h9, h10, hidx, hadr, hst, hlt', hneg, Int.add_zero, e5]
      refine ⟨by omega, by omega, hlt, fs ++ [List.take (idxB (↑c.toNat) r).toNat r], _, by simp [hfs], ?_, by omega, by omega, rfl, rfl⟩
      rw [hsp, hs1]; simp
  · have him : i = m := by omega
    subst him
    have hc1 := cnt_cut c r
    have hs1 := splitS_cut c r
    have hcf : (cutS c r).2.2 = false := by
      cases hx : (cutS c r).2.2
      · rfl
      · rw [hx] at hc1; simp at hc1; omega
    rw [hcf] at hs1
    simp only [Bool.false_eq_true, if_false] at hs1
    have hsl : slslA 1 (.ref N 0 1 0 (i + 1) false) none (some (.int .i64 ((i : Int) + 1))) none = some (.ref N 0 1 0 (i + 1) false) := by
      simp only [slslA, boundsA, upTo, capA]
      rw [if_pos ⟨by omega, by omega⟩]
      simp
    have hnl : ¬ (i : Int) < i := by omega
    simp (maxSteps := 2000000) (disch := omega) only [↓Int.cast_ofNat_Int, ↓R1, R2, C1, P1, O1, V1, V2, V3, reduceCtorEq, Nat.reduceEqDiff, Nat.reduceBEq, Nat.reduceAdd, Nat.reduceSub, Nat.reduceMul, Nat.reduceLeDiff, Nat.reduceLT, Int.reduceEq, Int.reduceAdd, Int.reduceSub, Int.reduceMul, Int.reduceLT, Int.reduceLE, Int.reduceNeg, Int.reduceToNat, wrap_i64, wrap_u64, wrap_u8, wrap_u16, wrap_u32, wrap_i32, base_get0, base_get, base_set0, base_set, base_take, take_self, take_app1, l1_strings_genSplit, h0, h1, h2, h3, h9, h10, hadr, hst, hnl, hsl, Nat.sub_self]
    have how : Own N (H ++ [AObj.row 0 1 ty_string (ls (fs ++ [r]))]) (.ref N 0 1 0 (i + 1) false) 1 ty_string (ls (fs ++ [r])) := by
      refine ⟨?_, .inr ⟨N, 0, Nat.le_refl _, ?_, by rw [base_get0 hN]; rfl⟩⟩
      · intro el hel; simp only [ls, List.mem_map] at hel; obtain ⟨x, _, rfl⟩ := hel; rfl
      · simp [ls, hfs]
    have hr0 : refsLL (ls (fs ++ [r])) ≤ N := by
      have : refsLL (ls (fs ++ [r])) = 0 := refsLL_map (fun x => by simp [refsL, refs_S]) _
      rw [this]; exact Nat.zero_le _
    rw [how.finish1 hr0]
    refine ⟨_, ret_eq rfl (base_take hN), ?_⟩
    rw [hsp, hs1]
    exact how.frz_rv

theorem Split_D (l : List UInt8) (c : UInt8) (hl : l.length < 2^30) (H : List AObj) (lo : Option Nat) : ∃ r, D X (.fn (.func fn_strings_Split) [] []) [S l, S [c]] ⟨H, lo⟩ = some (.ret r ⟨H, lo⟩) ∧ Rv r 1 (ls (splitS c l)) := by
  suffices h : ∃ cr, D X (.fn (.func fn_strings_Split) [] []) [S l, S [c]] ⟨H, lo⟩ = some cr ∧ (fun cr => ∃ r, cr = CRes.ret r ⟨H, lo⟩ ∧ Rv r 1 (ls (splitS c l))) cr by
    obtain ⟨cr, h1, r, rfl, h2⟩ := h
    exact ⟨r, h1, h2⟩
  refine D_fn_ex pf_strings_Split rfl rfl rfl fun N hN => ?_
  obtain ⟨r, e1, e2⟩ := genSplit_D l c hl H none
  simp (maxSteps := 2000000) (disch := omega) only [↓Int.cast_ofNat_Int, ↓R1, R2, C1, P1, O1, V1, V2, V3, reduceCtorEq, Nat.reduceEqDiff, Nat.reduceBEq, Nat.reduceAdd, Nat.reduceSub, Nat.reduceMul, Nat.reduceLeDiff, Nat.reduceLT, Int.reduceEq, Int.reduceAdd, Int.reduceSub, Int.reduceMul, Int.reduceLT, Int.reduceLE, Int.reduceNeg, Int.reduceToNat, wrap_i64, wrap_u64, wrap_u8, wrap_u16, wrap_u32, wrap_i32, base_get0, base_get, base_set0, base_set, base_take, take_self, take_app1, pf_strings_Split, e1]
  have hrefs : r.refs = 0 := by
    obtain ⟨h1, h2, h3⟩ := e2 ⟨[], none⟩
    cases r <;> simp only [] at h1
    · rfl
    · simp only [Den.elems] at h2
      split at h2
      · cases h2
        simp only [AV.refs]
        exact refsLL_map (fun x => by simp [refsL, refs_S]) _
      · cases h2
    · simp [Den.elems] at h2
  rw [finish_0, if_pos (by omega)]
  exact ⟨r, ret_eq rfl (take_self hN), e2⟩

end Go.Proofs.YtoolhdikfdjikaaDoor

/- strings.Trim at a set of ASCII; labels. -/
namespace Go.Proofs.YtoolhdikfdjikaaDoor
open Go Go.Den
set_option maxRecDepth 10000

def setB (f : Nat → Bool) : List AV := (List.range 256).map fun i => .bool (f i)
theorem setB_len (f : Nat → Bool) : (setB f).length = 256 := by simp [setB]
theorem reps_setB : reps 256 (.bool false) = setB fun _ => false := by simp [reps, setB, List.map_const']
theorem setB_get (f : Nat → Bool) {i : Nat} (h : i < 256) : (setB f)[i]? = some (.bool (f i)) := by
  simp [setB, h]
theorem setB_put (f : Nat → Bool) {c : Nat} (h : c < 256) : splice (setB f) c [.bool true] = setB fun i => f i || decide (i = c) := by
  apply List.ext_getElem?
  intro i
  have hl : (splice (setB f) c [AV.bool true]).length = 256 := by
    simp only [splice, List.length_append, List.length_take, List.length_drop, setB_len, List.length_cons, List.length_nil]; omega
  by_cases hi : i < 256
  · rw [setB_get _ hi]
    unfold splice
    by_cases h1 : i < c
    · rw [List.getElem?_append_left (by rw [List.length_take, setB_len]; omega), List.getElem?_take_of_lt h1, setB_get f hi]
      have : ¬ i = c := by omega
      simp [this]
    · rw [List.getElem?_append_right (by rw [List.length_take, setB_len]; omega), List.length_take, setB_len, Nat.min_eq_left (by omega)]
      by_cases h2 : i = c
      · subst h2; simp
      · rw [List.getElem?_append_right (by simp; omega)]
        have e : c + 1 + (i - c - 1) = i := by omega
        simp only [List.length_cons, List.length_nil, Nat.zero_add, List.getElem?_drop, e, setB_get f hi, h2, decide_false, Bool.or_false]
  · rw [List.getElem?_eq_none (by omega), List.getElem?_eq_none (by rw [setB_len]; omega)]
theorem setB_all (f g : Nat → Bool) : splice (setB g) 0 (setB f) = setB f := by
  simp [splice, setB_len, List.drop_eq_nil_of_le (Nat.le_of_eq (setB_len g))]
theorem setB_part (f : Nat → Bool) : Den.part true 256 (setB f) 0 = some (.agg (setB f)) := by
  simp only [part_n, setB_len, Nat.zero_add, Nat.le_refl, if_true, List.drop_zero]
  rw [List.take_of_length_le (by rw [setB_len]; exact Nat.le_refl _)]
theorem setB_refs (f : Nat → Bool) : refsL (setB f) = 0 := by
  have : ∀ l : List Nat, refsL (l.map fun i => AV.bool (f i)) = 0 := by
    intro l
    induction l with
    | nil => rfl
    | cons a r ih => simp only [List.map_cons, refsL, AV.refs, ih]; rfl
  exact this _

theorem setB_drop (f : Nat → Bool) : List.drop 256 (setB f) = [] := List.drop_eq_nil_of_le (Nat.le_of_eq (setB_len f))

theorem retK_cell {X : Ctx} {n : Nat} {lo : Option Nat} {a m t : Nat} {ag : Bool} {e : Env} {σ : AS} {R : CRes → Prop} : retK X n lo [.cell a ag m, .t t] R .ret ⟨e, []⟩ σ = okV (loadA X σ ag m (e a)) (fun v σ => R (.ret (finish n lo (.tup [v, e t]) σ).1 (finish n lo (.tup [v, e t]) σ).2)) σ := by
  simp only [retK, killMarks, resultsA, resultsL, resultA]
  cases h : loadA X σ ag m (e a) with
  | none => simp [okV, h]
  | some v => simp [okV, h]

theorem contains_D (f : Nat → Bool) (c : Int) (h0 : 0 ≤ c) (h1 : c < 256) (p : Nat) (H : List AObj) (lo : Option Nat) (hp : H[p]? = some (.box (setB f) none)) : D X (.fn (.func fn_Pstrings_asciiSet_contains) [] []) [.ptr p 0, .int .u8 c] ⟨H, lo⟩ = some (.ret (.bool (f c.toNat)) ⟨H, lo⟩) := by
  refine D_fn pf_Pstrings_asciiSet_contains rfl rfl rfl fun N hN => ?_
  have e := setB_get f (i := c.toNat) (by omega)
  simp (maxSteps := 2000000) (disch := omega) only [F1, ↓Int.cast_ofNat_Int, ↓R1, R2, C1, P1, O1, V1, V2, V3, reduceCtorEq, Nat.reduceEqDiff, Nat.reduceBEq, Nat.reduceAdd, Nat.reduceSub, Nat.reduceMul, Nat.reduceLeDiff, Nat.reduceLT, Int.reduceEq, Int.reduceAdd, Int.reduceSub, Int.reduceMul, Int.reduceLT, Int.reduceLE, Int.reduceNeg, Int.reduceToNat, wrap_i64, wrap_u64, wrap_u8, wrap_u16, wrap_u32, wrap_i32, base_get0, base_get, base_set0, base_set, base_take, take_self, take_app1, pf_Pstrings_asciiSet_contains, hp, e]
  omega

theorem makeASCIISet_D (l : List UInt8) (hl : ∀ x ∈ l, x.toNat < 128) (hn : l.length < 2^40) (H : List AObj) (lo : Option Nat) : D X (.fn (.func fn_strings_makeASCIISet) [] []) [S l] ⟨H, lo⟩ = some (.ret (.tup [.agg (setB fun i => l.any fun x => decide (i = x.toNat)), .bool true]) ⟨H, lo⟩) := by
  refine D_fn pf_strings_makeASCIISet rfl rfl rfl fun N hN => ?_
  simp (maxSteps := 2000000) (disch := omega) only [condK_dec, F1, ↓Int.cast_ofNat_Int, ↓R1, R2, C1, P1, O1, V1, V2, V3, reduceCtorEq, Nat.reduceEqDiff, Nat.reduceBEq, Nat.reduceAdd, Nat.reduceSub, Nat.reduceMul, Nat.reduceLeDiff, Nat.reduceLT, Int.reduceEq, Int.reduceAdd, Int.reduceSub, Int.reduceMul, Int.reduceLT, Int.reduceLE, Int.reduceNeg, Int.reduceToNat, wrap_i64, wrap_u64, wrap_u8, wrap_u16, wrap_u32, wrap_i32, base_get0, base_get, base_set0, base_set, base_take, take_self, take_app1, pf_strings_makeASCIISet, hN, reps_setB]
  refine wp_loopN l.length (fun k e H' => H' = H ++ [.box (setB fun i => (l.take k).any fun x => decide (i = x.toNat)) none] ∧ e 0 = S l ∧ e 2 = .ptr N 0 ∧ e 4 = .int .i64 k) 0 (by omega) ?_ ?_
  · simp (maxSteps := 2000000) (disch := omega) only [F1, ↓Int.cast_ofNat_Int, ↓R1, R2, C1, P1, O1, V1, V2, V3, reduceCtorEq, Nat.reduceEqDiff, Nat.reduceBEq, Nat.reduceAdd, Nat.reduceSub, Nat.reduceMul, Nat.reduceLeDiff, Nat.reduceLT, Int.reduceEq, Int.reduceAdd, Int.reduceSub, Int.reduceMul, Int.reduceLT, Int.reduceLE, Int.reduceNeg, Int.reduceToNat, wrap_i64, wrap_u64, wrap_u8, wrap_u16, wrap_u32, wrap_i32, base_get0, base_get, base_set0, base_set, base_take, take_self, take_app1]
    simp
  rintro k hk e H' ⟨rfl, h0, h2, h4⟩ n hn'
  by_cases hlt : k < l.length
  · have hlt' : (k : Int) < l.length := by omega
    have hc := hl _ (getD_mem hlt)
    have hd : l.getD k 0 = l.getD k default := rfl
    rw [← hd] at hc
    have hnc : ¬ (128 : Int) ≤ ((l.getD k 0).toNat : Int) := by omega
    have hput := setB_put (fun i => (l.take k).any fun x => decide (i = x.toNat)) (c := (l.getD k 0).toNat) (by omega)
    simp (maxSteps := 2000000) (disch := omega) only [condK_dec, F1, ↓Int.cast_ofNat_Int, ↓R1, R2, C1, P1, O1, V1, V2, V3, reduceCtorEq, Nat.reduceEqDiff, Nat.reduceBEq, Nat.reduceAdd, Nat.reduceSub, Nat.reduceMul, Nat.reduceLeDiff, Nat.reduceLT, Int.reduceEq, Int.reduceAdd, Int.reduceSub, Int.reduceMul, Int.reduceLT, Int.reduceLE, Int.reduceNeg, Int.reduceToNat, wrap_i64, wrap_u64, wrap_u8, wrap_u16, wrap_u32, wrap_i32, base_get0, base_get, base_set0, base_set, base_take, take_self, take_app1, l1_strings_makeASCIISet, h0, h2, h4, hlt', hnc, hput, setB_len, Nat.zero_add]
    refine ⟨by omega, by omega, hlt, ?_⟩
    have : ∀ i, (((List.take k l).any fun x => decide (i = x.toNat)) || decide (i = (l.getD k 0).toNat)) = (List.take (k + 1) l).any fun x => decide (i = x.toNat) := by
      intro i; rw [any_take_succ hlt, hd]
    simp only [this]
  · have hnl : ¬ (k : Int) < l.length := by omega
    simp (maxSteps := 2000000) (disch := omega) only [condK_dec, F1, ↓Int.cast_ofNat_Int, ↓R1, R2, C1, P1, O1, V1, V2, V3, reduceCtorEq, Nat.reduceEqDiff, Nat.reduceBEq, Nat.reduceAdd, Nat.reduceSub, Nat.reduceMul, Nat.reduceLeDiff, Nat.reduceLT, Int.reduceEq, Int.reduceAdd, Int.reduceSub, Int.reduceMul, Int.reduceLT, Int.reduceLE, Int.reduceNeg, Int.reduceToNat, wrap_i64, wrap_u64, wrap_u8, wrap_u16, wrap_u32, wrap_i32, base_get0, base_get, base_set0, base_set, base_take, take_self, take_app1, l1_strings_makeASCIISet, h0, h2, h4, hnl, ↓setB_part, setB_len, setB_refs, setB_drop, retK_cell]
    rw [List.take_of_length_le (by omega)]

def inS (cs : List UInt8) (x : UInt8) : Bool := cs.any fun y => decide (x.toNat = y.toNat)
def trimL (cs l : List UInt8) : List UInt8 := l.dropWhile (inS cs)
def trimR (cs l : List UInt8) : List UInt8 := (l.reverse.dropWhile (inS cs)).reverse

theorem trimR_snoc (cs m : List UInt8) (x : UInt8) : trimR cs (m ++ [x]) = if inS cs x then trimR cs m else m ++ [x] := by
  simp only [trimR, List.reverse_append, List.reverse_cons, List.reverse_nil, List.nil_append, List.cons_append, List.dropWhile_cons]
  split <;> simp
theorem trimR_nil (cs : List UInt8) : trimR cs [] = [] := rfl

theorem snoc_of {r : List UInt8} (h : 0 < r.length) : r = r.take (r.length - 1) ++ [r.getD (r.length - 1) 0] := by
  have h1 : r.length - 1 < r.length := by omega
  have := take_succ_getD (l := r) (k := r.length - 1) h1
  rw [show r.length - 1 + 1 = r.length by omega, List.take_length] at this
  exact this

theorem trimRight_D (cs l : List UInt8) (hn : l.length < 2^40) (p : Nat) (H : List AObj) (lo : Option Nat) (hp : H[p]? = some (.box (setB fun i => cs.any fun x => decide (i = x.toNat)) none)) :
    D X (.fn (.func fn_strings_trimRightASCII) [] []) [S l, .ptr p 0] ⟨H, lo⟩ = some (.ret (S (trimR cs l)) ⟨H, lo⟩) := by
  refine D_fn pf_strings_trimRightASCII rfl rfl rfl fun N hN => ?_
  simp (maxSteps := 2000000) (disch := omega) only [condK_dec, F1, ↓Int.cast_ofNat_Int, ↓R1, R2, C1, P1, O1, V1, V2, V3, reduceCtorEq, Nat.reduceEqDiff, Nat.reduceBEq, Nat.reduceAdd, Nat.reduceSub, Nat.reduceMul, Nat.reduceLeDiff, Nat.reduceLT, Int.reduceEq, Int.reduceAdd, Int.reduceSub, Int.reduceMul, Int.reduceLT, Int.reduceLE, Int.reduceNeg, Int.reduceToNat, wrap_i64, wrap_u64, wrap_u8, wrap_u16, wrap_u32, wrap_i32, base_get0, base_get, base_set0, base_set, base_take, take_self, take_app1, pf_strings_trimRightASCII]
  refine wp_loopN l.length (fun k e H' => H' = H ∧ e 1 = .ptr p 0 ∧ ∃ r, r.length + k = l.length ∧ e 0 = S r ∧ trimR cs l = trimR cs r) 0 (by omega) ?_ ?_
  · simp (maxSteps := 2000000) (disch := omega) only [F1, ↓Int.cast_ofNat_Int, ↓R1, R2, C1, P1, O1, V1, V2, V3, reduceCtorEq, Nat.reduceEqDiff, Nat.reduceBEq, Nat.reduceAdd, Nat.reduceSub, Nat.reduceMul, Nat.reduceLeDiff, Nat.reduceLT, Int.reduceEq, Int.reduceAdd, Int.reduceSub, Int.reduceMul, Int.reduceLT, Int.reduceLE, Int.reduceNeg, Int.reduceToNat, wrap_i64, wrap_u64, wrap_u8, wrap_u16, wrap_u32, wrap_i32, base_get0, base_get, base_set0, base_set, base_take, take_self, take_app1]
    exact ⟨l, rfl, rfl, rfl⟩
  rintro k hk e H' ⟨rfl, h1, r, hr, h0, ht⟩ n hn'
  by_cases hpos : 0 < r.length
  · have hpos' : (0 : Int) < r.length := by omega
    have e1 : ((r.length : Int) - 1).toNat = r.length - 1 := by omega
    have hs := snoc_of hpos
    obtain ⟨x, hx⟩ : ∃ x, r.getD (r.length - 1) 0 = x := ⟨_, rfl⟩
    have hxl := x.toNat_lt
    have hc := contains_D (fun i => cs.any fun x => decide (i = x.toNat)) (x.toNat : Int) (by omega) (by omega) p H' none hp
    rw [Int.toNat_natCast] at hc
    simp (maxSteps := 2000000) (disch := omega) only [condK_dec, F1, ↓Int.cast_ofNat_Int, ↓R1, R2, C1, P1, O1, V1, V2, V3, reduceCtorEq, Nat.reduceEqDiff, Nat.reduceBEq, Nat.reduceAdd, Nat.reduceSub, Nat.reduceMul, Nat.reduceLeDiff, Nat.reduceLT, Int.reduceEq, Int.reduceAdd, Int.reduceSub, Int.reduceMul, Int.reduceLT, Int.reduceLE, Int.reduceNeg, Int.reduceToNat, wrap_i64, wrap_u64, wrap_u8, wrap_u16, wrap_u32, wrap_i32, base_get0, base_get, base_set0, base_set, base_take, take_self, take_app1, l1_strings_trimRightASCII, h0, h1, hpos', e1, hx, hc]
    refine ⟨by omega, ?_⟩
    have hin : (cs.any fun y => decide (x.toNat = y.toNat)) = inS cs x := rfl
    rw [hin]
    rw [hx] at hs
    have ht2 : trimR cs r = if inS cs x then trimR cs (r.take (r.length - 1)) else r := by
      conv => lhs; rw [hs]
      rw [trimR_snoc, ← hs]
    cases hi : inS cs x
    · rw [hi] at ht2
      simp (maxSteps := 2000000) (disch := omega) only [condK_dec, F1, ↓Int.cast_ofNat_Int, ↓R1, R2, C1, P1, O1, V1, V2, V3, reduceCtorEq, Nat.reduceEqDiff, Nat.reduceBEq, Nat.reduceAdd, Nat.reduceSub, Nat.reduceMul, Nat.reduceLeDiff, Nat.reduceLT, Int.reduceEq, Int.reduceAdd, Int.reduceSub, Int.reduceMul, Int.reduceLT, Int.reduceLE, Int.reduceNeg, Int.reduceToNat, wrap_i64, wrap_u64, wrap_u8, wrap_u16, wrap_u32, wrap_i32, base_get0, base_get, base_set0, base_set, base_take, take_self, take_app1, h0]
      rw [ht, ht2]; rfl
    · rw [hi] at ht2
      simp (maxSteps := 2000000) (disch := omega) only [condK_dec, F1, ↓Int.cast_ofNat_Int, ↓R1, R2, C1, P1, O1, V1, V2, V3, reduceCtorEq, Nat.reduceEqDiff, Nat.reduceBEq, Nat.reduceAdd, Nat.reduceSub, Nat.reduceMul, Nat.reduceLeDiff, Nat.reduceLT, Int.reduceEq, Int.reduceAdd, Int.reduceSub, Int.reduceMul, Int.reduceLT, Int.reduceLE, Int.reduceNeg, Int.reduceToNat, wrap_i64, wrap_u64, wrap_u8, wrap_u16, wrap_u32, wrap_i32, base_get0, base_get, base_set0, base_set, base_take, take_self, take_app1, h0, h1, e1]
      refine ⟨by omega, by omega, r.take (r.length - 1), by simp; omega, rfl, ?_⟩
      rw [ht, ht2]; rfl
  · have hz : r = [] := List.length_eq_zero_iff.1 (by omega)
    subst hz
    simp (maxSteps := 2000000) (disch := omega) only [condK_dec, F1, ↓Int.cast_ofNat_Int, ↓R1, R2, C1, P1, O1, V1, V2, V3, reduceCtorEq, Nat.reduceEqDiff, Nat.reduceBEq, Nat.reduceAdd, Nat.reduceSub, Nat.reduceMul, Nat.reduceLeDiff, Nat.reduceLT, Int.reduceEq, Int.reduceAdd, Int.reduceSub, Int.reduceMul, Int.reduceLT, Int.reduceLE, Int.reduceNeg, Int.reduceToNat, wrap_i64, wrap_u64, wrap_u8, wrap_u16, wrap_u32, wrap_i32, base_get0, base_get, base_set0, base_set, base_take, take_self, take_app1, l1_strings_trimRightASCII, h0, h1]
    rw [ht, trimR_nil]

theorem trimLeft_D (cs l : List UInt8) (hn : l.length < 2^40) (p : Nat) (H : List AObj) (lo : Option Nat) (hp : H[p]? = some (.box (setB fun i => cs.any fun x => decide (i = x.toNat)) none)) :
    D X (.fn (.func fn_strings_trimLeftASCII) [] []) [S l, .ptr p 0] ⟨H, lo⟩ = some (.ret (S (trimL cs l)) ⟨H, lo⟩) := by
  refine D_fn pf_strings_trimLeftASCII rfl rfl rfl fun N hN => ?_
  simp (maxSteps := 2000000) (disch := omega) only [condK_dec, F1, ↓Int.cast_ofNat_Int, ↓R1, R2, C1, P1, O1, V1, V2, V3, reduceCtorEq, Nat.reduceEqDiff, Nat.reduceBEq, Nat.reduceAdd, Nat.reduceSub, Nat.reduceMul, Nat.reduceLeDiff, Nat.reduceLT, Int.reduceEq, Int.reduceAdd, Int.reduceSub, Int.reduceMul, Int.reduceLT, Int.reduceLE, Int.reduceNeg, Int.reduceToNat, wrap_i64, wrap_u64, wrap_u8, wrap_u16, wrap_u32, wrap_i32, base_get0, base_get, base_set0, base_set, base_take, take_self, take_app1, pf_strings_trimLeftASCII]
  refine wp_loopN l.length (fun k e H' => H' = H ∧ e 1 = .ptr p 0 ∧ ∃ r, r.length + k = l.length ∧ e 0 = S r ∧ trimL cs l = trimL cs r) 0 (by omega) ?_ ?_
  · simp (maxSteps := 2000000) (disch := omega) only [F1, ↓Int.cast_ofNat_Int, ↓R1, R2, C1, P1, O1, V1, V2, V3, reduceCtorEq, Nat.reduceEqDiff, Nat.reduceBEq, Nat.reduceAdd, Nat.reduceSub, Nat.reduceMul, Nat.reduceLeDiff, Nat.reduceLT, Int.reduceEq, Int.reduceAdd, Int.reduceSub, Int.reduceMul, Int.reduceLT, Int.reduceLE, Int.reduceNeg, Int.reduceToNat, wrap_i64, wrap_u64, wrap_u8, wrap_u16, wrap_u32, wrap_i32, base_get0, base_get, base_set0, base_set, base_take, take_self, take_app1]
    exact ⟨l, rfl, rfl, rfl⟩
  rintro k hk e H' ⟨rfl, h1, r, hr, h0, ht⟩ n hn'
  cases r with
  | nil =>
    simp (maxSteps := 2000000) (disch := omega) only [condK_dec, F1, ↓Int.cast_ofNat_Int, ↓R1, R2, C1, P1, O1, V1, V2, V3, reduceCtorEq, Nat.reduceEqDiff, Nat.reduceBEq, Nat.reduceAdd, Nat.reduceSub, Nat.reduceMul, Nat.reduceLeDiff, Nat.reduceLT, Int.reduceEq, Int.reduceAdd, Int.reduceSub, Int.reduceMul, Int.reduceLT, Int.reduceLE, Int.reduceNeg, Int.reduceToNat, wrap_i64, wrap_u64, wrap_u8, wrap_u16, wrap_u32, wrap_i32, base_get0, base_get, base_set0, base_set, base_take, take_self, take_app1, l1_strings_trimLeftASCII, h0, h1]
    rw [ht]; rfl
  | cons x r =>
    have hxl := x.toNat_lt
    have hc := contains_D (fun i => cs.any fun x => decide (i = x.toNat)) (x.toNat : Int) (by omega) (by omega) p H' none hp
    rw [Int.toNat_natCast] at hc
    have hg : (x :: r).getD 0 0 = x := rfl
    have hpos : (0 : Int) < (x :: r).length := by rw [List.length_cons]; omega
    obtain ⟨q, hq⟩ : ∃ q, x :: r = q := ⟨_, rfl⟩
    have hd1 : List.drop 1 (x :: r) = r := rfl
    rw [hq] at hg hpos h0 hd1
    simp (maxSteps := 2000000) (disch := omega) only [condK_dec, F1, ↓Int.cast_ofNat_Int, ↓R1, R2, C1, P1, O1, V1, V2, V3, reduceCtorEq, Nat.reduceEqDiff, Nat.reduceBEq, Nat.reduceAdd, Nat.reduceSub, Nat.reduceMul, Nat.reduceLeDiff, Nat.reduceLT, Int.reduceEq, Int.reduceAdd, Int.reduceSub, Int.reduceMul, Int.reduceLT, Int.reduceLE, Int.reduceNeg, Int.reduceToNat, wrap_i64, wrap_u64, wrap_u8, wrap_u16, wrap_u32, wrap_i32, base_get0, base_get, base_set0, base_set, base_take, take_self, take_app1, l1_strings_trimLeftASCII, h0, h1, hpos, hg, hc]
    have hin : (cs.any fun y => decide (x.toNat = y.toNat)) = inS cs x := rfl
    rw [hin]
    cases hi : inS cs x
    · simp (maxSteps := 2000000) (disch := omega) only [condK_dec, F1, ↓Int.cast_ofNat_Int, ↓R1, R2, C1, P1, O1, V1, V2, V3, reduceCtorEq, Nat.reduceEqDiff, Nat.reduceBEq, Nat.reduceAdd, Nat.reduceSub, Nat.reduceMul, Nat.reduceLeDiff, Nat.reduceLT, Int.reduceEq, Int.reduceAdd, Int.reduceSub, Int.reduceMul, Int.reduceLT, Int.reduceLE, Int.reduceNeg, Int.reduceToNat, wrap_i64, wrap_u64, wrap_u8, wrap_u16, wrap_u32, wrap_i32, base_get0, base_get, base_set0, base_set, base_take, take_self, take_app1, h0]
      rw [ht, ← hq, trimL, List.dropWhile_cons, hi]; rfl
    · simp (maxSteps := 2000000) (disch := omega) only [condK_dec, F1, ↓Int.cast_ofNat_Int, ↓R1, R2, C1, P1, O1, V1, V2, V3, reduceCtorEq, Nat.reduceEqDiff, Nat.reduceBEq, Nat.reduceAdd, Nat.reduceSub, Nat.reduceMul, Nat.reduceLeDiff, Nat.reduceLT, Int.reduceEq, Int.reduceAdd, Int.reduceSub, Int.reduceMul, Int.reduceLT, Int.reduceLE, Int.reduceNeg, Int.reduceToNat, wrap_i64, wrap_u64, wrap_u8, wrap_u16, wrap_u32, wrap_i32, base_get0, base_get, base_set0, base_set, base_take, take_self, take_app1, h0, h1, hd1]
      refine ⟨by omega, by simp at hr; omega, r, by simp at hr; omega, rfl, ?_⟩
      rw [ht, trimL, List.dropWhile_cons, hi]; rfl

theorem Trim_D (cs l : List UInt8) (hc : ∀ x ∈ cs, x.toNat < 128) (h2 : 2 ≤ cs.length) (hcl : cs.length < 2^40) (hn : l.length < 2^40) (H : List AObj) (lo : Option Nat) :
    D X (.fn (.func fn_strings_Trim) [] []) [S l, S cs] ⟨H, lo⟩ = some (.ret (S (trimL cs (trimR cs l))) ⟨H, lo⟩) := by
  refine D_fn pf_strings_Trim rfl rfl rfl fun N hN => ?_
  have hm := makeASCIISet_D cs hc hcl
  have hcs : cs ≠ [] := by rintro rfl; simp at h2
  have hlen1 : ¬ (cs.length : Int) = 1 := by omega
  have hget : (H ++ [AObj.box (setB fun i => cs.any fun x => decide (i = x.toNat)) none])[N]? = some (.box (setB fun i => cs.any fun x => decide (i = x.toNat)) none) := by rw [base_get0 hN]; rfl
  have ht1 := trimRight_D cs l hn N _ none hget
  have hln : (trimR cs l).length ≤ l.length := by
    simp only [trimR, List.length_reverse]
    have := (List.dropWhile_suffix (inS cs) (l := l.reverse)).length_le
    simpa using this
  have ht2 := trimLeft_D cs (trimR cs l) (by omega) N _ none hget
  by_cases hl : l = []
  · subst hl
    simp (maxSteps := 2000000) (disch := omega) only [R4, F1, ↓Int.cast_ofNat_Int, ↓R1, R2, C1, P1, O1, V1, V2, V3, reduceCtorEq, Nat.reduceEqDiff, Nat.reduceBEq, Nat.reduceAdd, Nat.reduceSub, Nat.reduceMul, Nat.reduceLeDiff, Nat.reduceLT, Int.reduceEq, Int.reduceAdd, Int.reduceSub, Int.reduceMul, Int.reduceLT, Int.reduceLE, Int.reduceNeg, Int.reduceToNat, wrap_i64, wrap_u64, wrap_u8, wrap_u16, wrap_u32, wrap_i32, base_get0, base_get, base_set0, base_set, base_take, take_self, take_app1, pf_strings_Trim]
    rfl
  · simp (maxSteps := 2000000) (disch := omega) only [R4, F1, ↓Int.cast_ofNat_Int, ↓R1, R2, C1, P1, O1, V1, V2, V3, reduceCtorEq, Nat.reduceEqDiff, Nat.reduceBEq, Nat.reduceAdd, Nat.reduceSub, Nat.reduceMul, Nat.reduceLeDiff, Nat.reduceLT, Int.reduceEq, Int.reduceAdd, Int.reduceSub, Int.reduceMul, Int.reduceLT, Int.reduceLE, Int.reduceNeg, Int.reduceToNat, wrap_i64, wrap_u64, wrap_u8, wrap_u16, wrap_u32, wrap_i32, base_get0, base_get, base_set0, base_set, base_take, take_self, take_app1, pf_strings_Trim, hl, hcs, hlen1, hm, hN, reps_setB, setB_len, setB_drop, setB_refs, ht1, ht2]

theorem trimR_all (cs l : List UInt8) : (trimR cs l).all (inS cs) = l.all (inS cs) := by
  simp only [trimR, List.all_reverse]
  have h : l.all (inS cs) = l.reverse.all (inS cs) := by rw [List.all_reverse]
  rw [h]
  generalize l.reverse = m
  induction m with
  | nil => rfl
  | cons x m ih =>
    rw [List.dropWhile_cons]
    split
    · rename_i hx; rw [ih, List.all_cons, hx, Bool.true_and]
    · rfl

theorem trimL_nil (cs m : List UInt8) : trimL cs m = [] ↔ m.all (inS cs) = true := by
  induction m with
  | nil => simp [trimL]
  | cons x m ih =>
    simp only [trimL, List.dropWhile_cons, List.all_cons] at ih ⊢
    cases hx : inS cs x
    · simp
    · simpa using ih

/-- May a text be a label? -/
def labS (l : List UInt8) : Bool := decide (l ≠ []) && decide (l.length ≤ 8) && l.all (inS str_dfc6f27b) && decide (97 ≤ (l.getD 0 0).toNat)

theorem labelled_D (l : List UInt8) (hn : l.length < 2^40) (H : List AObj) (lo : Option Nat) : D X (.fn (.func fn_asm_labelled) [] []) [S l] ⟨H, lo⟩ = some (.ret (.bool (labS l)) ⟨H, lo⟩) := by
  refine D_fn pf_asm_labelled rfl rfl rfl fun N hN => ?_
  have ht := Trim_D str_dfc6f27b l (by decide) (by decide) (by decide) hn
  have hb : (trimL str_dfc6f27b (trimR str_dfc6f27b l) = []) ↔ l.all (inS str_dfc6f27b) = true := by rw [trimL_nil, trimR_all]
  simp (maxSteps := 2000000) (disch := omega) only [F1, ↓Int.cast_ofNat_Int, ↓R1, R2, C1, P1, O1, V1, V2, V3, reduceCtorEq, Nat.reduceEqDiff, Nat.reduceBEq, Nat.reduceAdd, Nat.reduceSub, Nat.reduceMul, Nat.reduceLeDiff, Nat.reduceLT, Int.reduceEq, Int.reduceAdd, Int.reduceSub, Int.reduceMul, Int.reduceLT, Int.reduceLE, Int.reduceNeg, Int.reduceToNat, wrap_i64, wrap_u64, wrap_u8, wrap_u16, wrap_u32, wrap_i32, base_get0, base_get, base_set0, base_set, base_take, take_self, take_app1, pf_asm_labelled, ht, hb]
  refine gK_keep 2 (.bool (labS l)) [] rfl rfl ?_ fun e0 => ?_
  · simp (maxSteps := 2000000) (disch := omega) only [R4, F1, ↓Int.cast_ofNat_Int, ↓R1, R2, C1, P1, O1, V1, V2, V3, reduceCtorEq, Nat.reduceEqDiff, Nat.reduceBEq, Nat.reduceAdd, Nat.reduceSub, Nat.reduceMul, Nat.reduceLeDiff, Nat.reduceLT, Int.reduceEq, Int.reduceAdd, Int.reduceSub, Int.reduceMul, Int.reduceLT, Int.reduceLE, Int.reduceNeg, Int.reduceToNat, wrap_i64, wrap_u64, wrap_u8, wrap_u16, wrap_u32, wrap_i32, base_get0, base_get, base_set0, base_set, base_take, take_self, take_app1]
    refine ⟨fun h1 => ⟨fun h2 => ⟨fun h3 => ⟨?_, ?_⟩, fun h3 => ?_⟩, fun h2 => ?_⟩, fun h1 => ?_⟩
    · have := List.length_pos_iff.2 h1; omega
    · have h3' : l.all (inS str_dfc6f27b) = true := Classical.not_not.1 h3
      have h2' : l.length ≤ 8 := by omega
      refine congrArg AV.bool ?_
      simp only [labS, h1, h2', h3', ne_eq, not_false_eq_true, decide_true, Bool.and_self, Bool.true_and]
      rw [Bool.eq_iff_iff]; simp only [decide_eq_true_eq]; omega
    · have h3' : l.all (inS str_dfc6f27b) = false := by
        cases hx : l.all (inS str_dfc6f27b)
        · rfl
        · exact absurd hx (Classical.not_not.1 h3)
      simp [labS, h3']
    · have h2' : ¬ l.length ≤ 8 := by omega
      simp [labS, h2']
    · have h1' : l = [] := Classical.not_not.1 h1
      simp [labS, h1']
  · simp (maxSteps := 2000000) (disch := omega) only [F1, ↓Int.cast_ofNat_Int, ↓R1, R2, C1, P1, O1, V1, V2, V3, reduceCtorEq, Nat.reduceEqDiff, Nat.reduceBEq, Nat.reduceAdd, Nat.reduceSub, Nat.reduceMul, Nat.reduceLeDiff, Nat.reduceLT, Int.reduceEq, Int.reduceAdd, Int.reduceSub, Int.reduceMul, Int.reduceLT, Int.reduceLE, Int.reduceNeg, Int.reduceToNat, wrap_i64, wrap_u64, wrap_u8, wrap_u16, wrap_u32, wrap_i32, base_get0, base_get, base_set0, base_set, base_take, take_self, take_app1]

end Go.Proofs.YtoolhdikfdjikaaDoor

/- strings.FieldsFunc at blanks. -/
namespace Go.Proofs.YtoolhdikfdjikaaDoor
open Go Go.Den
set_option maxRecDepth 10000

def bl (c : UInt8) : Bool := decide (c.toNat = 32) || decide (c.toNat = 9)

/-- Spans of what is not blank. -/
def fld : List UInt8 → Nat → Option Nat → List (Nat × Nat)
  | [], _, none => []
  | [], p, some b => [(b, p)]
  | c :: cs, p, none => if bl c then fld cs (p + 1) none else fld cs (p + 1) (some p)
  | c :: cs, p, some b => if bl c then (b, p) :: fld cs (p + 1) none else fld cs (p + 1) (some b)

/-- Words between blanks. -/
def wd : List UInt8 → List UInt8 → List (List UInt8)
  | [], cur => if cur = [] then [] else [cur]
  | c :: cs, cur => if bl c then (if cur = [] then wd cs [] else cur :: wd cs []) else wd cs (cur ++ [c])

def sliceOf (l : List UInt8) (q : Nat × Nat) : List UInt8 := (l.take q.2).drop q.1

theorem slice_succ {l : List UInt8} {b p : Nat} (hb : b ≤ p) (hp : p < l.length) : sliceOf l (b, p + 1) = sliceOf l (b, p) ++ [l.getD p default] := by
  simp only [sliceOf]
  rw [take_succ_getD hp, List.drop_append_of_le_length (by rw [List.length_take]; omega)]

theorem fld_wd (l : List UInt8) : ∀ (r : List UInt8) (p : Nat) (st : Option Nat), l.drop p = r → p ≤ l.length → (∀ b, st = some b → b < p) →
    (fld r p st).map (sliceOf l) = wd r (match st with | none => [] | some b => sliceOf l (b, p))
  | [], p, none, _, _, _ => rfl
  | [], p, some b, hr, hp, hst => by
    have hb := hst b rfl
    have : sliceOf l (b, p) ≠ [] := by
      intro h
      have := congrArg List.length h
      simp only [sliceOf, List.length_drop, List.length_take, List.length_nil] at this; omega
    simp [fld, wd, this]
  | c :: cs, p, st, hr, hp, hst => by
    have hlt : p < l.length := by
      have := congrArg List.length hr
      simp only [List.length_drop, List.length_cons] at this; omega
    have hc : l.getD p default = c := by
      have e := List.drop_eq_getElem_cons hlt
      rw [hr] at e
      injection e with e1 e2
      rw [List.getD_eq_getElem?_getD, List.getElem?_eq_getElem hlt]; exact e1.symm
    have hcs : l.drop (p + 1) = cs := by
      have e := List.drop_eq_getElem_cons hlt
      rw [hr] at e
      injection e with e1 e2
      exact e2.symm
    cases st with
    | none =>
      simp only [fld, wd]
      cases hb : bl c
      · simp only [Bool.false_eq_true, if_false]
        rw [fld_wd l cs (p + 1) (some p) hcs (by omega) (by simp)]
        simp only
        have e0 : sliceOf l (p, p) = [] := by
          simp only [sliceOf]; exact List.drop_eq_nil_of_le (by rw [List.length_take]; omega)
        rw [slice_succ (Nat.le_refl _) hlt, hc, e0]
      · simp only [if_true]
        rw [fld_wd l cs (p + 1) none hcs (by omega) (by simp)]
    | some b =>
      have hb' := hst b rfl
      have hne : sliceOf l (b, p) ≠ [] := by
        intro h
        have := congrArg List.length h
        simp only [sliceOf, List.length_drop, List.length_take, List.length_nil] at this; omega
      simp only [fld, wd]
      cases hb : bl c
      · simp only [Bool.false_eq_true, if_false]
        rw [fld_wd l cs (p + 1) (some b) hcs (by omega) (by simp; omega)]
        simp only
        rw [slice_succ (by omega) hlt, hc]
      · simp only [if_true, List.map_cons, if_neg hne]
        rw [fld_wd l cs (p + 1) none hcs (by omega) (by simp)]

theorem fld_bound : ∀ (r : List UInt8) (p : Nat) (st : Option Nat), (∀ b, st = some b → b ≤ p) → ∀ q ∈ fld r p st, q.1 ≤ q.2 ∧ q.2 ≤ p + r.length
  | [], p, none, _, q, hq => by simp [fld] at hq
  | [], p, some b, hst, q, hq => by
    have := hst b rfl
    simp only [fld, List.mem_singleton] at hq
    subst hq; simp; omega
  | c :: cs, p, none, hst, q, hq => by
    simp only [fld] at hq
    split at hq
    · have := fld_bound cs (p + 1) none (by simp) q hq
      simp only [List.length_cons]; omega
    · have := fld_bound cs (p + 1) (some p) (by simp) q hq
      simp only [List.length_cons]; omega
  | c :: cs, p, some b, hst, q, hq => by
    have hb := hst b rfl
    simp only [fld] at hq
    split at hq
    · rcases List.mem_cons.1 hq with h | h
      · subst h; simp only [List.length_cons]; omega
      · have := fld_bound cs (p + 1) none (by simp) q h
        simp only [List.length_cons]; omega
    · have := fld_bound cs (p + 1) (some b) (by simp; omega) q hq
      simp only [List.length_cons]; omega

/-- A rune that is none of ASCII: bytes of which none is blank. -/
theorem fld_skip : ∀ (r : List UInt8) (p w : Nat) (b : Nat), w ≤ r.length → (∀ j, j < w → bl (r.getD j default) = false) → fld r p (some b) = fld (r.drop w) (p + w) (some b)
  | r, p, 0, b, _, _ => rfl
  | [], p, w + 1, b, hw, _ => by simp at hw
  | c :: cs, p, w + 1, b, hw, h => by
    have h0 : bl c = false := h 0 (by omega)
    simp only [fld, h0, Bool.false_eq_true, if_false, List.drop_succ_cons]
    rw [fld_skip cs (p + 1) w b (by simpa using hw) (fun j hj => h (j + 1) (by omega))]
    rw [show p + 1 + w = p + (w + 1) by omega]

theorem decode_cont (l : List UInt8) (p : Nat) (h : p < l.length) : 1 ≤ (Utf8.decode ⟨l.toArray⟩ p).2 ∧ p + (Utf8.decode ⟨l.toArray⟩ p).2 ≤ l.length ∧ (∀ j, 1 ≤ j → j < (Utf8.decode ⟨l.toArray⟩ p).2 → 128 ≤ (l.getD (p + j) default).toNat) ∧
    ((l.getD p default).toNat < 128 → Utf8.decode ⟨l.toArray⟩ p = ((l.getD p default).toNat, 1)) ∧ (128 ≤ (l.getD p default).toNat → 128 ≤ (Utf8.decode ⟨l.toArray⟩ p).1) := by
  have hg : ∀ k, ((⟨l.toArray⟩ : ByteArray).get! (p + k)).toNat = (l.getD (p + k) default).toNat := by
    intro k
    simp only [ByteArray.get!]
    congr 1
    by_cases hk : p + k < l.length
    · rw [List.getD_eq_getElem?_getD, List.getElem?_eq_getElem hk]
      simp [getElem!_def, hk]
    · rw [List.getD_eq_getElem?_getD, List.getElem?_eq_none (by omega)]
      simp [getElem!_def, hk]
  have c0 : l.getD (p + 0) default = l.getD p default := rfl
  unfold Utf8.decode
  simp only [hg, size_mk, c0]
  have b0 := (l.getD p default).toNat_lt
  generalize (l.getD p default).toNat = a0 at b0
  split
  · rename_i h0; exact ⟨by simp, by simp; omega, by simp; intro j h1 h2; omega, by simp, by intro h; omega⟩
  rename_i h0
  split
  · rename_i h1
    simp only [Bool.and_eq_true, beq_iff_eq, decide_eq_true_eq] at h1
    split
    · rename_i h2
      refine ⟨by simp, by simp; omega, ?_, by intro h; omega, by intro _; exact h2⟩
      intro j j1 j2
      have : j = 1 := by simp at j2; omega
      subst this; omega
    · exact ⟨by simp, by simp; omega, by simp; intro j h1 h2; omega, by intro h; omega, by intro _; simp [Utf8.runeError]⟩
  split
  · rename_i h1
    simp only [Bool.and_eq_true, beq_iff_eq, decide_eq_true_eq] at h1
    split
    · rename_i h2
      simp only [Bool.and_eq_true, decide_eq_true_eq] at h2
      refine ⟨by simp, by simp; omega, ?_, by intro h; omega, by intro _; simp only; omega⟩
      intro j j1 j2
      have : j = 1 ∨ j = 2 := by simp at j2; omega
      rcases this with rfl | rfl <;> omega
    · exact ⟨by simp, by simp; omega, by simp; intro j h1 h2; omega, by intro h; omega, by intro _; simp [Utf8.runeError]⟩
  split
  · rename_i h1
    simp only [Bool.and_eq_true, beq_iff_eq, decide_eq_true_eq] at h1
    split
    · rename_i h2
      simp only [Bool.and_eq_true, decide_eq_true_eq] at h2
      refine ⟨by simp, by simp; omega, ?_, by intro h; omega, by intro _; simp only; omega⟩
      intro j j1 j2
      have : j = 1 ∨ j = 2 ∨ j = 3 := by simp at j2; omega
      rcases this with rfl | rfl | rfl <;> omega
    · exact ⟨by simp, by simp; omega, by simp; intro j h1 h2; omega, by intro h; omega, by intro _; simp [Utf8.runeError]⟩
  · exact ⟨by simp, by simp; omega, by simp; intro j h1 h2; omega, by intro h; omega, by intro _; simp [Utf8.runeError]⟩

def sp (q : Nat × Nat) : List AV := [.int .i64 q.1, .int .i64 q.2]

theorem blank_D (a : Int) (H : List AObj) (lo : Option Nat) : D X (.fn (.func fn_Pasm_parser_line_1_1) [] []) [.int .i32 a] ⟨H, lo⟩ = some (.ret (.bool (decide (a = 32 ∨ a = 9))) ⟨H, lo⟩) := by
  refine D_fn pf_Pasm_parser_line_1_1 rfl rfl rfl fun N hN => ?_
  simp (maxSteps := 2000000) (disch := omega) only [R4, F1, ↓Int.cast_ofNat_Int, ↓R1, R2, C1, P1, O1, V1, V2, V3, reduceCtorEq, Nat.reduceEqDiff, Nat.reduceBEq, Nat.reduceAdd, Nat.reduceSub, Nat.reduceMul, Nat.reduceLeDiff, Nat.reduceLT, Int.reduceEq, Int.reduceAdd, Int.reduceSub, Int.reduceMul, Int.reduceLT, Int.reduceLE, Int.reduceNeg, Int.reduceToNat, wrap_i64, wrap_u64, wrap_u8, wrap_u16, wrap_u32, wrap_i32, base_get0, base_get, base_set0, base_set, base_take, take_self, take_app1, pf_Pasm_parser_line_1_1]
  refine ⟨fun h => ret_eq (congrArg _ ?_) rfl, fun h => ret_eq (congrArg _ ?_) rfl⟩ <;> simp [h]

theorem xor_neg (n : Int) (h0 : 0 ≤ n) (h1 : n < 2^40) : unA .xor (.int .i64 n) = some (.int .i64 (-n - 1)) := by
  obtain ⟨m, rfl⟩ := Int.eq_ofNat_of_zero_le h0
  have e : (BitVec.ofInt 64 (-1) ^^^ BitVec.ofInt 64 (m : Int)).toNat = 2^64 - 1 - m := by
    have e1 : BitVec.ofInt 64 (-1) = BitVec.allOnes 64 := by decide
    have e2 : BitVec.ofInt 64 (m : Int) = BitVec.ofNat 64 m := BitVec.ofInt_natCast ..
    rw [e1, e2, BitVec.allOnes_xor, BitVec.toNat_not, BitVec.toNat_ofNat, Nat.mod_eq_of_lt (by omega)]
  have e3 : unA .xor (.int .i64 (m : Int)) = some (.int .i64 (IntKind.i64.wrap ((BitVec.ofInt 64 (-1) ^^^ BitVec.ofInt 64 (m : Int)).toNat))) := rfl
  rw [e3, e]
  congr 2
  unfold IntKind.wrap IntKind.bits IntKind.signed
  simp
  omega

theorem FieldsFunc_D (l : List UInt8) (hl : l.length < 2^30) (H : List AObj) (lo : Option Nat) : ∃ r, D X (.fn (.func fn_strings_FieldsFunc) [] []) [S l, .fn (.func fn_Pasm_parser_line_1_1) [] []] ⟨H, lo⟩ = some (.ret r ⟨H, lo⟩) ∧ Rv r 1 (ls (wd l [])) ∧ r.refs = 0 := by
  suffices h : ∃ cr, D X (.fn (.func fn_strings_FieldsFunc) [] []) [S l, .fn (.func fn_Pasm_parser_line_1_1) [] []] ⟨H, lo⟩ = some cr ∧ (fun cr => ∃ r, cr = CRes.ret r ⟨H, lo⟩ ∧ Rv r 1 (ls (wd l [])) ∧ r.refs = 0) cr by
    obtain ⟨cr, h1, r, rfl, h2⟩ := h
    exact ⟨r, h1, h2⟩
  refine D_fn_ex pf_strings_FieldsFunc rfl rfl rfl fun N hN => ?_
  have hmk : mksliceA ⟨H, none⟩ ty_strings_span [.int .i64 0, .int .i64 0] 16 (.int .i64 0) (.int .i64 32) = some (.ref N 0 2 0 0 false, ⟨H ++ [.row 0 2 ty_strings_span []], none⟩) := by
    simp only [mksliceA]
    rw [if_pos ⟨by decide, by decide, by decide, by decide⟩, hN]; rfl
  have hrg : rngA ⟨H ++ [.row 0 2 ty_strings_span []], none⟩ (S l) = some (.ptr (N + 1) 0, ⟨H ++ [.row 0 2 ty_strings_span [], .siter ⟨l.toArray⟩ 0], none⟩) := by
    simp only [rngA, S, AS.push]
    simp [hN]
  simp (maxSteps := 2000000) (disch := omega) only [condK_dec, F1, ↓Int.cast_ofNat_Int, ↓R1, R2, C1, P1, O1, V1, V2, V3, reduceCtorEq, Nat.reduceEqDiff, Nat.reduceBEq, Nat.reduceAdd, Nat.reduceSub, Nat.reduceMul, Nat.reduceLeDiff, Nat.reduceLT, Int.reduceEq, Int.reduceAdd, Int.reduceSub, Int.reduceMul, Int.reduceLT, Int.reduceLE, Int.reduceNeg, Int.reduceToNat, wrap_i64, wrap_u64, wrap_u8, wrap_u16, wrap_u32, wrap_i32, base_get0, base_get, base_set0, base_set, base_take, take_self, take_app1, pf_strings_FieldsFunc, hmk, hrg]
  refine wp_loopM (S := Nat) (fun p e H' => p ≤ l.length ∧ H <+: H' ∧ H'[N + 1]? = some (.siter ⟨l.toArray⟩ p) ∧ e 0 = S l ∧ e 1 = .fn (.func fn_Pasm_parser_line_1_1) [] [] ∧ e 14 = .ptr (N + 1) 0 ∧
    ∃ spans st n, Own N H' (e 5) 2 ty_strings_span (spans.map sp) ∧ e 6 = .int .i64 n ∧ ((n < 0 ∧ st = none) ∨ (0 ≤ n ∧ n < p ∧ st = some n.toNat)) ∧ spans.length ≤ p ∧ fld l 0 none = spans ++ fld (l.drop p) p st) (fun p => l.length - p) 0 ?_ ?_
  · simp (maxSteps := 2000000) (disch := omega) only [F1, ↓Int.cast_ofNat_Int, ↓R1, R2, C1, P1, O1, V1, V2, V3, reduceCtorEq, Nat.reduceEqDiff, Nat.reduceBEq, Nat.reduceAdd, Nat.reduceSub, Nat.reduceMul, Nat.reduceLeDiff, Nat.reduceLT, Int.reduceEq, Int.reduceAdd, Int.reduceSub, Int.reduceMul, Int.reduceLT, Int.reduceLE, Int.reduceNeg, Int.reduceToNat, wrap_i64, wrap_u64, wrap_u8, wrap_u16, wrap_u32, wrap_i32, base_get0, base_get, base_set0, base_set, base_take, take_self, take_app1]
    exact ⟨List.prefix_append _ _, [], none, -1, ⟨by simp, .inr ⟨N, 0, Nat.le_refl _, rfl, by rw [base_get0 hN]; rfl⟩⟩, rfl, .inl ⟨by decide, rfl⟩, Nat.le_refl _, rfl⟩
  rintro p e H' ⟨hp, hpre, hit, h0, h1, h14, spans, st, n, how, h6, hst, hsl, hfl⟩ n' hn'
  by_cases hlt : p < l.length
  · obtain ⟨d1, d2, d3, d4, d5⟩ := decode_cont l p hlt
    have hdr : l.drop p = l.getD p default :: l.drop (p + 1) := by
      rw [List.getD_eq_getElem?_getD, List.getElem?_eq_getElem hlt]; exact List.drop_eq_getElem_cons hlt
    obtain ⟨rn, w, hrw⟩ : ∃ rn w, Utf8.decode ⟨l.toArray⟩ p = (rn, w) := ⟨_, _, rfl⟩
    rw [hrw] at d1 d2 d3 d4 d5
    simp only at d1 d2 d3 d4 d5
    have hnx : nxtA ⟨H', none⟩ (.ptr (N + 1) 0) = some (.tup [.bool true, .int .i64 p, .int .i32 rn], ⟨H'.set (N + 1) (.siter ⟨l.toArray⟩ (p + w)), none⟩) := by
      simp only [nxtA, hit, size_mk, if_pos hlt, hrw]
      simp [AS.set]
    have hlen : N + 1 < H'.length := (List.getElem?_eq_some_iff.1 hit).1
    obtain ⟨H1, hH1⟩ : ∃ H1, H'.set (N + 1) (.siter ⟨l.toArray⟩ (p + w)) = H1 := ⟨_, rfl⟩
    have hit1 : H1[N + 1]? = some (.siter ⟨l.toArray⟩ (p + w)) := by rw [← hH1]; simp [hlen]
    have hpre1 : H <+: H1 := by rw [← hH1]; exact prefix_set hpre (by omega)
    have how1 : Own N H1 (e 5) 2 ty_strings_span (spans.map sp) := by
      obtain ⟨q1, q2⟩ := how
      refine ⟨q1, ?_⟩
      rcases q2 with q2 | ⟨id, ver, e1, e2, e3⟩
      · exact .inl q2
      · refine .inr ⟨id, ver, e1, e2, ?_⟩
        have : N + 1 ≠ id := by rintro rfl; rw [hit] at e3; cases e3
        rw [← hH1, List.getElem?_set_ne this]; exact e3
    rw [hH1] at hnx
    have hblk : ∀ H lo, D X (.fn (.func fn_Pasm_parser_line_1_1) [] []) [.int .i32 rn] ⟨H, lo⟩ = some (.ret (.bool (bl (l.getD p default))) ⟨H, lo⟩) := by
      intro H lo
      rw [blank_D]
      congr 3
      simp only [bl]
      rw [Bool.eq_iff_iff]
      simp only [decide_eq_true_eq, Bool.or_eq_true]
      by_cases hs : (l.getD p default).toNat < 128
      · have := d4 hs; cases this; omega
      · have := d5 (by omega); omega
    have hw1 : bl (l.getD p default) = true → w = 1 := by
      intro hb
      simp only [bl, Bool.or_eq_true, decide_eq_true_eq] at hb
      have := d4 (by omega); cases this; rfl
    have hskip : ∀ b, bl (l.getD p default) = false → fld (l.drop p) p (some b) = fld (l.drop (p + w)) (p + w) (some b) := by
      intro b hb
      rw [fld_skip (l.drop p) p w b (by rw [List.length_drop]; omega) ?_, List.drop_drop]
      intro j hj
      by_cases hj0 : j = 0
      · subst hj0
        have : (List.drop p l).getD 0 default = l.getD p default := by simp [List.getD_eq_getElem?_getD]
        rw [this]; exact hb
      · have : (List.drop p l).getD j default = l.getD (p + j) default := by simp [List.getD_eq_getElem?_getD]
        rw [this]
        have := d3 j (by omega) hj
        simp only [bl, Bool.or_eq_false_iff, decide_eq_false_iff_not]; omega
    simp (maxSteps := 2000000) (disch := omega) only [condK_dec, F1, ↓Int.cast_ofNat_Int, ↓R1, R2, C1, P1, O1, V1, V2, V3, reduceCtorEq, Nat.reduceEqDiff, Nat.reduceBEq, Nat.reduceAdd, Nat.reduceSub, Nat.reduceMul, Nat.reduceLeDiff, Nat.reduceLT, Int.reduceEq, Int.reduceAdd, Int.reduceSub, Int.reduceMul, Int.reduceLT, Int.reduceLE, Int.reduceNeg, Int.reduceToNat, wrap_i64, wrap_u64, wrap_u8, wrap_u16, wrap_u32, wrap_i32, base_get0, base_get, base_set0, base_set, base_take, take_self, take_app1, l1_strings_FieldsFunc, h0, h1, h14, hnx, hblk]
    rw [condK_any]
    refine ⟨fun hb => ?_, fun hb => ?_⟩
    · have hwe := hw1 hb
      subst hwe
      rcases hst with ⟨hn, rfl⟩ | ⟨hn, hnp, rfl⟩
      · have hn' : ¬ 0 ≤ n := by omega
        simp (maxSteps := 2000000) (disch := omega) only [condK_dec, F1, ↓Int.cast_ofNat_Int, ↓R1, R2, C1, P1, O1, V1, V2, V3, reduceCtorEq, Nat.reduceEqDiff, Nat.reduceBEq, Nat.reduceAdd, Nat.reduceSub, Nat.reduceMul, Nat.reduceLeDiff, Nat.reduceLT, Int.reduceEq, Int.reduceAdd, Int.reduceSub, Int.reduceMul, Int.reduceLT, Int.reduceLE, Int.reduceNeg, Int.reduceToNat, wrap_i64, wrap_u64, wrap_u8, wrap_u16, wrap_u32, wrap_i32, base_get0, base_get, base_set0, base_set, base_take, take_self, take_app1, h0, h1, h6, h14, forM_normal, forM_exit, forM_ret, hn']
        refine ⟨p + 1, by omega, by omega, hpre1, hit1, spans, none, n, how1, rfl, .inl ⟨hn, rfl⟩, by omega, ?_⟩
        rw [hfl, hdr]
        simp only [fld, hb, if_true]
      · simp (maxSteps := 2000000) (disch := omega) only [condK_dec, F1, ↓Int.cast_ofNat_Int, ↓R1, R2, C1, P1, O1, V1, V2, V3, reduceCtorEq, Nat.reduceEqDiff, Nat.reduceBEq, Nat.reduceAdd, Nat.reduceSub, Nat.reduceMul, Nat.reduceLeDiff, Nat.reduceLT, Int.reduceEq, Int.reduceAdd, Int.reduceSub, Int.reduceMul, Int.reduceLT, Int.reduceLE, Int.reduceNeg, Int.reduceToNat, wrap_i64, wrap_u64, wrap_u8, wrap_u16, wrap_u32, wrap_i32, base_get0, base_get, base_set0, base_set, base_take, take_self, take_app1, h0, h1, h6, h14, forM_normal, forM_exit, forM_ret, hn]
        refine okP_append3 how1 hpre1 hN (by decide) (by simp) rfl (by simp [room]; omega) fun v' H2 o2 p2 l2 f2 => ?_
        simp (maxSteps := 2000000) (disch := omega) only [condK_dec, F1, ↓Int.cast_ofNat_Int, ↓R1, R2, C1, P1, O1, V1, V2, V3, reduceCtorEq, Nat.reduceEqDiff, Nat.reduceBEq, Nat.reduceAdd, Nat.reduceSub, Nat.reduceMul, Nat.reduceLeDiff, Nat.reduceLT, Int.reduceEq, Int.reduceAdd, Int.reduceSub, Int.reduceMul, Int.reduceLT, Int.reduceLE, Int.reduceNeg, Int.reduceToNat, wrap_i64, wrap_u64, wrap_u8, wrap_u16, wrap_u32, wrap_i32, base_get0, base_get, base_set0, base_set, base_take, take_self, take_app1, h0, h1, h6, h14, forM_normal, forM_exit, forM_ret, xor_neg]
        refine ⟨p + 1, by omega, by omega, p2, f2 _ _ (by simp) hit1, spans ++ [(n.toNat, p)], none, -n - 1, ?_, rfl, .inl ⟨by omega, rfl⟩, by simp; omega, ?_⟩
        · rw [List.map_append]
          have e : List.map sp [(n.toNat, p)] = [[AV.int .i64 n, AV.int .i64 p]] := by simp [sp]; omega
          rw [e]; exact o2
        · rw [hfl, hdr]
          simp only [fld, hb, if_true, List.append_assoc, List.cons_append, List.nil_append]
    · rcases hst with ⟨hn, rfl⟩ | ⟨hn, hnp, rfl⟩
      · simp (maxSteps := 2000000) (disch := omega) only [condK_dec, F1, ↓Int.cast_ofNat_Int, ↓R1, R2, C1, P1, O1, V1, V2, V3, reduceCtorEq, Nat.reduceEqDiff, Nat.reduceBEq, Nat.reduceAdd, Nat.reduceSub, Nat.reduceMul, Nat.reduceLeDiff, Nat.reduceLT, Int.reduceEq, Int.reduceAdd, Int.reduceSub, Int.reduceMul, Int.reduceLT, Int.reduceLE, Int.reduceNeg, Int.reduceToNat, wrap_i64, wrap_u64, wrap_u8, wrap_u16, wrap_u32, wrap_i32, base_get0, base_get, base_set0, base_set, base_take, take_self, take_app1, h0, h1, h6, h14, forM_normal, forM_exit, forM_ret, hn]
        refine ⟨p + w, by omega, by omega, hpre1, hit1, spans, some p, p, how1, rfl, .inr ⟨by omega, by omega, by simp⟩, by omega, ?_⟩
        rw [hfl]
        have : fld (l.drop p) p none = fld (l.drop p) p (some p) := by
          rw [hdr]; simp only [fld, hb]; rfl
        rw [this, hskip p hb]
      · have hn' : ¬ n < 0 := by omega
        simp (maxSteps := 2000000) (disch := omega) only [condK_dec, F1, ↓Int.cast_ofNat_Int, ↓R1, R2, C1, P1, O1, V1, V2, V3, reduceCtorEq, Nat.reduceEqDiff, Nat.reduceBEq, Nat.reduceAdd, Nat.reduceSub, Nat.reduceMul, Nat.reduceLeDiff, Nat.reduceLT, Int.reduceEq, Int.reduceAdd, Int.reduceSub, Int.reduceMul, Int.reduceLT, Int.reduceLE, Int.reduceNeg, Int.reduceToNat, wrap_i64, wrap_u64, wrap_u8, wrap_u16, wrap_u32, wrap_i32, base_get0, base_get, base_set0, base_set, base_take, take_self, take_app1, h0, h1, h6, h14, forM_normal, forM_exit, forM_ret, hn']
        refine ⟨p + w, by omega, by omega, hpre1, hit1, spans, some n.toNat, n, how1, rfl, .inr ⟨hn, by omega, rfl⟩, by omega, ?_⟩
        rw [hfl, hskip _ hb]
  · have hpe : p = l.length := by omega
    subst hpe
    have hnx : nxtA ⟨H', none⟩ (.ptr (N + 1) 0) = some (.tup [.bool false], ⟨H', none⟩) := by
      simp only [nxtA, hit, size_mk]
      rw [if_neg hlt]
    rw [List.drop_length] at hfl
    simp (maxSteps := 2000000) (disch := omega) only [F1, ↓Int.cast_ofNat_Int, ↓R1, R2, C1, P1, O1, V1, V2, V3, reduceCtorEq, Nat.reduceEqDiff, Nat.reduceBEq, Nat.reduceAdd, Nat.reduceSub, Nat.reduceMul, Nat.reduceLeDiff, Nat.reduceLT, Int.reduceEq, Int.reduceAdd, Int.reduceSub, Int.reduceMul, Int.reduceLT, Int.reduceLE, Int.reduceNeg, Int.reduceToNat, wrap_i64, wrap_u64, wrap_u8, wrap_u16, wrap_u32, wrap_i32, base_get0, base_get, base_set0, base_set, base_take, take_self, take_app1, l1_strings_FieldsFunc, h0, h1, h14, h6, hnx, forM_normal, forM_exit, forM_ret]
    refine condK_mid (fun e H2 lo2 => lo2 = none ∧ e 0 = S l ∧ H <+: H2 ∧ Own N H2 (e 5) 2 ty_strings_span ((fld l 0 none).map sp) ∧ (fld l 0 none).length ≤ l.length + 1) ?_ ?_
    · simp (maxSteps := 2000000) (disch := omega) only [condK_dec, F1, ↓Int.cast_ofNat_Int, ↓R1, R2, C1, P1, O1, V1, V2, V3, reduceCtorEq, Nat.reduceEqDiff, Nat.reduceBEq, Nat.reduceAdd, Nat.reduceSub, Nat.reduceMul, Nat.reduceLeDiff, Nat.reduceLT, Int.reduceEq, Int.reduceAdd, Int.reduceSub, Int.reduceMul, Int.reduceLT, Int.reduceLE, Int.reduceNeg, Int.reduceToNat, wrap_i64, wrap_u64, wrap_u8, wrap_u16, wrap_u32, wrap_i32, base_get0, base_get, base_set0, base_set, base_take, take_self, take_app1, h0, h6, midK_normal, midK_exit, midK_ret]
      rcases hst with ⟨hn, rfl⟩ | ⟨hn, hnp, rfl⟩
      · refine ⟨fun h => absurd h (by omega), fun _ => ⟨hpre, ?_, ?_⟩⟩
        · rw [hfl]; simp only [fld, List.append_nil]; exact how
        · rw [hfl]; simp only [fld, List.append_nil]; omega
      · refine ⟨fun _ => ?_, fun h => absurd hn h⟩
        refine okP_append3 how hpre hN (by decide) (by simp) rfl (by simp [room]; omega) fun v' H2 o2 p2 l2 f2 => ?_
        simp (maxSteps := 2000000) (disch := omega) only [condK_dec, F1, ↓Int.cast_ofNat_Int, ↓R1, R2, C1, P1, O1, V1, V2, V3, reduceCtorEq, Nat.reduceEqDiff, Nat.reduceBEq, Nat.reduceAdd, Nat.reduceSub, Nat.reduceMul, Nat.reduceLeDiff, Nat.reduceLT, Int.reduceEq, Int.reduceAdd, Int.reduceSub, Int.reduceMul, Int.reduceLT, Int.reduceLE, Int.reduceNeg, Int.reduceToNat, wrap_i64, wrap_u64, wrap_u8, wrap_u16, wrap_u32, wrap_i32, base_get0, base_get, base_set0, base_set, base_take, take_self, take_app1, h0, h6, midK_normal, midK_exit, midK_ret]
        refine ⟨p2, ?_, ?_⟩
        · rw [hfl, fld, List.map_append]
          have e : List.map sp [(n.toNat, l.length)] = [[AV.int .i64 n, AV.int .i64 l.length]] := by simp [sp]; omega
          rw [e]; exact o2
        · rw [hfl, fld]; simp; omega
    · clear how hfl hsl hst hit hnx hpre h0 h1 h14 h6 hn'
      rintro e2 H2 lo2 ⟨rfl, h0, hpre, how, hlen⟩
      obtain ⟨qs, hqs⟩ : ∃ qs, fld l 0 none = qs := ⟨_, rfl⟩
      rw [hqs] at how hlen
      have hrd : Rd ⟨H2, none⟩ (e2 5) 2 (qs.map sp) := how.rd
      have hln := hrd.lenM
      have hbd : ∀ q ∈ qs, q.1 ≤ q.2 ∧ q.2 ≤ l.length := by
        intro q hq
        rw [← hqs] at hq
        have := fld_bound l 0 none (by simp) q hq
        omega
      have hwd : qs.map (sliceOf l) = wd l [] := by
        rw [← hqs]; exact fld_wd l l 0 none rfl (by omega) (by simp)
      obtain ⟨m, hm⟩ : ∃ m, qs.length = m := ⟨_, rfl⟩
      obtain ⟨M, hM⟩ : ∃ M, H2.length = M := ⟨_, rfl⟩
      obtain ⟨v5, hv5⟩ : ∃ v, e2 5 = v := ⟨_, rfl⟩
      rw [hv5] at hrd hln
      rw [hm] at hlen hln
      have hNM : N ≤ M := by rw [← hN, ← hM]; exact hpre.length_le
      have hmk2 : mksliceA ⟨H2, none⟩ ty_string [S []] 16 (.int .i64 m) (.int .i64 m) = some (.ref M 0 1 0 m false, ⟨H2 ++ [.row 0 1 ty_string (List.replicate m [S []])], none⟩) := by
        simp only [mksliceA]
        rw [if_pos ⟨by omega, by omega, by unfold room; omega, by unfold room; omega⟩, hM, Int.toNat_natCast]; rfl
      have hlnx : ∀ L, lenA ⟨H2 ++ L, none⟩ .sl v5 = some (.int .i64 m) := fun L => by
        have := (hrd.ext (L := L) (lo' := none)).lenM; rwa [hm] at this
      simp (maxSteps := 2000000) (disch := omega) only [F1, ↓Int.cast_ofNat_Int, ↓R1, R2, C1, P1, O1, V1, V2, V3, reduceCtorEq, Nat.reduceEqDiff, Nat.reduceBEq, Nat.reduceAdd, Nat.reduceSub, Nat.reduceMul, Nat.reduceLeDiff, Nat.reduceLT, Int.reduceEq, Int.reduceAdd, Int.reduceSub, Int.reduceMul, Int.reduceLT, Int.reduceLE, Int.reduceNeg, Int.reduceToNat, wrap_i64, wrap_u64, wrap_u8, wrap_u16, wrap_u32, wrap_i32, base_get0, base_get, base_set0, base_set, base_take, take_self, take_app1, h0, hv5, hln, hmk2, hlnx]
      refine wp_loopN m (fun k e H'' => e 0 = S l ∧ e 9 = .ref M 0 1 0 m false ∧ e 47 = v5 ∧ e 48 = .int .i64 m ∧ e 49 = .int .i64 k ∧
        ∃ L, H'' = H2 ++ (.row 0 1 ty_string (ls ((wd l []).take k) ++ List.replicate (m - k) [S []]) :: L)) 0 (by omega) ?_ ?_
      · simp (maxSteps := 2000000) (disch := omega) only [F1, ↓Int.cast_ofNat_Int, ↓R1, R2, C1, P1, O1, V1, V2, V3, reduceCtorEq, Nat.reduceEqDiff, Nat.reduceBEq, Nat.reduceAdd, Nat.reduceSub, Nat.reduceMul, Nat.reduceLeDiff, Nat.reduceLT, Int.reduceEq, Int.reduceAdd, Int.reduceSub, Int.reduceMul, Int.reduceLT, Int.reduceLE, Int.reduceNeg, Int.reduceToNat, wrap_i64, wrap_u64, wrap_u8, wrap_u16, wrap_u32, wrap_i32, base_get0, base_get, base_set0, base_set, base_take, take_self, take_app1, h0]
        exact ⟨[], by simp [ls]⟩
      rintro k hk e H'' ⟨h0, h9, h47, h48, h49, L, rfl⟩ n2 hn2
      have hwl : (wd l []).length = m := by rw [← hwd, List.length_map, hm]
      by_cases hlt2 : k < m
      · have hlt2' : (k : Int) < m := by omega
        have hkq : k < qs.length := by omega
        obtain ⟨q, hq⟩ : ∃ q, qs.getD k default = q := ⟨_, rfl⟩
        have hqb := hbd q (hq ▸ getD_mem hkq)
        have hwq : (wd l []).getD k default = sliceOf l q := by
          rw [← hwd, List.getD_eq_getElem?_getD, List.getElem?_map, List.getElem?_eq_getElem hkq, ← hq, List.getD_eq_getElem?_getD, List.getElem?_eq_getElem hkq]; rfl
        have hr2 := hrd.ext (L := AObj.row 0 1 ty_string (ls ((wd l []).take k) ++ List.replicate (m - k) [S []]) :: L) (lo' := none)
        have hadr : iaddrsA 2 v5 (.int .i64 k) = some (elA v5 k 0) := by
          rw [hr2.addrM, if_pos (by omega), Int.toNat_natCast]
        have hld : loadA X ⟨H2 ++ (AObj.row 0 1 ty_string (ls ((wd l []).take k) ++ List.replicate (m - k) [S []]) :: L), none⟩ true 2 (elA v5 k 0) = some (.agg [.int .i64 q.1, .int .i64 q.2]) := by
          rw [hr2.loadM hkq, hq]; rfl
        have hrow : ∀ L, (H2 ++ (AObj.row 0 1 ty_string (ls ((wd l []).take k) ++ List.replicate (m - k) [S []]) :: L))[M]? = some (.row 0 1 ty_string (ls ((wd l []).take k) ++ List.replicate (m - k) [S []])) := fun L => by rw [base_get0 hM]; rfl
        have hz : ∀ el ∈ ls ((wd l []).take k) ++ List.replicate (m - k) [S []], el.length = 1 := by
          intro el hel
          rcases List.mem_append.1 hel with h | h
          · simp only [ls, List.mem_map] at h; obtain ⟨x, _, rfl⟩ := h; rfl
          · rw [(List.mem_replicate.1 h).2]; rfl
        have hel : (ls ((wd l []).take k) ++ List.replicate (m - k) [S []]).length = m := by simp [ls, hwl]; omega
        have hset : (ls ((wd l []).take k) ++ List.replicate (m - k) [S []]).set k [S (sliceOf l q)] = ls ((wd l []).take (k + 1)) ++ List.replicate (m - (k + 1)) [S []] := by
          have e1 : m - k = (m - (k + 1)) + 1 := by omega
          rw [e1, List.replicate_succ, List.set_append_right _ _ (by simp [ls, hwl]; omega), take_succ_getD (by omega), hwq]
          have e2 : k - (ls ((wd l []).take k)).length = 0 := by simp [ls, hwl]; omega
          rw [e2]
          simp [ls]
        have hst : ∀ L, storeA ⟨H2 ++ (AObj.row 0 1 ty_string (ls ((wd l []).take k) ++ List.replicate (m - k) [S []]) :: L), none⟩ 1 (.rptr M 0 k 0) (S (sliceOf l q)) = some ⟨H2 ++ (.row 0 1 ty_string (ls ((wd l []).take (k + 1)) ++ List.replicate (m - (k + 1)) [S []]) :: L), none⟩ := by
          intro L
          rw [store_row (hrow L) (by omega) hz, hset, base_set0 hM]; rfl
        have hadr2 : iaddrsA 1 (.ref M 0 1 0 m false) (.int .i64 k) = some (.rptr M 0 k 0) := by
          simp only [iaddrsA, intOf?]
          rw [if_pos ⟨by omega, by omega, trivial⟩, Int.toNat_natCast, Nat.zero_add]
        have hsl : List.drop q.1 (List.take q.2 l) = sliceOf l q := rfl
        obtain ⟨n3, hn3⟩ : ∃ n, (H2 ++ (AObj.row 0 1 ty_string (ls ((wd l []).take k) ++ List.replicate (m - k) [S []]) :: L)).length = n := ⟨_, rfl⟩
        obtain ⟨H3, hH3⟩ : ∃ H3, H2 ++ (AObj.row 0 1 ty_string (ls ((wd l []).take k) ++ List.replicate (m - k) [S []]) :: L) = H3 := ⟨_, rfl⟩
        rw [hH3] at hld hn3 ⊢
        have hst3 : storeA ⟨H3 ++ [AObj.box [.int .i64 q.1, .int .i64 q.2] none], none⟩ 1 (.rptr M 0 k 0) (S (sliceOf l q)) = some ⟨H2 ++ (.row 0 1 ty_string (ls ((wd l []).take (k + 1)) ++ List.replicate (m - (k + 1)) [S []]) :: (L ++ [AObj.box [.int .i64 q.1, .int .i64 q.2] none])), none⟩ := by
          rw [← hH3, List.append_assoc]; exact hst _
        simp (maxSteps := 2000000) (disch := omega) only [F1, ↓Int.cast_ofNat_Int, ↓R1, R2, C1, P1, O1, V1, V2, V3, reduceCtorEq, Nat.reduceEqDiff, Nat.reduceBEq, Nat.reduceAdd, Nat.reduceSub, Nat.reduceMul, Nat.reduceLeDiff, Nat.reduceLT, Int.reduceEq, Int.reduceAdd, Int.reduceSub, Int.reduceMul, Int.reduceLT, Int.reduceLE, Int.reduceNeg, Int.reduceToNat, wrap_i64, wrap_u64, wrap_u8, wrap_u16, wrap_u32, wrap_i32, base_get0, base_get, base_set0, base_set, base_take, take_self, take_app1, l2_strings_FieldsFunc, h0, h9, h47, h48, h49, hlt2', hadr, hld, hn3, hadr2, hsl, hst3]
        exact ⟨by omega, hlt2, _, rfl⟩
      · have hkm : k = m := by omega
        subst hkm
        have hnl : ¬ (k : Int) < k := by omega
        have htk : (wd l []).take k = wd l [] := List.take_of_length_le (by omega)
        rw [htk, Nat.sub_self, List.replicate_zero, List.append_nil]
        have how2 : Own N (H2 ++ (AObj.row 0 1 ty_string (ls (wd l [])) :: L)) (.ref M 0 1 0 k false) 1 ty_string (ls (wd l [])) := by
          refine ⟨?_, .inr ⟨M, 0, hNM, ?_, by rw [base_get0 hM]; rfl⟩⟩
          · intro el hel; simp only [ls, List.mem_map] at hel; obtain ⟨x, _, rfl⟩ := hel; rfl
          · simp [ls, hwl]
        have hr0 : refsLL (ls (wd l [])) ≤ N := by
          have : refsLL (ls (wd l [])) = 0 := refsLL_map (fun x => by simp [refsL, refs_S]) _
          rw [this]; exact Nat.zero_le _
        simp (maxSteps := 2000000) (disch := omega) only [↓Int.cast_ofNat_Int, ↓R1, R2, C1, P1, O1, V1, V2, V3, reduceCtorEq, Nat.reduceEqDiff, Nat.reduceBEq, Nat.reduceAdd, Nat.reduceSub, Nat.reduceMul, Nat.reduceLeDiff, Nat.reduceLT, Int.reduceEq, Int.reduceAdd, Int.reduceSub, Int.reduceMul, Int.reduceLT, Int.reduceLE, Int.reduceNeg, Int.reduceToNat, wrap_i64, wrap_u64, wrap_u8, wrap_u16, wrap_u32, wrap_i32, base_get0, base_get, base_set0, base_set, base_take, take_self, take_app1, l2_strings_FieldsFunc, h0, h9, h47, h48, h49, hnl, how2.finish1 hr0]
        exact ⟨_, ret_eq rfl (take_pre hN (hpre.trans (List.prefix_append _ _))), how2.frz_rv, by show refsLL (ls (wd l [])) = 0; exact refsLL_map (fun x => by simp [refsL, refs_S]) _⟩

theorem line1_D (l : List UInt8) (hl : l.length < 2^30) (H : List AObj) (lo : Option Nat) : ∃ r, D X (.fn (.func fn_Pasm_parser_line_1) [] []) [S l] ⟨H, lo⟩ = some (.ret r ⟨H, lo⟩) ∧ Rv r 1 (ls (wd l [])) ∧ r.refs = 0 := by
  obtain ⟨r, h1, h2, h3⟩ := FieldsFunc_D l hl H none
  refine ⟨r, ?_, h2, h3⟩
  refine D_fn pf_Pasm_parser_line_1 rfl rfl rfl fun N hN => ?_
  have h4 : r.refs ≤ N := by omega
  simp (maxSteps := 2000000) (disch := omega) only [F1, ↓Int.cast_ofNat_Int, ↓R1, R2, C1, P1, O1, V1, V2, V3, reduceCtorEq, Nat.reduceEqDiff, Nat.reduceBEq, Nat.reduceAdd, Nat.reduceSub, Nat.reduceMul, Nat.reduceLeDiff, Nat.reduceLT, Int.reduceEq, Int.reduceAdd, Int.reduceSub, Int.reduceMul, Int.reduceLT, Int.reduceLE, Int.reduceNeg, Int.reduceToNat, wrap_i64, wrap_u64, wrap_u8, wrap_u16, wrap_u32, wrap_i32, base_get0, base_get, base_set0, base_set, base_take, take_self, take_app1, pf_Pasm_parser_line_1, h1, h4, take_self hN]

end Go.Proofs.YtoolhdikfdjikaaDoor

/- The parser: its state, an instruction, a line. -/
namespace Go.Proofs.YtoolhdikfdjikaaDoor
open Go Go.Den
set_option maxRecDepth 10000

theorem IndexS_D (v : AV) (L : List (List UInt8)) (x : List UInt8) (hv : Rv v 1 (ls L)) (hl : L.length < 2^40) (H : List AObj) (lo : Option Nat) : D X (.fn (.func fn_slices_Index_string_string) [] []) [v, S x] ⟨H, lo⟩ = some (.ret (.int .i64 (idxI (fun y => decide (x = y)) L)) ⟨H, lo⟩) := by
  refine D_fn pf_slices_Index_string_string rfl rfl rfl fun N hN => ?_
  have hv' : Rv v 1 (L.map fun x => [S x]) := hv
  simp (maxSteps := 2000000) (disch := omega) only [F1, ↓Int.cast_ofNat_Int, ↓R1, R2, C1, P1, O1, V1, V2, V3, reduceCtorEq, Nat.reduceEqDiff, Nat.reduceBEq, Nat.reduceAdd, Nat.reduceSub, Nat.reduceMul, Nat.reduceLeDiff, Nat.reduceLT, Int.reduceEq, Int.reduceAdd, Int.reduceSub, Int.reduceMul, Int.reduceLT, Int.reduceLE, Int.reduceNeg, Int.reduceToNat, wrap_i64, wrap_u64, wrap_u8, wrap_u16, wrap_u32, wrap_i32, base_get0, base_get, base_set0, base_set, base_take, take_self, take_app1, pf_slices_Index_string_string, hv'.lenM]
  refine wp_loopN L.length (fun k e H' => H' = H ∧ e 0 = v ∧ e 1 = S x ∧ e 7 = .int .i64 L.length ∧ e 8 = .int .i64 k ∧ ∀ j, j < k → decide (x = L.getD j default) = false) 0 (by omega) ?_ ?_
  · simp (maxSteps := 2000000) (disch := omega) only [F1, ↓Int.cast_ofNat_Int, ↓R1, R2, C1, P1, O1, V1, V2, V3, reduceCtorEq, Nat.reduceEqDiff, Nat.reduceBEq, Nat.reduceAdd, Nat.reduceSub, Nat.reduceMul, Nat.reduceLeDiff, Nat.reduceLT, Int.reduceEq, Int.reduceAdd, Int.reduceSub, Int.reduceMul, Int.reduceLT, Int.reduceLE, Int.reduceNeg, Int.reduceToNat, wrap_i64, wrap_u64, wrap_u8, wrap_u16, wrap_u32, wrap_i32, base_get0, base_get, base_set0, base_set, base_take, take_self, take_app1]
    exact fun j hj => absurd hj (Nat.not_lt_zero j)
  · rintro k hk e H' ⟨rfl, h0, h1, h7, h8, hi⟩ n hn
    simp (maxSteps := 2000000) (disch := omega) only [condK_dec, F1, ↓Int.cast_ofNat_Int, ↓R1, R2, C1, P1, O1, V1, V2, V3, reduceCtorEq, Nat.reduceEqDiff, Nat.reduceBEq, Nat.reduceAdd, Nat.reduceSub, Nat.reduceMul, Nat.reduceLeDiff, Nat.reduceLT, Int.reduceEq, Int.reduceAdd, Int.reduceSub, Int.reduceMul, Int.reduceLT, Int.reduceLE, Int.reduceNeg, Int.reduceToNat, wrap_i64, wrap_u64, wrap_u8, wrap_u16, wrap_u32, wrap_i32, base_get0, base_get, base_set0, base_set, base_take, take_self, take_app1, l1_slices_Index_string_string, h0, h1, h7, h8]
    refine ⟨fun h => ?_, fun h => ?_⟩
    · have hk' : k < L.length := by omega
      simp (maxSteps := 2000000) (disch := omega) only [condK_dec, F1, ↓Int.cast_ofNat_Int, ↓R1, R2, C1, P1, O1, V1, V2, V3, reduceCtorEq, Nat.reduceEqDiff, Nat.reduceBEq, Nat.reduceAdd, Nat.reduceSub, Nat.reduceMul, Nat.reduceLeDiff, Nat.reduceLT, Int.reduceEq, Int.reduceAdd, Int.reduceSub, Int.reduceMul, Int.reduceLT, Int.reduceLE, Int.reduceNeg, Int.reduceToNat, wrap_i64, wrap_u64, wrap_u8, wrap_u16, wrap_u32, wrap_i32, base_get0, base_get, base_set0, base_set, base_take, take_self, take_app1, hv'.addrM, hv'.loadM, h0, h1, h7, h8]
      refine ⟨h, fun he => ?_, fun he => ?_⟩
      · rw [idxI_at hk' hi (by simpa using he)]
      · exact ⟨hk', all_succ hi (by simpa using he)⟩
    · rw [idxI_no (fun j hj => hi j (by omega))]

/-- What a parser holds. -/
structure PS where
  prog : List Instr
  labels : List (List UInt8 × Nat)
  uses : List (List UInt8 × Nat × Nat)

def U3 (u : List UInt8 × Nat × Nat) : List AV := [S u.1, .int .i64 u.2.1, .int .i64 u.2.2]

def regS (s : List UInt8) : Option Nat := if s.length = 2 ∧ s.getD 0 0 = 114 ∧ 48 ≤ (s.getD 1 0).toNat ∧ (s.getD 1 0).toNat < 56 then some ((s.getD 1 0).toNat - 48) else none

/-- An instruction out of words. -/
def instrS (ws : List (List UInt8)) (line : Nat) (st : PS) : Bool × PS :=
  if ws.length ≠ 5 then (false, st) else
  match regS (ws.getD 1 []), regS (ws.getD 2 []), regS (ws.getD 3 []) with
  | some a, some b, some c =>
    if idxI (fun y => decide (ws.getD 0 [] = y)) wordsL < 0 then (false, st) else
    if goes (idxI (fun y => decide (ws.getD 0 [] = y)) wordsL).toNat then
      (labS (ws.getD 4 []), { st with prog := st.prog ++ [⟨(idxI (fun y => decide (ws.getD 0 [] = y)) wordsL).toNat, a, b, c, 0⟩], uses := st.uses ++ [(ws.getD 4 [], line, st.prog.length)] })
    else ((numS (ws.getD 4 [])).isSome, { st with prog := st.prog ++ [⟨(idxI (fun y => decide (ws.getD 0 [] = y)) wordsL).toNat, a, b, c, numV (ws.getD 4 [])⟩] })
  | _, _, _ => (false, st)

def lookupS (name : List UInt8) : List (List UInt8 × Nat) → Option Nat
  | [] => none
  | (n, k) :: r => if n = name then some k else lookupS name r

/-- A line. -/
def lineP (s : List UInt8) (line : Nat) (st : PS) : Bool × PS :=
  if (cutS 58 (cutS 59 s).1).2.2 then
    let w := wd (cutS 58 (cutS 59 s).1).1 []
    if w.length ≠ 1 ∨ labS (w.getD 0 []) = false then (false, st) else
    if (lookupS (w.getD 0 []) st.labels).isSome then (false, st) else
    if wd (cutS 58 (cutS 59 s).1).2.1 [] = [] then (true, { st with labels := st.labels ++ [(w.getD 0 [], st.prog.length)] })
    else instrS (wd (cutS 58 (cutS 59 s).1).2.1 []) line { st with labels := st.labels ++ [(w.getD 0 [], st.prog.length)] }
  else if wd (cutS 59 s).1 [] = [] then (true, st) else instrS (wd (cutS 59 s).1 []) line st

/-- A parser that lies at B, its labels before it. -/
structure Prs (H : List AObj) (B M : Nat) (st : PS) : Prop where
  box : ∃ vl vu, H[B]? = some (.box [vl, .mp M, vu] none) ∧ M < B ∧ H[M]? = some (.map (st.labels.map fun q => (S q.1, .int .i64 q.2))) ∧ Own (B + 1) H vl 5 ty_code_Instr (st.prog.map I5) ∧ Own (B + 1) H vu 3 ty_asm_use (st.uses.map U3)

theorem own_set {N B : Nat} {H : List AObj} {v : AV} {sz : Nat} {ty : TypeId} {els : List (List AV)} {o : AObj} (h : Own N H v sz ty els) (hB : B < N) : Own N (H.set B o) v sz ty els := by
  obtain ⟨q1, q2⟩ := h
  refine ⟨q1, ?_⟩
  rcases q2 with q2 | ⟨id, ver, e1, e2, e3⟩
  · exact .inl q2
  · exact .inr ⟨id, ver, e1, e2, by rw [List.getElem?_set_ne (by omega)]; exact e3⟩

theorem own_keep {N : Nat} {H H' : List AObj} {v : AV} {sz sz' : Nat} {ty ty' : TypeId} {els : List (List AV)} (h : Own N H v sz ty els) (hne : sz ≠ sz') (hf : ∀ (id : Nat) o, (∀ a d, o ≠ .row a sz' ty' d) → H[id]? = some o → H'[id]? = some o) : Own N H' v sz ty els := by
  obtain ⟨q1, q2⟩ := h
  refine ⟨q1, ?_⟩
  rcases q2 with q2 | ⟨id, ver, e1, e2, e3⟩
  · exact .inl q2
  · refine .inr ⟨id, ver, e1, e2, hf _ _ ?_ e3⟩
    intro a d he
    cases he
    exact hne rfl

/-- An instruction is put behind the program. -/
theorem Prs.addI {H : List AObj} {B M : Nat} {st : PS} (h : Prs H B M st) (x : Instr) (hl : st.prog.length < 2^30) (lo : Option Nat) :
    ∃ vl vu vl' H1, H[B]? = some (.box [vl, .mp M, vu] none) ∧ M < B ∧ appendA ⟨H, lo⟩ ty_code_Instr 5 6 vl [I5 x] = some (vl', ⟨H1, lo⟩) ∧ lenA ⟨H, lo⟩ .sl vl = some (.int .i64 st.prog.length) ∧ H1[B]? = some (.box [vl, .mp M, vu] none) ∧ (∀ k, vl'.refs ≤ k → k ≤ B + 1 → False) ∧ vl'.isTup = false ∧ vl'.cells = [vl'] ∧
      Prs (H1.set B (.box [vl', .mp M, vu] none)) B M { st with prog := st.prog ++ [x] } ∧ H.length ≤ H1.length ∧ (∀ id, id < B → H1[id]? = H[id]?) ∧ (∀ (id : Nat) cs tg, H[id]? = some (.box cs tg) → H1[id]? = some (.box cs tg)) := by
  obtain ⟨vl, vu, h1, h2, h3, h4, h5⟩ := h.box
  have hlt := (List.getElem?_eq_some_iff.1 h1).1
  obtain ⟨vl', H1, a1, a2, a3, a4, a5⟩ := h4.append3 (lo := lo) (ys := [I5 x]) (bytes := 6) (by omega) (by decide) (by simp [I5]) (by simp [refsLL, refs_I5]) (by simp [room]; omega)
  have hb := a5 B _ (by simp) h1
  have hnn : vl' ≠ .nils := by
    rintro rfl
    have := a2.2
    simp at this
  have hkk : ∃ id ver, B + 1 ≤ id ∧ vl' = .ref id ver 5 0 (st.prog.map I5 ++ [I5 x]).length false := by
    rcases a2.2 with ⟨e, _⟩ | ⟨id, ver, e1, e2, _⟩
    · exact absurd e hnn
    · exact ⟨id, ver, e1, e2⟩
  refine ⟨vl, vu, vl', H1, h1, h2, a1, (h4.rd (lo := lo)).lenM, hb, ?_, ?_, ?_, ⟨vl', vu, by simp [(List.getElem?_eq_some_iff.1 hb).1], h2, ?_, ?_, ?_⟩, a3, fun id hid => a4 id (by omega), fun id cs tg hc => a5 id _ (by simp) hc⟩
  · rintro k q1 q2
    obtain ⟨id, ver, e1, rfl⟩ := hkk
    simp only [AV.refs] at q1; omega
  · obtain ⟨id, ver, e1, rfl⟩ := hkk; rfl
  · obtain ⟨id, ver, e1, rfl⟩ := hkk; rfl
  · rw [List.getElem?_set_ne (by omega)]; exact a5 M _ (by simp) h3
  · rw [List.map_append]; exact own_set a2 (by omega)
  · exact own_set (own_keep h5 (by decide) a5) (by omega)

/-- A use of a label. -/
theorem Prs.addU {H : List AObj} {B M : Nat} {st : PS} (h : Prs H B M st) (u : List UInt8 × Nat × Nat) (hl : st.uses.length < 2^30) (lo : Option Nat) :
    ∃ vl vu vu' H1, H[B]? = some (.box [vl, .mp M, vu] none) ∧ M < B ∧ appendA ⟨H, lo⟩ ty_asm_use 3 32 vu [U3 u] = some (vu', ⟨H1, lo⟩) ∧ lenA ⟨H, lo⟩ .sl vl = some (.int .i64 st.prog.length) ∧ H1[B]? = some (.box [vl, .mp M, vu] none) ∧ (∀ k, vu'.refs ≤ k → k ≤ B + 1 → False) ∧ vu'.isTup = false ∧ vu'.cells = [vu'] ∧
      Prs (H1.set B (.box [vl, .mp M, vu'] none)) B M { st with uses := st.uses ++ [u] } ∧ H.length ≤ H1.length ∧ (∀ id, id < B → H1[id]? = H[id]?) ∧ (∀ (id : Nat) cs tg, H[id]? = some (.box cs tg) → H1[id]? = some (.box cs tg)) := by
  obtain ⟨vl, vu, h1, h2, h3, h4, h5⟩ := h.box
  have hlt := (List.getElem?_eq_some_iff.1 h1).1
  obtain ⟨vu', H1, a1, a2, a3, a4, a5⟩ := h5.append3 (lo := lo) (ys := [U3 u]) (bytes := 32) (by omega) (by decide) (by simp [U3]) (by simp [U3, refsLL, refsL, refs_S, AV.refs]) (by simp [room]; omega)
  have hb := a5 B _ (by simp) h1
  have hnn : vu' ≠ .nils := by
    rintro rfl
    have := a2.2
    simp at this
  have hkk : ∃ id ver, B + 1 ≤ id ∧ vu' = .ref id ver 3 0 (st.uses.map U3 ++ [U3 u]).length false := by
    rcases a2.2 with ⟨e, _⟩ | ⟨id, ver, e1, e2, _⟩
    · exact absurd e hnn
    · exact ⟨id, ver, e1, e2⟩
  refine ⟨vl, vu, vu', H1, h1, h2, a1, (h4.rd (lo := lo)).lenM, hb, ?_, ?_, ?_, ⟨vl, vu', by simp [(List.getElem?_eq_some_iff.1 hb).1], h2, ?_, ?_, ?_⟩, a3, fun id hid => a4 id (by omega), fun id cs tg hc => a5 id _ (by simp) hc⟩
  · rintro k q1 q2
    obtain ⟨id, ver, e1, rfl⟩ := hkk
    simp only [AV.refs] at q1; omega
  · obtain ⟨id, ver, e1, rfl⟩ := hkk; rfl
  · obtain ⟨id, ver, e1, rfl⟩ := hkk; rfl
  · rw [List.getElem?_set_ne (by omega)]; exact a5 M _ (by simp) h3
  · exact own_set (own_keep h4 (by decide) a5) (by omega)
  · rw [List.map_append]; exact own_set a2 (by omega)

end Go.Proofs.YtoolhdikfdjikaaDoor

/- An instruction's line is read. -/
namespace Go.Proofs.YtoolhdikfdjikaaDoor
open Go Go.Den
set_option maxRecDepth 10000

theorem words_sl : slarrA X 39 1 (.glob g_asm_words) none none = some (.sl (ls wordsL) false) := rfl
theorem words_rv : Rv (.sl (ls wordsL) false) 1 (ls wordsL) := Rv.sl (by intro el hel; simp only [ls, List.mem_map] at hel; obtain ⟨x, _, rfl⟩ := hel; rfl)
theorem idxI_range {α : Type} (p : α → Bool) (l : List α) : -1 ≤ idxI p l ∧ idxI p l < l.length := by
  unfold idxI
  cases h : l.findIdx? p with
  | none => simp; omega
  | some i => have := (List.findIdx?_eq_some_iff_getElem.1 h).1; simp only; omega

theorem instrS_r1 {ws : List (List UInt8)} {line : Nat} {st : PS} (h : regS (ws.getD 1 []) = none) : instrS ws line st = (false, st) := by
  unfold instrS; rw [h]; split <;> rfl
theorem instrS_r2 {ws : List (List UInt8)} {line : Nat} {st : PS} (h : regS (ws.getD 2 []) = none) : instrS ws line st = (false, st) := by
  unfold instrS; rw [h]; split
  · rfl
  · cases regS (ws.getD 1 []) <;> rfl
theorem instrS_r3 {ws : List (List UInt8)} {line : Nat} {st : PS} (h : regS (ws.getD 3 []) = none) : instrS ws line st = (false, st) := by
  unfold instrS; rw [h]; split
  · rfl
  · cases regS (ws.getD 1 []) <;> cases regS (ws.getD 2 []) <;> rfl
theorem instrS_op {ws : List (List UInt8)} {line : Nat} {st : PS} {op : Int} (ho : idxI (fun y => decide (ws.getD 0 [] = y)) wordsL = op) (h : op < 0) : instrS ws line st = (false, st) := by
  unfold instrS; rw [ho]; split
  · rfl
  · cases regS (ws.getD 1 []) <;> cases regS (ws.getD 2 []) <;> cases regS (ws.getD 3 []) <;> first | rfl | exact if_pos h
theorem instrS_num {ws : List (List UInt8)} {line : Nat} {st : PS} {on a b c : Nat} (h5 : ws.length = 5) (ho : idxI (fun y => decide (ws.getD 0 [] = y)) wordsL = (on : Int)) (k1 : regS (ws.getD 1 []) = some a) (k2 : regS (ws.getD 2 []) = some b) (k3 : regS (ws.getD 3 []) = some c) (hg : goes on = false) :
    instrS ws line st = ((numS (ws.getD 4 [])).isSome, { st with prog := st.prog ++ [⟨on, a, b, c, numV (ws.getD 4 [])⟩] }) := by
  unfold instrS; rw [ho, k1, k2, k3, if_neg (by simp [h5]), Int.toNat_natCast, hg]
  exact (if_neg (by omega)).trans (if_neg (by simp))
theorem instrS_lab {ws : List (List UInt8)} {line : Nat} {st : PS} {on a b c : Nat} (h5 : ws.length = 5) (ho : idxI (fun y => decide (ws.getD 0 [] = y)) wordsL = (on : Int)) (k1 : regS (ws.getD 1 []) = some a) (k2 : regS (ws.getD 2 []) = some b) (k3 : regS (ws.getD 3 []) = some c) (hg : goes on = true) :
    instrS ws line st = (labS (ws.getD 4 []), { st with prog := st.prog ++ [⟨on, a, b, c, 0⟩], uses := st.uses ++ [(ws.getD 4 [], line, st.prog.length)] }) := by
  unfold instrS; rw [ho, k1, k2, k3, if_neg (by simp [h5]), Int.toNat_natCast, hg]
  exact (if_neg (by omega)).trans (if_pos rfl)
theorem own_app {N : Nat} {H K : List AObj} {v : AV} {sz : Nat} {ty : TypeId} {els : List (List AV)} (h : Own N H v sz ty els) : Own N (H ++ K) v sz ty els := by
  obtain ⟨q1, q2⟩ := h
  refine ⟨q1, ?_⟩
  rcases q2 with q2 | ⟨id, ver, e1, e2, e3⟩
  · exact .inl q2
  · exact .inr ⟨id, ver, e1, e2, by rw [List.getElem?_append_left (List.getElem?_eq_some_iff.1 e3).1]; exact e3⟩
theorem Prs.app {H : List AObj} {B M : Nat} {st : PS} (h : Prs H B M st) (K : List AObj) : Prs (H ++ K) B M st := by
  obtain ⟨vl, vu, h1, h2, h3, h4, h5⟩ := h.box
  refine ⟨vl, vu, ?_, h2, ?_, own_app h4, own_app h5⟩
  · rw [List.getElem?_append_left (List.getElem?_eq_some_iff.1 h1).1]; exact h1
  · rw [List.getElem?_append_left (List.getElem?_eq_some_iff.1 h3).1]; exact h3
theorem regS_some {s : List UInt8} (h : ¬ regS s = none) : ∃ k, regS s = some k ∧ k < 8 ∧ s.length = 2 ∧ ((s.getD 1 0).toNat : Int) - 48 = k := by
  unfold regS at h ⊢
  split at h
  · rename_i hq
    rw [if_pos hq]
    exact ⟨_, rfl, by omega, hq.1, by omega⟩
  · exact absurd rfl h

theorem regS_none {s : List UInt8} : regS s = none ↔ ¬ (s.length : Int) = 2 ∨ ¬ ((s.getD 0 0).toNat : Int) = 114 ∨ ((s.getD 1 0).toNat : Int) < 48 ∨ ((s.getD 1 0).toNat : Int) ≥ 56 := by
  unfold regS
  have h : s.getD 0 0 = 114 ↔ (s.getD 0 0).toNat = 114 := ⟨fun h => by rw [h]; rfl, fun h => UInt8.toNat_inj.1 h⟩
  simp only [h]
  split
  · simp only [reduceCtorEq, false_iff]; omega
  · simp only [true_iff]; omega

theorem instr_D (B M : Nat) (wv : AV) (ws : List (List UInt8)) (line : Nat) (st : PS) (H : List AObj) (lo : Option Nat) (hP : Prs H B M st) (hw : Rv wv 1 (ls ws)) (hwl : ∀ w ∈ ws, w.length ≤ 1000000) (hpl : st.prog.length < 2^29) (hul : st.uses.length < 2^29) (hli : line < 2^40) (hws : ws.length < 2^40) :
    ∃ H' lo', D X (.fn (.func fn_Pasm_parser_instr) [] []) [.ptr B 0, wv, .int .i64 line] ⟨H, lo⟩ = some (.ret (.bool (instrS ws line st).1) ⟨H', lo'⟩) ∧ Prs H' B M (instrS ws line st).2 ∧ H.length ≤ H'.length ∧ (∀ id, id < B → H'[id]? = H[id]?) ∧ (H' = H ∧ lo' = lo ∨ lo' = joinLo lo (some B)) := by
  suffices h : ∃ cr, D X (.fn (.func fn_Pasm_parser_instr) [] []) [.ptr B 0, wv, .int .i64 line] ⟨H, lo⟩ = some cr ∧ (fun cr => ∃ H' lo', cr = CRes.ret (.bool (instrS ws line st).1) ⟨H', lo'⟩ ∧ Prs H' B M (instrS ws line st).2 ∧ H.length ≤ H'.length ∧ (∀ id, id < B → H'[id]? = H[id]?) ∧ (H' = H ∧ lo' = lo ∨ lo' = joinLo lo (some B))) cr by
    obtain ⟨cr, h1, H', lo', rfl, h2⟩ := h
    exact ⟨H', lo', h1, h2⟩
  refine D_fn_ex pf_Pasm_parser_instr rfl rfl rfl fun N hN => ?_
  have hw' : Rv wv 1 (ws.map fun x => [S x]) := hw
  have stay : instrS ws line st = (false, st) → ∃ H' lo', CRes.ret (.bool false) ⟨H, lo⟩ = CRes.ret (.bool (instrS ws line st).1) ⟨H', lo'⟩ ∧ Prs H' B M (instrS ws line st).2 ∧ N ≤ H'.length ∧ (∀ id, id < B → H'[id]? = H[id]?) ∧ (H' = H ∧ lo' = lo ∨ lo' = joinLo lo (some B)) := by
    intro h; rw [h]; exact ⟨H, lo, rfl, hP, by omega, fun _ _ => rfl, .inl ⟨rfl, rfl⟩⟩
  by_cases h5 : ws.length = 5
  · have h5' : (ws.length : Int) = 5 := by omega
    have hdef : (default : List UInt8) = [] := rfl
    obtain ⟨op, hop⟩ : ∃ op, idxI (fun y => decide (ws.getD 0 [] = y)) wordsL = op := ⟨_, rfl⟩
    have hr := idxI_range (fun y => decide (ws.getD 0 [] = y)) wordsL
    rw [hop] at hr
    have hr2 : op < 39 := hr.2
    have hidx := IndexS_D (.sl (ls wordsL) false) wordsL (ws.getD 0 []) words_rv (by decide)
    have hmx : 0 ≤ max op 0 ∧ max op 0 < 39 := by omega
    obtain ⟨o', ho'⟩ : ∃ o', max op 0 = o' := ⟨_, rfl⟩
    rw [ho'] at hmx
    simp (maxSteps := 2000000) (disch := omega) only [condK_dec, F1, ↓Int.cast_ofNat_Int, ↓R1, R2, C1, P1, O1, V1, V2, V3, reduceCtorEq, Nat.reduceEqDiff, Nat.reduceBEq, Nat.reduceAdd, Nat.reduceSub, Nat.reduceMul, Nat.reduceLeDiff, Nat.reduceLT, Int.reduceEq, Int.reduceAdd, Int.reduceSub, Int.reduceMul, Int.reduceLT, Int.reduceLE, Int.reduceNeg, Int.reduceToNat, wrap_i64, wrap_u64, wrap_u8, wrap_u16, wrap_u32, wrap_i32, base_get0, base_get, base_set0, base_set, base_take, take_self, take_app1, pf_Pasm_parser_instr, hw'.lenM, hw'.addrM, hw'.loadM, hw'.fpLM, h5', words_sl, hdef, hidx, hop, ho', hN]
    obtain ⟨on, rfl⟩ : ∃ on : Nat, o' = on := ⟨o'.toNat, by omega⟩
    have hmem : ws.getD 4 [] ∈ ws := by rw [List.getD_eq_getElem?_getD, List.getElem?_eq_getElem (by omega)]; exact List.getElem_mem _
    have hl4 := hwl _ hmem
    have hnum := number_D (ws.getD 4 []) hl4
    have hgo := goes_D on hmx.1
    rw [Int.toNat_natCast] at hgo
    have hlab := labelled_D (ws.getD 4 []) (by omega)
    have hBN : B < N := by obtain ⟨vl, vu, h1, _⟩ := hP.box; have := (List.getElem?_eq_some_iff.1 h1).1; omega
    rw [wp_unroll]
    simp (maxSteps := 2000000) (disch := omega) only [F1, ↓Int.cast_ofNat_Int, ↓R1, R2, C1, P1, O1, V1, V2, V3, reduceCtorEq, Nat.reduceEqDiff, Nat.reduceBEq, Nat.reduceAdd, Nat.reduceSub, Nat.reduceMul, Nat.reduceLeDiff, Nat.reduceLT, Int.reduceEq, Int.reduceAdd, Int.reduceSub, Int.reduceMul, Int.reduceLT, Int.reduceLE, Int.reduceNeg, Int.reduceToNat, wrap_i64, wrap_u64, wrap_u8, wrap_u16, wrap_u32, wrap_i32, base_get0, base_get, base_set0, base_set, base_take, take_self, take_app1, l1_Pasm_parser_instr, hw'.lenM, hw'.addrM, hw'.loadM, hw'.fpLM, h5', hdef]
    refine gK_keep 58 (.bool (decide (regS (ws.getD 1 []) = none))) [0,1,2,7,8,10,11,29,30,31] rfl rfl ?_ fun e0 => ?_
    · simp (maxSteps := 2000000) (disch := omega) only [R4, F1, ↓Int.cast_ofNat_Int, ↓R1, R2, C1, P1, O1, V1, V2, V3, reduceCtorEq, Nat.reduceEqDiff, Nat.reduceBEq, Nat.reduceAdd, Nat.reduceSub, Nat.reduceMul, Nat.reduceLeDiff, Nat.reduceLT, Int.reduceEq, Int.reduceAdd, Int.reduceSub, Int.reduceMul, Int.reduceLT, Int.reduceLE, Int.reduceNeg, Int.reduceToNat, wrap_i64, wrap_u64, wrap_u8, wrap_u16, wrap_u32, wrap_i32, base_get0, base_get, base_set0, base_set, base_take, take_self, take_app1]
      (repeat' (first | apply And.intro | intro _))
      all_goals first | omega | (refine congrArg AV.bool (Bool.eq_iff_iff.2 ?_); simp only [decide_eq_true_eq, regS_none, Bool.false_eq_true, false_iff, true_iff, eq_self, Classical.not_not] at *; omega)
    simp (maxSteps := 2000000) (disch := omega) only [condK_dec, F1, ↓Int.cast_ofNat_Int, ↓R1, R2, C1, P1, O1, V1, V2, V3, reduceCtorEq, Nat.reduceEqDiff, Nat.reduceBEq, Nat.reduceAdd, Nat.reduceSub, Nat.reduceMul, Nat.reduceLeDiff, Nat.reduceLT, Int.reduceEq, Int.reduceAdd, Int.reduceSub, Int.reduceMul, Int.reduceLT, Int.reduceLE, Int.reduceNeg, Int.reduceToNat, wrap_i64, wrap_u64, wrap_u8, wrap_u16, wrap_u32, wrap_i32, base_get0, base_get, base_set0, base_set, base_take, take_self, take_app1]
    refine ⟨fun q1 => stay (instrS_r1 q1), fun q1 => ?_⟩
    obtain ⟨r1, k1, m1, n1, o1⟩ := regS_some q1
    simp (maxSteps := 2000000) (disch := omega) only [F1, ↓Int.cast_ofNat_Int, ↓R1, R2, C1, P1, O1, V1, V2, V3, reduceCtorEq, Nat.reduceEqDiff, Nat.reduceBEq, Nat.reduceAdd, Nat.reduceSub, Nat.reduceMul, Nat.reduceLeDiff, Nat.reduceLT, Int.reduceEq, Int.reduceAdd, Int.reduceSub, Int.reduceMul, Int.reduceLT, Int.reduceLE, Int.reduceNeg, Int.reduceToNat, wrap_i64, wrap_u64, wrap_u8, wrap_u16, wrap_u32, wrap_i32, base_get0, base_get, base_set0, base_set, base_take, take_self, take_app1, n1, o1]
    rw [wp_unroll]
    simp (maxSteps := 2000000) (disch := omega) only [F1, ↓Int.cast_ofNat_Int, ↓R1, R2, C1, P1, O1, V1, V2, V3, reduceCtorEq, Nat.reduceEqDiff, Nat.reduceBEq, Nat.reduceAdd, Nat.reduceSub, Nat.reduceMul, Nat.reduceLeDiff, Nat.reduceLT, Int.reduceEq, Int.reduceAdd, Int.reduceSub, Int.reduceMul, Int.reduceLT, Int.reduceLE, Int.reduceNeg, Int.reduceToNat, wrap_i64, wrap_u64, wrap_u8, wrap_u16, wrap_u32, wrap_i32, base_get0, base_get, base_set0, base_set, base_take, take_self, take_app1, hw'.lenM, hw'.addrM, hw'.loadM, hw'.fpLM, h5', hdef]
    refine gK_keep 58 (.bool (decide (regS (ws.getD 2 []) = none))) [0,1,2,7,8,10,11,29,30,31] rfl rfl ?_ fun e0 => ?_
    · simp (maxSteps := 2000000) (disch := omega) only [R4, F1, ↓Int.cast_ofNat_Int, ↓R1, R2, C1, P1, O1, V1, V2, V3, reduceCtorEq, Nat.reduceEqDiff, Nat.reduceBEq, Nat.reduceAdd, Nat.reduceSub, Nat.reduceMul, Nat.reduceLeDiff, Nat.reduceLT, Int.reduceEq, Int.reduceAdd, Int.reduceSub, Int.reduceMul, Int.reduceLT, Int.reduceLE, Int.reduceNeg, Int.reduceToNat, wrap_i64, wrap_u64, wrap_u8, wrap_u16, wrap_u32, wrap_i32, base_get0, base_get, base_set0, base_set, base_take, take_self, take_app1]
      (repeat' (first | apply And.intro | intro _))
      all_goals first | omega | (refine congrArg AV.bool (Bool.eq_iff_iff.2 ?_); simp only [decide_eq_true_eq, regS_none, Bool.false_eq_true, false_iff, true_iff, eq_self, Classical.not_not] at *; omega)
    simp (maxSteps := 2000000) (disch := omega) only [condK_dec, F1, ↓Int.cast_ofNat_Int, ↓R1, R2, C1, P1, O1, V1, V2, V3, reduceCtorEq, Nat.reduceEqDiff, Nat.reduceBEq, Nat.reduceAdd, Nat.reduceSub, Nat.reduceMul, Nat.reduceLeDiff, Nat.reduceLT, Int.reduceEq, Int.reduceAdd, Int.reduceSub, Int.reduceMul, Int.reduceLT, Int.reduceLE, Int.reduceNeg, Int.reduceToNat, wrap_i64, wrap_u64, wrap_u8, wrap_u16, wrap_u32, wrap_i32, base_get0, base_get, base_set0, base_set, base_take, take_self, take_app1]
    refine ⟨fun q2 => stay (instrS_r2 q2), fun q2 => ?_⟩
    obtain ⟨r2, k2, m2, n2, o2⟩ := regS_some q2
    simp (maxSteps := 2000000) (disch := omega) only [F1, ↓Int.cast_ofNat_Int, ↓R1, R2, C1, P1, O1, V1, V2, V3, reduceCtorEq, Nat.reduceEqDiff, Nat.reduceBEq, Nat.reduceAdd, Nat.reduceSub, Nat.reduceMul, Nat.reduceLeDiff, Nat.reduceLT, Int.reduceEq, Int.reduceAdd, Int.reduceSub, Int.reduceMul, Int.reduceLT, Int.reduceLE, Int.reduceNeg, Int.reduceToNat, wrap_i64, wrap_u64, wrap_u8, wrap_u16, wrap_u32, wrap_i32, base_get0, base_get, base_set0, base_set, base_take, take_self, take_app1, n2, o2]
    rw [wp_unroll]
    simp (maxSteps := 2000000) (disch := omega) only [F1, ↓Int.cast_ofNat_Int, ↓R1, R2, C1, P1, O1, V1, V2, V3, reduceCtorEq, Nat.reduceEqDiff, Nat.reduceBEq, Nat.reduceAdd, Nat.reduceSub, Nat.reduceMul, Nat.reduceLeDiff, Nat.reduceLT, Int.reduceEq, Int.reduceAdd, Int.reduceSub, Int.reduceMul, Int.reduceLT, Int.reduceLE, Int.reduceNeg, Int.reduceToNat, wrap_i64, wrap_u64, wrap_u8, wrap_u16, wrap_u32, wrap_i32, base_get0, base_get, base_set0, base_set, base_take, take_self, take_app1, hw'.lenM, hw'.addrM, hw'.loadM, hw'.fpLM, h5', hdef]
    refine gK_keep 58 (.bool (decide (regS (ws.getD 3 []) = none))) [0,1,2,7,8,10,11,29,30,31] rfl rfl ?_ fun e0 => ?_
    · simp (maxSteps := 2000000) (disch := omega) only [R4, F1, ↓Int.cast_ofNat_Int, ↓R1, R2, C1, P1, O1, V1, V2, V3, reduceCtorEq, Nat.reduceEqDiff, Nat.reduceBEq, Nat.reduceAdd, Nat.reduceSub, Nat.reduceMul, Nat.reduceLeDiff, Nat.reduceLT, Int.reduceEq, Int.reduceAdd, Int.reduceSub, Int.reduceMul, Int.reduceLT, Int.reduceLE, Int.reduceNeg, Int.reduceToNat, wrap_i64, wrap_u64, wrap_u8, wrap_u16, wrap_u32, wrap_i32, base_get0, base_get, base_set0, base_set, base_take, take_self, take_app1]
      (repeat' (first | apply And.intro | intro _))
      all_goals first | omega | (refine congrArg AV.bool (Bool.eq_iff_iff.2 ?_); simp only [decide_eq_true_eq, regS_none, Bool.false_eq_true, false_iff, true_iff, eq_self, Classical.not_not] at *; omega)
    simp (maxSteps := 2000000) (disch := omega) only [condK_dec, F1, ↓Int.cast_ofNat_Int, ↓R1, R2, C1, P1, O1, V1, V2, V3, reduceCtorEq, Nat.reduceEqDiff, Nat.reduceBEq, Nat.reduceAdd, Nat.reduceSub, Nat.reduceMul, Nat.reduceLeDiff, Nat.reduceLT, Int.reduceEq, Int.reduceAdd, Int.reduceSub, Int.reduceMul, Int.reduceLT, Int.reduceLE, Int.reduceNeg, Int.reduceToNat, wrap_i64, wrap_u64, wrap_u8, wrap_u16, wrap_u32, wrap_i32, base_get0, base_get, base_set0, base_set, base_take, take_self, take_app1]
    refine ⟨fun q3 => stay (instrS_r3 q3), fun q3 => ?_⟩
    obtain ⟨r3, k3, m3, n3, o3⟩ := regS_some q3
    simp (maxSteps := 2000000) (disch := omega) only [F1, ↓Int.cast_ofNat_Int, ↓R1, R2, C1, P1, O1, V1, V2, V3, reduceCtorEq, Nat.reduceEqDiff, Nat.reduceBEq, Nat.reduceAdd, Nat.reduceSub, Nat.reduceMul, Nat.reduceLeDiff, Nat.reduceLT, Int.reduceEq, Int.reduceAdd, Int.reduceSub, Int.reduceMul, Int.reduceLT, Int.reduceLE, Int.reduceNeg, Int.reduceToNat, wrap_i64, wrap_u64, wrap_u8, wrap_u16, wrap_u32, wrap_i32, base_get0, base_get, base_set0, base_set, base_take, take_self, take_app1, n3, o3]
    rw [wp_unroll]
    simp (maxSteps := 2000000) (disch := omega) only [F1, ↓Int.cast_ofNat_Int, ↓R1, R2, C1, P1, O1, V1, V2, V3, reduceCtorEq, Nat.reduceEqDiff, Nat.reduceBEq, Nat.reduceAdd, Nat.reduceSub, Nat.reduceMul, Nat.reduceLeDiff, Nat.reduceLT, Int.reduceEq, Int.reduceAdd, Int.reduceSub, Int.reduceMul, Int.reduceLT, Int.reduceLE, Int.reduceNeg, Int.reduceToNat, wrap_i64, wrap_u64, wrap_u8, wrap_u16, wrap_u32, wrap_i32, base_get0, base_get, base_set0, base_set, base_take, take_self, take_app1, hw'.lenM, hw'.addrM, hw'.loadM, hw'.fpLM, h5', hdef, k1,k2,k3, hnum]
    simp (maxSteps := 2000000) (disch := omega) only [condK_dec, F1, ↓Int.cast_ofNat_Int, ↓R1, R2, C1, P1, O1, V1, V2, V3, reduceCtorEq, Nat.reduceEqDiff, Nat.reduceBEq, Nat.reduceAdd, Nat.reduceSub, Nat.reduceMul, Nat.reduceLeDiff, Nat.reduceLT, Int.reduceEq, Int.reduceAdd, Int.reduceSub, Int.reduceMul, Int.reduceLT, Int.reduceLE, Int.reduceNeg, Int.reduceToNat, wrap_i64, wrap_u64, wrap_u8, wrap_u16, wrap_u32, wrap_i32, base_get0, base_get, base_set0, base_set, base_take, take_self, take_app1, hgo]
    refine ⟨fun g1 => stay (instrS_op hop g1), fun g1 => ?_⟩
    have hon : op = on := by omega
    cases hg : goes on with
    | false =>
      obtain ⟨vl, vu, vl', H1, p1, p2, p3, p4, p5, p6, p7, p8, p9, p10, p11, p12⟩ := (hP.app [.box [.int .u8 on, .int .u8 r1, .int .u8 r2, .int .u8 r3, .int .u16 (numV (ws.getD 4 []))] none]).addI ⟨on, r1, r2, r3, numV (ws.getD 4 [])⟩ (by omega) none
      simp only [I5] at p3
      have hNB : ¬ N ≤ B := by omega
      have hmin : minLo none B = some B := rfl
      have hrf : ¬ vl'.refs ≤ B + 1 := fun h => p6 _ h (Nat.le_refl _)
      have hdr : ∀ a b c : AV, [a] ++ List.drop [a].length [b, c, vu] = [a, c, vu] := fun _ _ _ => rfl
      simp (maxSteps := 2000000) (disch := omega) only [F1, ↓Int.cast_ofNat_Int, ↓R1, R2, C1, P1, O1, V1, V2, V3, reduceCtorEq, Nat.reduceEqDiff, Nat.reduceBEq, Nat.reduceAdd, Nat.reduceSub, Nat.reduceMul, Nat.reduceLeDiff, Nat.reduceLT, Int.reduceEq, Int.reduceAdd, Int.reduceSub, Int.reduceMul, Int.reduceLT, Int.reduceLE, Int.reduceNeg, Int.reduceToNat, wrap_i64, wrap_u64, wrap_u8, wrap_u16, wrap_u32, wrap_i32, base_get0, base_get, base_set0, base_set, base_take, take_self, take_app1, p1, p3, p5, hNB, hmin, hrf, p7, p8, hdr]
      rw [instrS_num h5 (hop.trans hon) k1 k2 k3 hg]
      exact ⟨_, _, rfl, p9, by rw [List.length_set]; rw [List.length_append] at p10; omega, fun id hid => by rw [List.getElem?_set_ne (by omega), p11 id hid, List.getElem?_append_left (by omega)], .inr rfl⟩
    | true =>
      obtain ⟨vl, vu, vu', H1, p1, p2, p3, p4, p5, p6, p7, p8, p9, p10, p11, p12⟩ := (hP.app [.box [.int .u8 on, .int .u8 r1, .int .u8 r2, .int .u8 r3, .int .u16 0] none]).addU (ws.getD 4 [], line, st.prog.length) (by omega) none
      simp only [U3] at p3
      have hNB : ¬ N ≤ B := by omega
      have hmin : minLo none B = some B := rfl
      have hrf : ¬ vu'.refs ≤ B + 1 := fun h => p6 _ h (Nat.le_refl _)
      have hmin2 : minLo (some B) B = some B := by simp [minLo]
      have hdr : ∀ a b c d : AV, [a] ++ List.drop [a].length [b, c, d] = [a, c, d] := fun _ _ _ _ => rfl
      have hdr2 : ∀ a b c d : AV, List.take 2 [b, c, d] ++ ([a] ++ List.drop (2 + [a].length) [b, c, d]) = [b, c, a] := fun _ _ _ _ => rfl
      have hdr3 : ∀ a b c d : AV, List.take 2 [b, c, d] ++ [a] ++ List.drop (2 + [a].length) [b, c, d] = [b, c, a] := fun _ _ _ _ => rfl
      have hN1 : H1[N]? = some (.box (I5 ⟨on, r1, r2, r3, 0⟩) none) := p12 N _ _ (by rw [List.getElem?_append_right (by omega), hN, Nat.sub_self]; rfl)
      have hN2 : (H1.set B (.box [vl, .mp M, vu'] none))[N]? = some (.box (I5 ⟨on, r1, r2, r3, 0⟩) none) := by rw [List.getElem?_set_ne (by omega)]; exact hN1
      simp only [I5, Int.cast_ofNat_Int] at hN2
      obtain ⟨wl, wu, wl', H2, s1, s2, s3, s4, s5, s6, s7, s8, s9, s10, s11, s12⟩ := p9.addI ⟨on, r1, r2, r3, 0⟩ (by simp; omega) (some B)
      have hrf2 : ¬ wl'.refs ≤ B + 1 := fun h => s6 _ h (Nat.le_refl _)
      simp only [I5, Int.cast_ofNat_Int] at s3
      simp (maxSteps := 2000000) (disch := omega) only [F1, ↓Int.cast_ofNat_Int, ↓R1, R2, C1, P1, O1, V1, V2, V3, reduceCtorEq, Nat.reduceEqDiff, Nat.reduceBEq, Nat.reduceAdd, Nat.reduceSub, Nat.reduceMul, Nat.reduceLeDiff, Nat.reduceLT, Int.reduceEq, Int.reduceAdd, Int.reduceSub, Int.reduceMul, Int.reduceLT, Int.reduceLE, Int.reduceNeg, Int.reduceToNat, wrap_i64, wrap_u64, wrap_u8, wrap_u16, wrap_u32, wrap_i32, base_get0, base_get, base_set0, base_set, base_take, take_self, take_app1, hw'.lenM, hw'.addrM, hw'.loadM, hw'.fpLM, h5', hdef, p1, p3, p4, p5, hNB, hmin, hmin2, hrf, p7, p8, hlab, hdr2, hdr3, hN2, s1, s3, s5, s7, s8, hdr, hrf2]
      rw [instrS_lab h5 (hop.trans hon) k1 k2 k3 hg]
      exact ⟨_, _, rfl, s9, by rw [List.length_set] at s10 ⊢; rw [List.length_append] at p10; omega, fun id hid => by rw [List.getElem?_set_ne (by omega), s11 id hid, List.getElem?_set_ne (by omega), p11 id hid, List.getElem?_append_left (by omega)], .inr rfl⟩
  · have h5' : ¬ (ws.length : Int) = 5 := by omega
    simp (maxSteps := 2000000) (disch := omega) only [condK_dec, F1, ↓Int.cast_ofNat_Int, ↓R1, R2, C1, P1, O1, V1, V2, V3, reduceCtorEq, Nat.reduceEqDiff, Nat.reduceBEq, Nat.reduceAdd, Nat.reduceSub, Nat.reduceMul, Nat.reduceLeDiff, Nat.reduceLT, Int.reduceEq, Int.reduceAdd, Int.reduceSub, Int.reduceMul, Int.reduceLT, Int.reduceLE, Int.reduceNeg, Int.reduceToNat, wrap_i64, wrap_u64, wrap_u8, wrap_u16, wrap_u32, wrap_i32, base_get0, base_get, base_set0, base_set, base_take, take_self, take_app1, pf_Pasm_parser_instr, hw'.lenM, h5', hN]
    exact stay (by simp [instrS, h5])

end Go.Proofs.YtoolhdikfdjikaaDoor

/- A line is read. -/
namespace Go.Proofs.YtoolhdikfdjikaaDoor
open Go Go.Den
set_option maxRecDepth 10000

theorem keyEq_S (a b : List UInt8) : keyEq (S a) (S b) = some (decide (a = b)) := by
  have h : keyEq (S a) (S b) = some (a.toArray == b.toArray) := rfl
  rw [h]
  congr 1
  rw [Bool.eq_iff_iff]; simp

def lab (q : List UInt8 × Nat) : AV × AV := (S q.1, .int .i64 q.2)

theorem find_lab (x : List UInt8) : ∀ L : List (List UInt8 × Nat), findKeyA (S x) (L.map lab) = some ((lookupS x L).map fun k => .int .i64 k)
  | [] => rfl
  | (n, k) :: L => by
    simp only [List.map_cons, lab, findKeyA, keyEq_S, lookupS]
    by_cases h : x = n
    · subst h; simp
    · have h' : ¬ n = x := fun e => h e.symm
      simp only [h, h', decide_false, if_false]
      exact find_lab x L

theorem put_lab (x : List UInt8) (v : Nat) : ∀ L : List (List UInt8 × Nat), lookupS x L = none → putKeyA (S x) (.int .i64 v) (L.map lab) = some ((L ++ [(x, v)]).map lab)
  | [], _ => rfl
  | (n, k) :: L, hn => by
    simp only [lookupS] at hn
    by_cases h : x = n
    · subst h; simp at hn
    · have h' : ¬ n = x := fun e => h e.symm
      rw [if_neg h'] at hn
      simp only [List.map_cons, lab, putKeyA, keyEq_S, h, decide_false, List.cons_append]
      rw [put_lab x v L hn]; rfl

theorem wd_len : ∀ (l cur : List UInt8), (∀ w ∈ wd l cur, w.length ≤ l.length + cur.length) ∧ (wd l cur).length ≤ l.length + 1
  | [], cur => by unfold wd; split <;> simp
  | c :: cs, cur => by
    have h0 := wd_len cs []
    have h1 := wd_len cs (cur ++ [c])
    unfold wd
    split
    · split
      · refine ⟨fun w hw => ?_, ?_⟩
        · have := h0.1 w hw; simp at this ⊢; omega
        · have := h0.2; simp; omega
      · refine ⟨fun w hw => ?_, ?_⟩
        · rcases List.mem_cons.1 hw with rfl | hw
          · simp
          · have := h0.1 w hw; simp at this ⊢; omega
        · have := h0.2; simp; omega
    · refine ⟨fun w hw => ?_, ?_⟩
      · have := h1.1 w hw; simp at this ⊢; omega
      · have := h1.2; simp; omega

theorem Prs.addL {H : List AObj} {B M : Nat} {st : PS} (h : Prs H B M st) (x : List UInt8) (k : Nat) :
    Prs (H.set M (.map ((st.labels ++ [(x, k)]).map lab))) B M { st with labels := st.labels ++ [(x, k)] } := by
  obtain ⟨vl, vu, h1, h2, h3, h4, h5⟩ := h.box
  refine ⟨vl, vu, ?_, h2, ?_, own_set h4 (by omega), own_set h5 (by omega)⟩
  · rw [List.getElem?_set_ne (by omega)]; exact h1
  · simp [(List.getElem?_eq_some_iff.1 h3).1, lab]

theorem fin_two {N B : Nat} {lo lo' : Option Nat} {H' : List AObj} (b : Bool) (h : H'.length = N ∧ lo' = none ∨ lo' = joinLo none (some B)) (hB : B < N) :
    ∃ lo2, finish N lo (.bool b) ⟨H', lo'⟩ = (.bool b, ⟨H', lo2⟩) ∧ (lo2 = lo ∨ lo2 = joinLo lo (some B)) := by
  rcases h with ⟨h, rfl⟩ | rfl
  · refine ⟨lo, ?_, .inl rfl⟩
    rw [finish_0, if_pos (by simp [AV.refs]), List.take_of_length_le (by omega)]
  · refine ⟨joinLo lo (some B), ?_, .inr rfl⟩
    have : joinLo none (some B) = some B := rfl
    rw [this, finish_1, if_neg (by omega)]

theorem line_D (B M : Nat) (s : List UInt8) (line : Nat) (st : PS) (H : List AObj) (lo : Option Nat) (hP : Prs H B M st) (hs : s.length ≤ 1000000) (hpl : st.prog.length < 2^29) (hul : st.uses.length < 2^29) (hli : line < 2^40) :
    ∃ H' lo', D X (.fn (.func fn_Pasm_parser_line) [] []) [.ptr B 0, S s, .int .i64 line] ⟨H, lo⟩ = some (.ret (.bool (lineP s line st).1) ⟨H', lo'⟩) ∧ Prs H' B M (lineP s line st).2 ∧ H.length ≤ H'.length ∧ (∀ id, id < B → id ≠ M → H'[id]? = H[id]?) ∧ (lo' = lo ∨ lo' = joinLo lo (some B)) := by
  suffices h : ∃ cr, D X (.fn (.func fn_Pasm_parser_line) [] []) [.ptr B 0, S s, .int .i64 line] ⟨H, lo⟩ = some cr ∧ (fun cr => ∃ H' lo', cr = CRes.ret (.bool (lineP s line st).1) ⟨H', lo'⟩ ∧ Prs H' B M (lineP s line st).2 ∧ H.length ≤ H'.length ∧ (∀ id, id < B → id ≠ M → H'[id]? = H[id]?) ∧ (lo' = lo ∨ lo' = joinLo lo (some B))) cr by
    obtain ⟨cr, h1, H', lo', rfl, h2⟩ := h
    exact ⟨H', lo', h1, h2⟩
  refine D_fn_ex pf_Pasm_parser_line rfl rfl rfl fun N hN => ?_
  have c1 := Cut_D s 59 (by omega)
  obtain ⟨s1, hs1⟩ : ∃ s1, (cutS 59 s).1 = s1 := ⟨_, rfl⟩
  have l1 := (cutS_len 59 s).1
  rw [hs1] at c1 l1
  have c2 := Cut_D s1 58 (by omega)
  have l2 := cutS_len 58 s1
  obtain ⟨⟨s2, s3, fnd⟩, hc⟩ : ∃ q, cutS 58 s1 = q := ⟨_, rfl⟩
  rw [hc] at c2 l2
  simp only at c2 l2
  have hBN : B < N := by obtain ⟨vl, vu, h1, _⟩ := hP.box; have := (List.getElem?_eq_some_iff.1 h1).1; omega
  have stay : ∀ b, lineP s line st = (b, st) → ∃ H' lo', CRes.ret (.bool b) ⟨H, lo⟩ = CRes.ret (.bool (lineP s line st).1) ⟨H', lo'⟩ ∧ Prs H' B M (lineP s line st).2 ∧ N ≤ H'.length ∧ (∀ id, id < B → id ≠ M → H'[id]? = H[id]?) ∧ (lo' = lo ∨ lo' = joinLo lo (some B)) := by
    intro b h; rw [h]; exact ⟨H, lo, rfl, hP, by omega, fun _ _ _ => rfl, .inl rfl⟩
  cases fnd with
  | false =>
    obtain ⟨r, hr1, hr2, hr3⟩ := line1_D s1 (by omega) H none
    have hlp : lineP s line st = if wd s1 [] = [] then (true, st) else instrS (wd s1 []) line st := by
      unfold lineP; rw [hs1, hc]; rfl
    by_cases hw : wd s1 [] = []
    · have hlen : lenA ⟨H, none⟩ .sl r = some (.int .i64 0) := by rw [hr2.lenM, hw]; rfl
      simp (maxSteps := 2000000) (disch := omega) only [F1, ↓Int.cast_ofNat_Int, ↓R1, R2, C1, P1, O1, V1, V2, V3, reduceCtorEq, Nat.reduceEqDiff, Nat.reduceBEq, Nat.reduceAdd, Nat.reduceSub, Nat.reduceMul, Nat.reduceLeDiff, Nat.reduceLT, Int.reduceEq, Int.reduceAdd, Int.reduceSub, Int.reduceMul, Int.reduceLT, Int.reduceLE, Int.reduceNeg, Int.reduceToNat, wrap_i64, wrap_u64, wrap_u8, wrap_u16, wrap_u32, wrap_i32, base_get0, base_get, base_set0, base_set, base_take, take_self, take_app1, pf_Pasm_parser_line, c1, c2, hr1, hlen, hN]
      exact stay _ (by rw [hlp, if_pos hw])
    · have hlen : lenA ⟨H, none⟩ .sl r = some (.int .i64 (wd s1 []).length) := by rw [hr2.lenM]; try simp [ls]
      have hlp2 : lineP s line st = instrS (wd s1 []) line st := hlp.trans (if_neg hw)
      have hne : ¬ ((wd s1 []).length : Int) = 0 := by have := List.length_pos_iff.2 hw; omega
      obtain ⟨H', lo', i1, i2, i3, i4, i5⟩ := instr_D B M r (wd s1 []) line st H none hP hr2 (fun w hw => by have := (wd_len s1 []).1 w hw; simp at this; omega) hpl hul hli (by have := (wd_len s1 []).2; omega)
      simp (maxSteps := 2000000) (disch := omega) only [F1, ↓Int.cast_ofNat_Int, ↓R1, R2, C1, P1, O1, V1, V2, V3, reduceCtorEq, Nat.reduceEqDiff, Nat.reduceBEq, Nat.reduceAdd, Nat.reduceSub, Nat.reduceMul, Nat.reduceLeDiff, Nat.reduceLT, Int.reduceEq, Int.reduceAdd, Int.reduceSub, Int.reduceMul, Int.reduceLT, Int.reduceLE, Int.reduceNeg, Int.reduceToNat, wrap_i64, wrap_u64, wrap_u8, wrap_u16, wrap_u32, wrap_i32, base_get0, base_get, base_set0, base_set, base_take, take_self, take_app1, pf_Pasm_parser_line, c1, c2, hr1, hlen, hne, i1, hN]
      rw [hlp2]
      obtain ⟨lo2, f1, f2⟩ := fin_two (instrS (wd s1 []) line st).1 (i5.imp (fun h => ⟨by rw [h.1, hN], h.2⟩) id) hBN (lo := lo) (H' := H') (lo' := lo')
      rw [f1]
      exact ⟨_, _, rfl, i2, by omega, fun id hid _ => i4 id hid, f2⟩
  | true =>
    obtain ⟨r, hr1, hr2, hr3⟩ := line1_D s2 (by omega) H none
    obtain ⟨w, hw⟩ : ∃ w, wd s2 [] = w := ⟨_, rfl⟩
    have hwl := wd_len s2 []
    rw [hw] at hr2 hwl
    have hr2' : Rv r 1 (w.map fun x => [S x]) := hr2
    have hdef : (default : List UInt8) = [] := rfl
    have hlp : lineP s line st = if w.length ≠ 1 ∨ labS (w.getD 0 []) = false then (false, st) else
      if (lookupS (w.getD 0 []) st.labels).isSome then (false, st) else
      if wd s3 [] = [] then (true, { st with labels := st.labels ++ [(w.getD 0 [], st.prog.length)] })
      else instrS (wd s3 []) line { st with labels := st.labels ++ [(w.getD 0 [], st.prog.length)] } := by
      unfold lineP; rw [hs1, hc]; simp only [if_true, hw]
    have hlab : w.length = 1 → ∀ H lo, D X (.fn (.func fn_asm_labelled) [] []) [S (w.getD 0 [])] ⟨H, lo⟩ = some (.ret (.bool (labS (w.getD 0 []))) ⟨H, lo⟩) := fun h => labelled_D _ (by
      have : w.getD 0 [] ∈ w := by rw [List.getD_eq_getElem?_getD, List.getElem?_eq_getElem (by omega)]; exact List.getElem_mem _
      have := hwl.1 _ this; simp only [List.length_nil, Nat.add_zero] at this; omega)
    by_cases hw1 : w.length = 1
    · have hlab := hlab hw1
      have hw1' : (w.length : Int) = 1 := by omega
      cases hlb : labS (w.getD 0 []) with
      | false =>
        simp (maxSteps := 2000000) (disch := omega) only [F1, ↓Int.cast_ofNat_Int, ↓R1, R2, C1, P1, O1, V1, V2, V3, reduceCtorEq, Nat.reduceEqDiff, Nat.reduceBEq, Nat.reduceAdd, Nat.reduceSub, Nat.reduceMul, Nat.reduceLeDiff, Nat.reduceLT, Int.reduceEq, Int.reduceAdd, Int.reduceSub, Int.reduceMul, Int.reduceLT, Int.reduceLE, Int.reduceNeg, Int.reduceToNat, wrap_i64, wrap_u64, wrap_u8, wrap_u16, wrap_u32, wrap_i32, base_get0, base_get, base_set0, base_set, base_take, take_self, take_app1, pf_Pasm_parser_line, c1, c2, hr1, hr2'.lenM, hr2'.addrM, hr2'.loadM, hr2'.fpLM, hw1', hdef, hlab, hlb, hN]
        exact stay _ (by rw [hlp, if_pos (.inr hlb)])
      | true =>
        have hlp1 : lineP s line st = _ := hlp.trans (if_neg (by rw [hlb]; simp [hw1]))
        obtain ⟨vl, vu, b1, b2, b3, b4, b5⟩ := hP.box
        have b3' : H[M]? = some (.map (st.labels.map lab)) := b3
        have hlv := (b4.rd (lo := none)).lenM
        cases hk : lookupS (w.getD 0 []) st.labels with
        | some k =>
          have hlk : lookupA ⟨H, none⟩ .str (.int .i64 0) (.mp M) (S (w.getD 0 [])) true = some (.tup [.int .i64 k, .bool true]) := by
            simp only [lookupA, mapOf, b3', find_lab, hk]; rfl
          simp (maxSteps := 2000000) (disch := omega) only [F1, ↓Int.cast_ofNat_Int, ↓R1, R2, C1, P1, O1, V1, V2, V3, reduceCtorEq, Nat.reduceEqDiff, Nat.reduceBEq, Nat.reduceAdd, Nat.reduceSub, Nat.reduceMul, Nat.reduceLeDiff, Nat.reduceLT, Int.reduceEq, Int.reduceAdd, Int.reduceSub, Int.reduceMul, Int.reduceLT, Int.reduceLE, Int.reduceNeg, Int.reduceToNat, wrap_i64, wrap_u64, wrap_u8, wrap_u16, wrap_u32, wrap_i32, base_get0, base_get, base_set0, base_set, base_take, take_self, take_app1, pf_Pasm_parser_line, c1, c2, hr1, hr2'.lenM, hr2'.addrM, hr2'.loadM, hr2'.fpLM, hw1', hdef, hlab, hlb, hN, b1, hlk]
          exact stay _ (by rw [hlp1, if_pos (by rw [hk]; rfl)])
        | none =>
          have hlk : lookupA ⟨H, none⟩ .str (.int .i64 0) (.mp M) (S (w.getD 0 [])) true = some (.tup [.int .i64 0, .bool false]) := by
            simp only [lookupA, mapOf, b3', find_lab, hk]; rfl
          obtain ⟨H2, hH2⟩ : ∃ H2, H.set M (.map ((st.labels ++ [(w.getD 0 [], st.prog.length)]).map lab)) = H2 := ⟨_, rfl⟩
          have hpt : mputA ⟨H, none⟩ .str (.mp M) (S (w.getD 0 [])) (.int .i64 st.prog.length) = some ⟨H2, none⟩ := by
            simp only [mputA, b3', put_lab _ _ _ hk]
            rw [← hH2]; rfl
          have hlp2 : lineP s line st = _ := hlp1.trans (if_neg (by rw [hk]; simp))
          have hP2 := hP.addL (w.getD 0 []) st.prog.length
          rw [hH2] at hP2
          have hN2 : H2.length = N := by rw [← hH2, List.length_set, hN]
          obtain ⟨r3, hr31, hr32, hr33⟩ := line1_D s3 (by omega) H2 none
          have hfr : ∀ id, id < B → id ≠ M → H2[id]? = H[id]? := fun id _ hid => by rw [← hH2, List.getElem?_set_ne (fun e => hid e.symm)]
          by_cases hw3 : wd s3 [] = []
          · have hlen : lenA ⟨H2, none⟩ .sl r3 = some (.int .i64 0) := by rw [hr32.lenM, hw3]; rfl
            simp (maxSteps := 2000000) (disch := omega) only [F1, ↓Int.cast_ofNat_Int, ↓R1, R2, C1, P1, O1, V1, V2, V3, reduceCtorEq, Nat.reduceEqDiff, Nat.reduceBEq, Nat.reduceAdd, Nat.reduceSub, Nat.reduceMul, Nat.reduceLeDiff, Nat.reduceLT, Int.reduceEq, Int.reduceAdd, Int.reduceSub, Int.reduceMul, Int.reduceLT, Int.reduceLE, Int.reduceNeg, Int.reduceToNat, wrap_i64, wrap_u64, wrap_u8, wrap_u16, wrap_u32, wrap_i32, base_get0, base_get, base_set0, base_set, base_take, take_self, take_app1, pf_Pasm_parser_line, c1, c2, hr1, hr2'.lenM, hr2'.addrM, hr2'.loadM, hr2'.fpLM, hw1', hdef, hlab, hlb, hN, b1, hlk, hlv, hpt, hr31, hlen, take_self hN2]
            rw [hlp2, if_pos hw3]
            exact ⟨_, _, rfl, hP2, by omega, hfr, .inl rfl⟩
          · have hlen : lenA ⟨H2, none⟩ .sl r3 = some (.int .i64 (wd s3 []).length) := by rw [hr32.lenM]; try simp [ls]
            have hne : ¬ ((wd s3 []).length : Int) = 0 := by have := List.length_pos_iff.2 hw3; omega
            obtain ⟨H', lo', i1, i2, i3, i4, i5⟩ := instr_D B M r3 (wd s3 []) line _ H2 none hP2 hr32 (fun w hw => by have := (wd_len s3 []).1 w hw; simp at this; omega) hpl hul hli (by have := (wd_len s3 []).2; omega)
            simp (maxSteps := 2000000) (disch := omega) only [F1, ↓Int.cast_ofNat_Int, ↓R1, R2, C1, P1, O1, V1, V2, V3, reduceCtorEq, Nat.reduceEqDiff, Nat.reduceBEq, Nat.reduceAdd, Nat.reduceSub, Nat.reduceMul, Nat.reduceLeDiff, Nat.reduceLT, Int.reduceEq, Int.reduceAdd, Int.reduceSub, Int.reduceMul, Int.reduceLT, Int.reduceLE, Int.reduceNeg, Int.reduceToNat, wrap_i64, wrap_u64, wrap_u8, wrap_u16, wrap_u32, wrap_i32, base_get0, base_get, base_set0, base_set, base_take, take_self, take_app1, pf_Pasm_parser_line, c1, c2, hr1, hr2'.lenM, hr2'.addrM, hr2'.loadM, hr2'.fpLM, hw1', hdef, hlab, hlb, hN, b1, hlk, hlv, hpt, hr31, hlen, hne, i1]
            rw [hlp2, if_neg hw3]
            obtain ⟨lo2, f1, f2⟩ := fin_two (instrS (wd s3 []) line { st with labels := st.labels ++ [(w.getD 0 [], st.prog.length)] }).1 (i5.imp (fun h => ⟨by rw [h.1, hN2], h.2⟩) id) hBN (lo := lo) (H' := H') (lo' := lo')
            rw [f1]
            exact ⟨_, _, rfl, i2, by omega, fun id hid hm => (i4 id hid).trans (hfr id hid hm), f2⟩
    · have hw1' : ¬ (w.length : Int) = 1 := by omega
      simp (maxSteps := 2000000) (disch := omega) only [F1, ↓Int.cast_ofNat_Int, ↓R1, R2, C1, P1, O1, V1, V2, V3, reduceCtorEq, Nat.reduceEqDiff, Nat.reduceBEq, Nat.reduceAdd, Nat.reduceSub, Nat.reduceMul, Nat.reduceLeDiff, Nat.reduceLT, Int.reduceEq, Int.reduceAdd, Int.reduceSub, Int.reduceMul, Int.reduceLT, Int.reduceLE, Int.reduceNeg, Int.reduceToNat, wrap_i64, wrap_u64, wrap_u8, wrap_u16, wrap_u32, wrap_i32, base_get0, base_get, base_set0, base_set, base_take, take_self, take_app1, pf_Pasm_parser_line, c1, c2, hr1, hr2'.lenM, hw1', hN]
      exact stay _ (by rw [hlp, if_pos (.inl hw1)])

end Go.Proofs.YtoolhdikfdjikaaDoor

/- A text is read: what Parse computes, and its bounds. -/
namespace Go.Proofs.YtoolhdikfdjikaaDoor
open Go Go.Den
set_option maxRecDepth 10000

def linesP : List (List UInt8) → Nat → PS → Nat × PS
  | [], _, st => (0, st)
  | s :: r, k, st => if (lineP s (k + 1) st).1 then linesP r (k + 1) (lineP s (k + 1) st).2 else (k + 1, (lineP s (k + 1) st).2)

/-- Labels are put in. -/
def resP (L : List (List UInt8 × Nat)) : List (List UInt8 × Nat × Nat) → Nat → List Instr → Nat × List Instr
  | [], bad, prog => (bad, prog)
  | u :: r, bad, prog =>
    if bad = 0 then
      match lookupS u.1 L with
      | some k => if prog.length ≤ k then resP L r u.2.1 prog else resP L r 0 (prog.set u.2.2 { prog.getD u.2.2 ⟨0, 0, 0, 0, 0⟩ with n := k % 65536 })
      | none => resP L r u.2.1 prog
    else resP L r bad prog

def parseS (t : List UInt8) : List Instr × Nat × Nat :=
  let q := linesP (splitS 10 t) 0 ⟨[], [], []⟩
  let p := resP q.2.labels q.2.uses q.1 q.2.prog
  if p.1 > 0 then ([], p.1, 3) else if p.2.length > 64 then ([], 0, 8) else (p.2, 0, 0)

/-- What stays bounded. -/
structure PS.ok (st : PS) (k : Nat) : Prop where
  prog : st.prog.length ≤ k
  uses : st.uses.length ≤ k
  ats : ∀ u ∈ st.uses, u.2.2 < st.prog.length
  lines : ∀ u ∈ st.uses, u.2.1 ≤ k

theorem PS.ok.mono {st : PS} {k k' : Nat} (h : st.ok k) (hk : k ≤ k') : st.ok k' :=
  ⟨Nat.le_trans h.prog hk, Nat.le_trans h.uses hk, h.ats, fun u hu => Nat.le_trans (h.lines u hu) hk⟩

theorem instrS_ok {ws : List (List UInt8)} {line k : Nat} {st : PS} (h : st.ok k) (hl : line ≤ k + 1) : (instrS ws line st).2.ok (k + 1) := by
  have h' := h.mono (Nat.le_succ k)
  unfold instrS
  split
  · exact h'
  split
  · split
    · exact h'
    split
    · refine ⟨by simp; exact h.prog, by simp; exact h.uses, fun u hu => ?_, fun u hu => ?_⟩
      · rcases List.mem_append.1 hu with hu | hu
        · have := h.ats u hu; simp; omega
        · rw [List.mem_singleton.1 hu]; simp
      · rcases List.mem_append.1 hu with hu | hu
        · exact h'.lines u hu
        · rw [List.mem_singleton.1 hu]; exact hl
    · exact ⟨by simp; exact h.prog, h'.uses, fun u hu => by have := h.ats u hu; simp; omega, h'.lines⟩
  · exact h'

theorem lineP_ok {s : List UInt8} {line k : Nat} {st : PS} (h : st.ok k) (hl : line ≤ k + 1) : (lineP s line st).2.ok (k + 1) := by
  have h' := h.mono (Nat.le_succ k)
  have hL : ∀ L, PS.ok { st with labels := L } k := fun L => ⟨h.prog, h.uses, h.ats, h.lines⟩
  unfold lineP
  simp only
  split
  · split
    · exact h'
    split
    · exact h'
    split
    · exact (hL _).mono (Nat.le_succ k)
    · exact instrS_ok (hL _) hl
  · split
    · exact h'
    · exact instrS_ok h hl

end Go.Proofs.YtoolhdikfdjikaaDoor

/- Parse's walk. -/
namespace Go.Proofs.YtoolhdikfdjikaaDoor
open Go Go.Den
set_option maxRecDepth 10000

def exK (i : Nat) (P : Env → List AObj → Option Nat → Prop) : Post := fun ex fr σ => ex = .exit i ∧ fr.marks = [] ∧ P fr.env σ.heap σ.lo
theorem exK_exit {i : Nat} {P : Env → List AObj → Option Nat → Prop} {e : Env} {H : List AObj} {lo : Option Nat} : exK i P (.exit i) ⟨e, []⟩ ⟨H, lo⟩ = P e H lo := by simp [exK]
theorem wp_exL {X : Ctx} {f : FuncId} {rd : Bool} {b : PC} {e : Env} {H : List AObj} {lo : Option Nat} {Q : Post} (i : Nat) (P : Env → List AObj → Option Nat → Prop) (h1 : wp X f rd (.loop b) ⟨e, []⟩ ⟨H, lo⟩ (exK i P)) (h2 : ∀ e H lo, P e H lo → Q (.exit i) ⟨e, []⟩ ⟨H, lo⟩) : wp X f rd (.loop b) ⟨e, []⟩ ⟨H, lo⟩ Q := by
  refine Go.Den.wp_mono h1 ?_
  rintro ex ⟨e', ms⟩ ⟨H, lo⟩ ⟨rfl, h, h'⟩
  simp only at h
  subst h
  exact h2 _ _ _ h'

theorem splitS_len (c : UInt8) : ∀ l : List UInt8, (∀ w ∈ splitS c l, w.length ≤ l.length) ∧ (splitS c l).length ≤ l.length + 1
  | [] => by simp [splitS]
  | b :: bs => by
    have ih := splitS_len c bs
    unfold splitS
    split
    · refine ⟨fun w hw => ?_, by simp; exact ih.2⟩
      rcases List.mem_cons.1 hw with rfl | hw
      · simp
      · have := ih.1 w hw; simp; omega
    · split
      · rename_i x xs hx
        rw [hx] at ih
        refine ⟨fun w hw => ?_, by have := ih.2; simp at this ⊢; omega⟩
        rcases List.mem_cons.1 hw with rfl | hw
        · have := ih.1 x (by simp); simp; exact this
        · have := ih.1 w (by simp [hw]); simp; omega
      · exact ⟨by simp, by simp⟩

theorem linesP_at {L : List (List UInt8)} {k : Nat} {st : PS} (hk : k < L.length) : linesP (L.drop k) k st = if (lineP (L.getD k []) (k + 1) st).1 then linesP (L.drop (k + 1)) (k + 1) (lineP (L.getD k []) (k + 1) st).2 else (k + 1, (lineP (L.getD k []) (k + 1) st).2) := by
  rw [List.drop_eq_getElem_cons hk, List.getD_eq_getElem?_getD, List.getElem?_eq_getElem hk]; rfl

/-- One of the program's operands is set. -/
theorem Prs.setN {H : List AObj} {B M : Nat} {st : PS} (h : Prs H B M st) (i n : Nat) (hi : i < st.prog.length) (lo : Option Nat) :
    ∃ vl vu id ver H1, H[B]? = some (.box [vl, .mp M, vu] none) ∧ iaddrsA 5 vl (.int .i64 i) = some (.rptr id ver i 0) ∧ storeA ⟨H, lo⟩ 1 (.rptr id ver i 4) (.int .u16 n) = some ⟨H1, lo⟩ ∧
      Prs H1 B M { st with prog := st.prog.set i { st.prog.getD i ⟨0, 0, 0, 0, 0⟩ with n := n } } ∧ H1.length = H.length ∧ (∀ j, j ≤ B → H1[j]? = H[j]?) := by
  obtain ⟨vl, vu, h1, h2, h3, ⟨q1, q2⟩, h5⟩ := h.box
  rcases q2 with ⟨_, q2⟩ | ⟨id, ver, e1, rfl, e3⟩
  · have := congrArg List.length q2; simp at this; rw [this] at hi; exact absurd hi (by simp)
  have hlen := (List.getElem?_eq_some_iff.1 e3).1
  have hgi : (st.prog.map I5)[i]? = some (I5 (st.prog.getD i ⟨0, 0, 0, 0, 0⟩)) := by
    rw [List.getElem?_map, List.getElem?_eq_getElem hi, List.getD_eq_getElem?_getD, List.getElem?_eq_getElem hi]; rfl
  have hset : (st.prog.set i { st.prog.getD i ⟨0, 0, 0, 0, 0⟩ with n := n }).map I5 = (st.prog.map I5).set i (I5 { st.prog.getD i ⟨0, 0, 0, 0, 0⟩ with n := n }) := by rw [List.map_set]
  refine ⟨_, vu, id, ver, H.set id (.row ver 5 ty_code_Instr ((st.prog.map I5).set i (I5 { st.prog.getD i ⟨0, 0, 0, 0, 0⟩ with n := n }))), h1, ?_, ?_, ⟨_, vu, ?_, h2, ?_, ⟨?_, .inr ⟨id, ver, e1, rfl, ?_⟩⟩, ?_⟩, by simp, ?_⟩
  · simp only [iaddrsA, intOf?]
    rw [if_pos ⟨by omega, by simp; omega, trivial⟩, Int.toNat_natCast, Nat.zero_add]
  · simp only [storeA, e3, hgi]
    rw [if_pos ⟨trivial, rfl, rfl, rfl, Nat.le_refl 5⟩]
    rfl
  · rw [List.getElem?_set_ne (by omega)]; simpa using h1
  · rw [List.getElem?_set_ne (by omega)]; exact h3
  · rw [hset]; intro el hel
    rcases List.mem_or_eq_of_mem_set hel with hel | rfl
    · exact q1 _ hel
    · rfl
  · rw [hset]; simp [hlen]
  · obtain ⟨w1, w2⟩ := h5
    refine ⟨w1, ?_⟩
    rcases w2 with w2 | ⟨id', ver', f1, f2, f3⟩
    · exact .inl w2
    · refine .inr ⟨id', ver', f1, f2, ?_⟩
      have : id ≠ id' := by rintro rfl; rw [e3] at f3; cases f3
      rw [List.getElem?_set_ne this]; exact f3
  · intro j hj; rw [List.getElem?_set_ne (by omega)]

theorem fin_low {N : Nat} {lo lo2 : Option Nat} {H2 : List AObj} {v : AV} (h : lo2 = none ∨ lo2 = some (N + 1)) (hv : v.refs ≤ N) : finish N lo v ⟨H2, lo2⟩ = (v, ⟨H2.take N, lo⟩) := by
  rcases h with rfl | rfl
  · rw [finish_0, if_pos hv]
  · rw [finish_1, if_pos (by omega), if_pos hv]

theorem fin_own {N : Nat} {lo lo2 : Option Nat} {H : List AObj} {v b c : AV} {sz : Nat} {ty : TypeId} {els : List (List AV)} (h0 : lo2 = none ∨ lo2 = some (N + 1)) (h : Own N H v sz ty els) (hr : refsLL els ≤ N) (hb : b.refs ≤ N) (hc : c.refs ≤ N) : finish N lo (.tup [v, b, c]) ⟨H, lo2⟩ = (.tup [frz v els, b, c], ⟨H.take N, lo⟩) := by
  refine finish_eq (by rcases h0 with rfl | rfl <;> simp) ?_
  rw [freeze_tup]
  have e1 : freezeL ⟨H, lo2⟩ N 11 [v, b, c] = some [frz v els, b, c] := by
    rw [freezeL, h.freeze hr]; simp only
    rw [freezeL, freeze_low hb]; simp only
    rw [freezeL, freeze_low hc]; simp only
    rw [freezeL]
  rw [e1]
  split
  · rename_i hle
    have hv : frz v els = v := by
      obtain ⟨h1, h2⟩ := h
      rcases h2 with ⟨rfl, rfl⟩ | ⟨id, ver, hn, rfl, hr'⟩
      · rfl
      · simp only [AV.refs, refsL] at hle; omega
    rw [hv]
  · rfl

theorem own_mono {N N' : Nat} {H : List AObj} {v : AV} {sz : Nat} {ty : TypeId} {els : List (List AV)} (h : Own N H v sz ty els) (hn : N' ≤ N) : Own N' H v sz ty els := by
  obtain ⟨q1, q2⟩ := h
  refine ⟨q1, ?_⟩
  rcases q2 with q2 | ⟨id, ver, e1, e2, e3⟩
  · exact .inl q2
  · exact .inr ⟨id, ver, by omega, e2, e3⟩

theorem Parse_D (t : List UInt8) (ht : t.length ≤ 1000000) (H : List AObj) (lo : Option Nat) :
    ∃ r, D X (.fn (.func fn_asm_Parse) [] []) [S t] ⟨H, lo⟩ = some (.ret (.tup [r, .int .i64 (parseS t).2.1, .int .i64 (parseS t).2.2]) ⟨H, lo⟩) ∧ Rv r 5 ((parseS t).1.map I5) ∧ r.refs = 0 := by
  suffices h : ∃ cr, D X (.fn (.func fn_asm_Parse) [] []) [S t] ⟨H, lo⟩ = some cr ∧ (fun cr => ∃ r, cr = CRes.ret (.tup [r, .int .i64 (parseS t).2.1, .int .i64 (parseS t).2.2]) ⟨H, lo⟩ ∧ Rv r 5 ((parseS t).1.map I5) ∧ r.refs = 0) cr by
    obtain ⟨cr, h1, r, rfl, h2⟩ := h
    exact ⟨r, h1, h2⟩
  refine D_fn_ex pf_asm_Parse rfl rfl rfl fun N hN => ?_
  obtain ⟨r, hr1, hr2⟩ := Split_D t 10 (by omega) (H ++ [.map [], .box [.nils, .mp N, .nils] none]) none
  have hsl := splitS_len 10 t
  obtain ⟨L, hL⟩ : ∃ L, splitS 10 t = L := ⟨_, rfl⟩
  rw [hL] at hr2 hsl
  have hr2' : Rv r 1 (L.map fun x => [S x]) := hr2
  have hdef : (default : List UInt8) = [] := rfl
  simp (maxSteps := 2000000) (disch := omega) only [F1, ↓Int.cast_ofNat_Int, ↓R1, R2, C1, P1, O1, V1, V2, V3, reduceCtorEq, Nat.reduceEqDiff, Nat.reduceBEq, Nat.reduceAdd, Nat.reduceSub, Nat.reduceMul, Nat.reduceLeDiff, Nat.reduceLT, Int.reduceEq, Int.reduceAdd, Int.reduceSub, Int.reduceMul, Int.reduceLT, Int.reduceLE, Int.reduceNeg, Int.reduceToNat, wrap_i64, wrap_u64, wrap_u8, wrap_u16, wrap_u32, wrap_i32, base_get0, base_get, base_set0, base_set, base_take, take_self, take_app1, pf_asm_Parse, hr1, hr2'.lenM, hN]
  refine wp_exL 0 (fun e H' lo' => ∃ bad st, linesP L 0 ⟨[], [], []⟩ = (bad, st) ∧ Prs H' (N + 1) N st ∧ st.ok L.length ∧ e 5 = .ptr (N + 1) 0 ∧ e 6 = .int .i64 (bad : Nat) ∧ (lo' = none ∨ lo' = some (N + 1)) ∧ (∀ id, id < N → H'[id]? = H[id]?) ∧ N + 2 ≤ H'.length ∧ bad ≤ L.length) ?_ ?_
  · refine wp_loopL L.length (fun k e H' lo' => ∃ st, linesP L 0 ⟨[], [], []⟩ = linesP (L.drop k) k st ∧ Prs H' (N + 1) N st ∧ st.ok k ∧ e 5 = .ptr (N + 1) 0 ∧ e 6 = .int .i64 0 ∧ e 17 = r ∧ e 18 = .int .i64 L.length ∧ e 19 = .int .i64 k ∧ (lo' = none ∨ lo' = some (N + 1)) ∧ (∀ id, id < N → H'[id]? = H[id]?) ∧ N + 2 ≤ H'.length) 0 (by omega) ?_ ?_
    · simp (maxSteps := 2000000) (disch := omega) only [F1, ↓Int.cast_ofNat_Int, ↓R1, R2, C1, P1, O1, V1, V2, V3, reduceCtorEq, Nat.reduceEqDiff, Nat.reduceBEq, Nat.reduceAdd, Nat.reduceSub, Nat.reduceMul, Nat.reduceLeDiff, Nat.reduceLT, Int.reduceEq, Int.reduceAdd, Int.reduceSub, Int.reduceMul, Int.reduceLT, Int.reduceLE, Int.reduceNeg, Int.reduceToNat, wrap_i64, wrap_u64, wrap_u8, wrap_u16, wrap_u32, wrap_i32, base_get0, base_get, base_set0, base_set, base_take, take_self, take_app1]
      exact ⟨⟨[], [], []⟩, rfl, ⟨.nils, .nils, by rw [List.getElem?_append_right (by omega), hN]; simp, by omega, by rw [List.getElem?_append_right (by omega), hN]; simp, Own.nils, Own.nils⟩, ⟨by simp, by simp, by simp, by simp⟩, .inl trivial, fun id hid => by rw [List.getElem?_append_left (by omega)], by omega⟩
    · rintro k hk e H' lo' ⟨st, hst, hP, hok, h5, h6, h17, h18, h19, hlo, hfr, hlen⟩ n hn
      by_cases hlt : k < L.length
      · have hlt' : (k : Int) < L.length := by omega
        have hmem : L.getD k [] ∈ L := by rw [List.getD_eq_getElem?_getD, List.getElem?_eq_getElem hlt]; exact List.getElem_mem _
        obtain ⟨H2, lo2, q1, q2, q3, q4, q5⟩ := line_D (N + 1) N (L.getD k []) (k + 1) st H' lo' hP (by have := hsl.1 _ hmem; omega) (by have := hok.prog; omega) (by have := hok.uses; omega) (by omega)
        have hcast : ((k + 1 : Nat) : Int) = (k : Int) + 1 := rfl
        rw [hcast] at q1
        have hlo2 : lo2 = none ∨ lo2 = some (N + 1) := by
          rcases q5 with rfl | rfl
          · exact hlo
          · rcases hlo with rfl | rfl
            · exact .inr rfl
            · right; simp [joinLo, minLo]
        rw [linesP_at hlt] at hst
        cases hb : (lineP (L.getD k []) (k + 1) st).1 with
        | false =>
          rw [hb] at q1 hst
          simp (maxSteps := 2000000) (disch := omega) only [F1, ↓Int.cast_ofNat_Int, ↓R1, R2, C1, P1, O1, V1, V2, V3, reduceCtorEq, Nat.reduceEqDiff, Nat.reduceBEq, Nat.reduceAdd, Nat.reduceSub, Nat.reduceMul, Nat.reduceLeDiff, Nat.reduceLT, Int.reduceEq, Int.reduceAdd, Int.reduceSub, Int.reduceMul, Int.reduceLT, Int.reduceLE, Int.reduceNeg, Int.reduceToNat, wrap_i64, wrap_u64, wrap_u8, wrap_u16, wrap_u32, wrap_i32, base_get0, base_get, base_set0, base_set, base_take, take_self, take_app1, l1_asm_Parse, h5, h6, h17, h18, h19, hlt', hr2'.addrM, hr2'.loadM, hr2'.fpLM, hdef, q1, forL_exit, exK_exit]
          exact ⟨k + 1, _, hst.trans (if_neg (by simp)), q2, (lineP_ok hok (by omega)).mono (by omega), rfl, hlo2, fun id hid => (q4 id (by omega) (by omega)).trans (hfr id hid), by omega, by omega⟩
        | true =>
          rw [hb] at q1 hst
          simp (maxSteps := 2000000) (disch := omega) only [F1, ↓Int.cast_ofNat_Int, ↓R1, R2, C1, P1, O1, V1, V2, V3, reduceCtorEq, Nat.reduceEqDiff, Nat.reduceBEq, Nat.reduceAdd, Nat.reduceSub, Nat.reduceMul, Nat.reduceLeDiff, Nat.reduceLT, Int.reduceEq, Int.reduceAdd, Int.reduceSub, Int.reduceMul, Int.reduceLT, Int.reduceLE, Int.reduceNeg, Int.reduceToNat, wrap_i64, wrap_u64, wrap_u8, wrap_u16, wrap_u32, wrap_i32, base_get0, base_get, base_set0, base_set, base_take, take_self, take_app1, l1_asm_Parse, h5, h6, h17, h18, h19, hlt', hr2'.addrM, hr2'.loadM, hr2'.fpLM, hdef, q1, forL_normal]
          exact ⟨hlt, _, hst.trans (if_pos rfl), q2, lineP_ok hok (by omega), hlo2, fun id hid => (q4 id (by omega) (by omega)).trans (hfr id hid), by omega⟩
      · have hkm : k = L.length := by omega
        subst hkm
        have hnl : ¬ (L.length : Int) < L.length := by omega
        simp (maxSteps := 2000000) (disch := omega) only [F1, ↓Int.cast_ofNat_Int, ↓R1, R2, C1, P1, O1, V1, V2, V3, reduceCtorEq, Nat.reduceEqDiff, Nat.reduceBEq, Nat.reduceAdd, Nat.reduceSub, Nat.reduceMul, Nat.reduceLeDiff, Nat.reduceLT, Int.reduceEq, Int.reduceAdd, Int.reduceSub, Int.reduceMul, Int.reduceLT, Int.reduceLE, Int.reduceNeg, Int.reduceToNat, wrap_i64, wrap_u64, wrap_u8, wrap_u16, wrap_u32, wrap_i32, base_get0, base_get, base_set0, base_set, base_take, take_self, take_app1, l1_asm_Parse, h18, h19, hnl, forL_exit, exK_exit]
        exact ⟨0, st, by rw [hst, List.drop_length]; rfl, hP, hok, h5, h6, hlo, hfr, hlen, by omega⟩
  · rintro e H' lo' ⟨bad, st, hst, hP, hok, h5, h6, hlo, hfr, hlen, hbad⟩
    obtain ⟨vl, vu, b1, b2, b3, b4, b5⟩ := hP.box
    have hlu := (b5.rd (lo := lo')).lenM
    simp (maxSteps := 2000000) (disch := omega) only [F1, ↓Int.cast_ofNat_Int, ↓R1, R2, C1, P1, O1, V1, V2, V3, reduceCtorEq, Nat.reduceEqDiff, Nat.reduceBEq, Nat.reduceAdd, Nat.reduceSub, Nat.reduceMul, Nat.reduceLeDiff, Nat.reduceLT, Int.reduceEq, Int.reduceAdd, Int.reduceSub, Int.reduceMul, Int.reduceLT, Int.reduceLE, Int.reduceNeg, Int.reduceToNat, wrap_i64, wrap_u64, wrap_u8, wrap_u16, wrap_u32, wrap_i32, base_get0, base_get, base_set0, base_set, base_take, take_self, take_app1, h5, h6, b1, hlu]
    refine wp_exL 2 (fun e H2 lo2 => ∃ bad' prog', resP st.labels st.uses bad st.prog = (bad', prog') ∧ Prs H2 (N + 1) N { st with prog := prog' } ∧ prog'.length = st.prog.length ∧ e 5 = .ptr (N + 1) 0 ∧ e 6 = .int .i64 (bad' : Nat) ∧ (lo2 = none ∨ lo2 = some (N + 1)) ∧ (∀ id, id < N → H2[id]? = H[id]?) ∧ N + 2 ≤ H2.length) ?_ ?_
    · refine wp_loopL st.uses.length (fun k e H2 lo2 => ∃ bad' prog', resP st.labels st.uses bad st.prog = resP st.labels (st.uses.drop k) bad' prog' ∧ Prs H2 (N + 1) N { st with prog := prog' } ∧ prog'.length = st.prog.length ∧ e 5 = .ptr (N + 1) 0 ∧ e 6 = .int .i64 (bad' : Nat) ∧ e 36 = vu ∧ e 37 = .int .i64 st.uses.length ∧ e 38 = .int .i64 k ∧ (lo2 = none ∨ lo2 = some (N + 1)) ∧ H2[N + 1]? = some (.box [vl, .mp N, vu] none) ∧ (∀ id, id < N → H2[id]? = H[id]?) ∧ N + 2 ≤ H2.length) 0 (by omega) ?_ ?_
      · simp (maxSteps := 2000000) (disch := omega) only [F1, ↓Int.cast_ofNat_Int, ↓R1, R2, C1, P1, O1, V1, V2, V3, reduceCtorEq, Nat.reduceEqDiff, Nat.reduceBEq, Nat.reduceAdd, Nat.reduceSub, Nat.reduceMul, Nat.reduceLeDiff, Nat.reduceLT, Int.reduceEq, Int.reduceAdd, Int.reduceSub, Int.reduceMul, Int.reduceLT, Int.reduceLE, Int.reduceNeg, Int.reduceToNat, wrap_i64, wrap_u64, wrap_u8, wrap_u16, wrap_u32, wrap_i32, base_get0, base_get, base_set0, base_set, base_take, take_self, take_app1, h5, h6]
        exact ⟨bad, st.prog, rfl, hP, rfl, rfl, hlo, b1, hfr, hlen⟩
      · clear h5 h6 hlu
        rintro k hk e H2 lo2 ⟨bad', prog', hrs, hP2, hpl, h5, h6, h36, h37, h38, hlo2, hbx, hfr2, hlen2⟩ n hn
        by_cases hlt : k < st.uses.length
        · have hlt' : (k : Int) < st.uses.length := by omega
          obtain ⟨u, hu⟩ : ∃ u, st.uses.getD k ([], 0, 0) = u := ⟨_, rfl⟩
          have hgu : st.uses[k] = u := by rw [← hu, List.getD_eq_getElem?_getD, List.getElem?_eq_getElem hlt]; rfl
          have humem : u ∈ st.uses := hgu ▸ List.getElem_mem hlt
          have hat := hok.ats u humem
          obtain ⟨vl2, vu2, d1, d2, d3, d4, d5⟩ := hP2.box
          have hvv : vl2 = vl ∧ vu2 = vu := by rw [hbx] at d1; cases d1; exact ⟨rfl, rfl⟩
          obtain ⟨rfl, rfl⟩ := hvv
          have hrd := d5.rd (lo := lo2)
          have hadr : iaddrsA 3 vu2 (.int .i64 k) = some (elA vu2 k 0) := by
            rw [hrd.addrM, if_pos (by simp; omega), Int.toNat_natCast]
          have hld : loadA X ⟨H2, lo2⟩ true 3 (elA vu2 k 0) = some (.agg (U3 u)) := by
            rw [hrd.loadM (by simpa using hlt)]
            show Den.part true 3 (U3 (st.uses[k]?.getD default)) 0 = _
            rw [List.getElem?_eq_getElem hlt, Option.getD_some, hgu]; rfl
          have hP3 := hP2.app [.box (U3 u) none]
          have hbx3 : (H2 ++ [AObj.box (U3 u) none])[N + 1]? = some (.box [vl2, .mp N, vu2] none) := by rw [List.getElem?_append_left (by omega)]; exact hbx
          have hmp3 : (H2 ++ [AObj.box (U3 u) none])[N]? = some (.map (st.labels.map lab)) := by rw [List.getElem?_append_left (by omega)]; exact d3
          have hfr3 : ∀ id, id < N → (H2 ++ [AObj.box (U3 u) none])[id]? = H[id]? := fun id hid => by rw [List.getElem?_append_left (by omega)]; exact hfr2 id hid
          have hlp3 := ((own_app (K := [AObj.box (U3 u) none]) d4).rd (lo := lo2)).lenM
          have hdrop : st.uses.drop k = u :: st.uses.drop (k + 1) := by rw [List.drop_eq_getElem_cons hlt, hgu]
          rw [hdrop] at hrs
          have hlk : lookupA ⟨H2 ++ [AObj.box (U3 u) none], lo2⟩ .str (.int .i64 0) (.mp N) (S u.1) true = some (match lookupS u.1 st.labels with | some k0 => .tup [.int .i64 k0, .bool true] | none => .tup [.int .i64 0, .bool false]) := by
            simp only [lookupA, mapOf, hmp3, find_lab]; cases lookupS u.1 st.labels <;> rfl
          simp only [U3] at hld hbx3 hlp3 hlk hP3 hfr3
          have hkb : k < 2000000 := by have := hok.uses; have := hsl.2; omega
          by_cases hb : bad' = 0
          · subst hb
            simp only [resP, if_true] at hrs
            cases hk0 : lookupS u.1 st.labels with
            | none =>
              rw [hk0] at hrs hlk
              simp only at hrs hlk
              simp (maxSteps := 2000000) (disch := omega) only [F1, ↓Int.cast_ofNat_Int, ↓R1, R2, C1, P1, O1, V1, V2, V3, reduceCtorEq, Nat.reduceEqDiff, Nat.reduceBEq, Nat.reduceAdd, Nat.reduceSub, Nat.reduceMul, Nat.reduceLeDiff, Nat.reduceLT, Int.reduceEq, Int.reduceAdd, Int.reduceSub, Int.reduceMul, Int.reduceLT, Int.reduceLE, Int.reduceNeg, Int.reduceToNat, wrap_i64, wrap_u64, wrap_u8, wrap_u16, wrap_u32, wrap_i32, base_get0, base_get, base_set0, base_set, base_take, take_self, take_app1, l2_asm_Parse, h5, h6, h36, h37, h38, hlt', hadr, hld, hn, hbx3, hlk, hlp3, forL_normal, Int.cast_ofNat_Int]
              exact ⟨hlt, u.2.1, prog', hrs, hP3, hpl, rfl, hlo2, hfr3, by omega⟩
            | some k0 =>
              rw [hk0] at hrs hlk
              simp only at hrs hlk
              by_cases hge : prog'.length ≤ k0
              · have hge' : (prog'.length : Int) ≤ k0 := by omega
                rw [if_pos hge] at hrs
                simp (maxSteps := 2000000) (disch := omega) only [F1, ↓Int.cast_ofNat_Int, ↓R1, R2, C1, P1, O1, V1, V2, V3, reduceCtorEq, Nat.reduceEqDiff, Nat.reduceBEq, Nat.reduceAdd, Nat.reduceSub, Nat.reduceMul, Nat.reduceLeDiff, Nat.reduceLT, Int.reduceEq, Int.reduceAdd, Int.reduceSub, Int.reduceMul, Int.reduceLT, Int.reduceLE, Int.reduceNeg, Int.reduceToNat, wrap_i64, wrap_u64, wrap_u8, wrap_u16, wrap_u32, wrap_i32, base_get0, base_get, base_set0, base_set, base_take, take_self, take_app1, l2_asm_Parse, h5, h6, h36, h37, h38, hlt', hadr, hld, hn, hbx3, hlk, hlp3, forL_normal, Int.cast_ofNat_Int, hge']
                exact ⟨hlt, u.2.1, prog', hrs, hP3, hpl, rfl, hlo2, hfr3, by omega⟩
              · have hge' : ¬ (prog'.length : Int) ≤ k0 := by omega
                rw [if_neg hge] at hrs
                obtain ⟨vl3, vu3, id3, ver3, H4, c1, c2, c3, c4, c5, c6⟩ := hP3.setN u.2.2 (k0 % 65536) (by show u.2.2 < prog'.length; omega) lo2
                have hvl : vl3 = vl2 := by rw [hbx3] at c1; cases c1; rfl
                subst hvl
                have hwr : IntKind.u16.wrap (k0 : Int) = ((k0 % 65536 : Nat) : Int) := by
                  unfold IntKind.wrap IntKind.bits IntKind.signed; simp
                simp (maxSteps := 2000000) (disch := omega) only [F1, ↓Int.cast_ofNat_Int, ↓R1, R2, C1, P1, O1, V1, V2, V3, reduceCtorEq, Nat.reduceEqDiff, Nat.reduceBEq, Nat.reduceAdd, Nat.reduceSub, Nat.reduceMul, Nat.reduceLeDiff, Nat.reduceLT, Int.reduceEq, Int.reduceAdd, Int.reduceSub, Int.reduceMul, Int.reduceLT, Int.reduceLE, Int.reduceNeg, Int.reduceToNat, wrap_i64, wrap_u64, wrap_u8, wrap_u16, wrap_u32, wrap_i32, base_get0, base_get, base_set0, base_set, base_take, take_self, take_app1, l2_asm_Parse, h5, h6, h36, h37, h38, hlt', hadr, hld, hn, hbx3, hlk, hlp3, forL_normal, Int.cast_ofNat_Int, hge', c2, hwr, c3, c5]
                exact ⟨hlt, 0, _, hrs, c4, by rw [List.length_set]; exact hpl, rfl, hlo2, (c6 _ (Nat.le_refl _)).trans hbx3, fun id hid => (c6 id (by omega)).trans (hfr3 id hid), by omega⟩
          · have hb' : ¬ (bad' : Int) = 0 := by omega
            simp only [resP, if_neg hb] at hrs
            obtain ⟨a0, b0, hlk'⟩ : ∃ a b, (match lookupS u.1 st.labels with | some k0 => AV.tup [.int .i64 k0, .bool true] | none => .tup [.int .i64 0, .bool false]) = .tup [.int .i64 a, .bool b] := by
              cases lookupS u.1 st.labels
              · exact ⟨_, _, rfl⟩
              · exact ⟨_, _, rfl⟩
            rw [hlk'] at hlk
            simp (maxSteps := 2000000) (disch := omega) only [F1, ↓Int.cast_ofNat_Int, ↓R1, R2, C1, P1, O1, V1, V2, V3, reduceCtorEq, Nat.reduceEqDiff, Nat.reduceBEq, Nat.reduceAdd, Nat.reduceSub, Nat.reduceMul, Nat.reduceLeDiff, Nat.reduceLT, Int.reduceEq, Int.reduceAdd, Int.reduceSub, Int.reduceMul, Int.reduceLT, Int.reduceLE, Int.reduceNeg, Int.reduceToNat, wrap_i64, wrap_u64, wrap_u8, wrap_u16, wrap_u32, wrap_i32, base_get0, base_get, base_set0, base_set, base_take, take_self, take_app1, l2_asm_Parse, h5, h6, h36, h37, h38, hlt', hadr, hld, hn, hbx3, hlk, hlp3, forL_normal, Int.cast_ofNat_Int, hb']
            exact ⟨hlt, bad', prog', hrs, hP3, hpl, rfl, hlo2, hfr3, by omega⟩
        · have hkm : k = st.uses.length := by omega
          subst hkm
          have hnl : ¬ (st.uses.length : Int) < st.uses.length := by omega
          simp (maxSteps := 2000000) (disch := omega) only [F1, ↓Int.cast_ofNat_Int, ↓R1, R2, C1, P1, O1, V1, V2, V3, reduceCtorEq, Nat.reduceEqDiff, Nat.reduceBEq, Nat.reduceAdd, Nat.reduceSub, Nat.reduceMul, Nat.reduceLeDiff, Nat.reduceLT, Int.reduceEq, Int.reduceAdd, Int.reduceSub, Int.reduceMul, Int.reduceLT, Int.reduceLE, Int.reduceNeg, Int.reduceToNat, wrap_i64, wrap_u64, wrap_u8, wrap_u16, wrap_u32, wrap_i32, base_get0, base_get, base_set0, base_set, base_take, take_self, take_app1, l2_asm_Parse, h37, h38, hnl, forL_exit, exK_exit]
          exact ⟨bad', prog', by rw [hrs, List.drop_length]; rfl, hP2, hpl, h5, h6, hlo2, hfr2, hlen2⟩
    · rintro e H2 lo2 ⟨bad', prog', hrs, hP2, hpl, h5, h6, hlo2, hfr2, hlen2⟩
      have hps : parseS t = if bad' > 0 then ([], bad', 3) else if prog'.length > 64 then ([], 0, 8) else (prog', 0, 0) := by
        unfold parseS; rw [hL, hst]; simp only [hrs]
      have htk : H2.take N = H := by
        apply List.ext_getElem?
        intro i
        by_cases hi : i < N
        · rw [List.getElem?_take_of_lt hi]; exact hfr2 i hi
        · rw [List.getElem?_eq_none (by simp; omega), List.getElem?_eq_none (by omega)]
      obtain ⟨vl2, vu2, d1, d2, d3, d4, d5⟩ := hP2.box
      have hl2 := (d4.rd (lo := lo2)).lenM
      by_cases hb : bad' > 0
      · have hb' : (bad' : Int) > 0 := by omega
        rw [if_pos hb] at hps
        simp (maxSteps := 2000000) (disch := omega) only [F1, ↓Int.cast_ofNat_Int, ↓R1, R2, C1, P1, O1, V1, V2, V3, reduceCtorEq, Nat.reduceEqDiff, Nat.reduceBEq, Nat.reduceAdd, Nat.reduceSub, Nat.reduceMul, Nat.reduceLeDiff, Nat.reduceLT, Int.reduceEq, Int.reduceAdd, Int.reduceSub, Int.reduceMul, Int.reduceLT, Int.reduceLE, Int.reduceNeg, Int.reduceToNat, wrap_i64, wrap_u64, wrap_u8, wrap_u16, wrap_u32, wrap_i32, base_get0, base_get, base_set0, base_set, base_take, take_self, take_app1, h5, h6, hb', hps]
        rw [fin_low hlo2 (by simp [AV.refs, refsL]), htk]
        exact ⟨.nils, rfl, Rv.nils, rfl⟩
      · have hb' : ¬ (bad' : Int) > 0 := by omega
        rw [if_neg hb] at hps
        by_cases hg : prog'.length > 64
        · have hg' : (prog'.length : Int) > 64 := by omega
          rw [if_pos hg] at hps
          simp (maxSteps := 2000000) (disch := omega) only [F1, ↓Int.cast_ofNat_Int, ↓R1, R2, C1, P1, O1, V1, V2, V3, reduceCtorEq, Nat.reduceEqDiff, Nat.reduceBEq, Nat.reduceAdd, Nat.reduceSub, Nat.reduceMul, Nat.reduceLeDiff, Nat.reduceLT, Int.reduceEq, Int.reduceAdd, Int.reduceSub, Int.reduceMul, Int.reduceLT, Int.reduceLE, Int.reduceNeg, Int.reduceToNat, wrap_i64, wrap_u64, wrap_u8, wrap_u16, wrap_u32, wrap_i32, base_get0, base_get, base_set0, base_set, base_take, take_self, take_app1, h5, h6, hb', hps, d1, hl2, hg']
          rw [fin_low hlo2 (by simp [AV.refs, refsL]), htk]
          exact ⟨.nils, rfl, Rv.nils, rfl⟩
        · have hg' : ¬ (prog'.length : Int) > 64 := by omega
          rw [if_neg hg] at hps
          simp (maxSteps := 2000000) (disch := omega) only [↓Int.cast_ofNat_Int, ↓R1, R2, C1, P1, O1, V1, V2, V3, reduceCtorEq, Nat.reduceEqDiff, Nat.reduceBEq, Nat.reduceAdd, Nat.reduceSub, Nat.reduceMul, Nat.reduceLeDiff, Nat.reduceLT, Int.reduceEq, Int.reduceAdd, Int.reduceSub, Int.reduceMul, Int.reduceLT, Int.reduceLE, Int.reduceNeg, Int.reduceToNat, wrap_i64, wrap_u64, wrap_u8, wrap_u16, wrap_u32, wrap_i32, base_get0, base_get, base_set0, base_set, base_take, take_self, take_app1, h5, h6, hb', hps, d1, hl2, hg']
          have how := own_mono d4 (show N ≤ N + 1 + 1 by omega)
          have hz : refsLL (prog'.map I5) = 0 := refsLL_map (fun x => by simp [refs_I5]) _
          rw [fin_own hlo2 how (by rw [hz]; omega) (by simp [AV.refs]) (by simp [AV.refs]), htk]
          refine ⟨_, rfl, how.frz_rv, ?_⟩
          obtain ⟨q1, q2⟩ := how
          rcases q2 with ⟨rfl, q2⟩ | ⟨id, ver, e1, rfl, e3⟩
          · rfl
          · exact hz

end Go.Proofs.YtoolhdikfdjikaaDoor

/- The law's constant check. -/
namespace Go.Proofs.YtoolhdikfdjikaaDoor
open Go Go.Den
set_option maxRecDepth 10000

def wkL : List Instr := [⟨1, 0, 0, 0, 3⟩, ⟨5, 0, 0, 0, 0⟩]
theorem wk1 : parseS str_104803d2 = (wkL, 0, 0) := by kernel_rfl
theorem wk2 : parseS str_fff270d2 = ([], 2, 3) := by kernel_rfl
theorem wk3 : mayL wkL = true := by decide

theorem wk4 : printS wkL wkL.length = str_e13c1349 := by kernel_rfl

theorem wakes_D (H : List AObj) (lo : Option Nat) : D X (.fn (.func fn_law23_wakes) [] []) [] ⟨H, lo⟩ = some (.ret (.bool true) ⟨H, lo⟩) := by
  refine D_fn pf_law23_wakes rfl rfl rfl fun N hN => ?_
  obtain ⟨r1, a1, a2, a3⟩ := Parse_D str_104803d2 (by decide) H none
  obtain ⟨r2, b1, b2, b3⟩ := Parse_D str_fff270d2 (by decide) H none
  rw [wk1] at a1 a2
  rw [wk2] at b1 b2
  have hp := Print_D r1 wkL (by intro x hx; simp only [wkL, List.mem_cons, List.mem_singleton, List.not_mem_nil, or_false] at hx; rcases hx with rfl | rfl <;> exact ⟨by decide, by decide, by decide, by decide, by decide⟩) a2 (by decide) H none
  rw [wk3] at hp
  have hw := Word_D 17 (by decide) (by decide) H none
  simp only [if_true] at hp
  simp only [Int.cast_ofNat_Int] at a1 b1
  have hl : wkL.length = 2 := rfl
  have hg : wkL.getD 0 default = ⟨1, 0, 0, 0, 3⟩ := rfl
  have hw17 : wordS (Int.toNat 17) ≠ [] := by decide
  rw [wk4] at hp
  have a5 := a2.lenM (σ := ⟨H, none⟩)
  rw [hl] at a5
  have a7 := a2.faddrM (X := X) (j := 0) (off := 0) (n := 4) (by decide)
  have a8 : ∀ σ, loadA X σ false 1 (elA r1 0 (0 + 4)) = some (.int .u16 3) := fun σ => (a2.loadM (X := X) (σ := σ) (j := 0) (off := 4) (n := 1) (agg := false) (by decide)).trans rfl
  have hw17' : wordS (Int.toNat 17) = [110, 101, 119] := by decide
  simp (maxSteps := 2000000) (disch := omega) only [F1, ↓Int.cast_ofNat_Int, ↓R1, R2, C1, P1, O1, V1, V2, V3, reduceCtorEq, Nat.reduceEqDiff, Nat.reduceBEq, Nat.reduceAdd, Nat.reduceSub, Nat.reduceMul, Nat.reduceLeDiff, Nat.reduceLT, Int.reduceEq, Int.reduceAdd, Int.reduceSub, Int.reduceMul, Int.reduceLT, Int.reduceLE, Int.reduceNeg, Int.reduceToNat, wrap_i64, wrap_u64, wrap_u8, wrap_u16, wrap_u32, wrap_i32, base_get0, base_get, base_set0, base_set, base_take, take_self, take_app1, pf_law23_wakes, eq_self, decide_true, decide_eq_true hw17, a7, a8, hw17', take_self hN, a5, hl, hg, I5, Int.cast_ofNat_Int, a1, b1, hp, hw, a2.lenM, a2.addrM, a2.loadM, a2.fpLM, b2.lenM]
  refine gK_keep 0 (.bool true) [] rfl rfl ?_ fun e0 => ?_
  · generalize hq : (decide (wordS (Int.toNat 17) ≠ [])) = q
    have : q = true := by rw [← hq]; exact decide_eq_true hw17
    subst this
    simp (maxSteps := 2000000) (disch := omega) only [R4, F1, ↓Int.cast_ofNat_Int, ↓R1, R2, C1, P1, O1, V1, V2, V3, reduceCtorEq, Nat.reduceEqDiff, Nat.reduceBEq, Nat.reduceAdd, Nat.reduceSub, Nat.reduceMul, Nat.reduceLeDiff, Nat.reduceLT, Int.reduceEq, Int.reduceAdd, Int.reduceSub, Int.reduceMul, Int.reduceLT, Int.reduceLE, Int.reduceNeg, Int.reduceToNat, wrap_i64, wrap_u64, wrap_u8, wrap_u16, wrap_u32, wrap_i32, base_get0, base_get, base_set0, base_set, base_take, take_self, take_app1, hw17', eq_self, decide_true]
    all_goals simp
    exact ⟨fun _ => by decide, by decide⟩
  · simp (maxSteps := 2000000) (disch := omega) only [F1, ↓Int.cast_ofNat_Int, ↓R1, R2, C1, P1, O1, V1, V2, V3, reduceCtorEq, Nat.reduceEqDiff, Nat.reduceBEq, Nat.reduceAdd, Nat.reduceSub, Nat.reduceMul, Nat.reduceLeDiff, Nat.reduceLT, Int.reduceEq, Int.reduceAdd, Int.reduceSub, Int.reduceMul, Int.reduceLT, Int.reduceLE, Int.reduceNeg, Int.reduceToNat, wrap_i64, wrap_u64, wrap_u8, wrap_u16, wrap_u32, wrap_i32, base_get0, base_get, base_set0, base_set, base_take, take_self, take_app1, take_self hN]

end Go.Proofs.YtoolhdikfdjikaaDoor

/- Plain laws: numbers, labels, words, lines. -/
namespace Go.Proofs.YtoolhdikfdjikaaDoor
open Go Go.Den
set_option maxRecDepth 10000

theorem mayR_mayL (l : List Instr) : mayR l = mayL l := by
  have h : (fun x : Instr => decide (¬ (6 < x.op ∧ x.op < 17) ∧ x.op ≤ 38 ∧ x.a ≤ 7 ∧ x.b ≤ 7 ∧ x.c ≤ 7 ∧ (x.op = 5 ∨ x.op = 6 → x.n < l.length))) = fun x => mayI x l.length := by
    funext x
    rw [Bool.eq_iff_iff]
    simp only [mayI, goes, decide_eq_true_eq, Bool.and_eq_true, Bool.or_eq_true, Bool.not_eq_true', Bool.or_eq_false_iff, decide_eq_false_iff_not]
    omega
  unfold mayR mayL
  rw [h, List.not_any_eq_all_not]
  simp

def isD (c : UInt8) : Bool := decide (48 ≤ c.toNat) && decide (c.toNat ≤ 57)
def isLt (c : UInt8) : Bool := decide (97 ≤ c.toNat) && decide (c.toNat ≤ 122)

theorem dg_toNat {n : Nat} (h : n < 10) : (dg n).toNat = 48 + n := by
  have : ∀ n, n < 10 → (dg n).toNat = 48 + n := by decide
  exact this n h

theorem digits_all (n : Nat) : (digits n).all isD = true := by
  induction n using Nat.strongRecOn with
  | ind n ih =>
    by_cases h : n < 10
    · rw [digits_1 h]; simp [isD, dg_toNat h]; omega
    · have hm := dg_toNat (Nat.mod_lt n (by decide : 0 < 10))
      rw [digits_s h, List.all_append, ih (n / 10) (by omega)]; simp [isD, hm]; omega

theorem digits_ne (n : Nat) : digits n ≠ [] := by
  by_cases h : n < 10
  · rw [digits_1 h]; simp
  · rw [digits_s h]; simp

/-- A text's number. -/
def val : List UInt8 → Nat → Nat
  | [], m => m
  | c :: cs, m => val cs (m * 10 + (c.toNat - 48))

theorem val_append : ∀ (a b : List UInt8) (m : Nat), val (a ++ b) m = val b (val a m)
  | [], _, _ => rfl
  | _ :: a, b, _ => val_append a b _

theorem val_ge : ∀ (a : List UInt8) (m : Nat), m ≤ val a m
  | [], _ => Nat.le_refl _
  | _ :: a, m => Nat.le_trans (by omega) (val_ge a _)

theorem val_digits (n : Nat) : val (digits n) 0 = n := by
  induction n using Nat.strongRecOn with
  | ind n ih =>
    by_cases h : n < 10
    · rw [digits_1 h]; simp [val, dg_toNat h]
    · have hm := dg_toNat (Nat.mod_lt n (by decide : 0 < 10))
      rw [digits_s h, val_append, ih (n / 10) (by omega)]; simp [val, hm]; omega

theorem digits_inj {a b : Nat} (h : digits a = digits b) : a = b := by
  have := congrArg (fun l => val l 0) h
  simpa [val_digits] using this

theorem puL_val : ∀ (l : List UInt8) (m : Nat), l.all isD = true → val l m ≤ 65535 → puL l m = .ok (val l m)
  | [], _, _, _ => rfl
  | c :: cs, m, hd, hv => by
    simp only [List.all_cons, Bool.and_eq_true] at hd
    have hc : isDg c = true := by simpa [isDg, isD] using hd.1
    have hg := val_ge cs (m * 10 + (c.toNat - 48))
    simp only [val] at hv
    simp only [puL, hc, if_true, val]
    rw [if_neg (by omega)]
    exact puL_val cs _ hd.2 hv

theorem numS_digits {n : Nat} (h : n ≤ 65535) : numS (digits n) = some n := by
  unfold numS
  rw [if_neg (digits_ne n), puL_val _ 0 (digits_all n) (by rw [val_digits]; exact h), val_digits]
  simp

theorem digits_len2 {n : Nat} (h : n < 100) : (digits n).length ≤ 2 := by
  by_cases h' : n < 10
  · rw [digits_1 h']; simp
  · rw [digits_2 (by omega) h]; simp

theorem regS_digits {a : Nat} (h : a < 8) : regS (114 :: digits a) = some a := by
  have := dg_toNat (show a < 10 by omega)
  rw [digits_1 (by omega)]
  simp [regS, this]; omega

theorem inS_ok (c : UInt8) (h : isLt c = true ∨ isD c = true) : inS str_dfc6f27b c = true := by
  have key : ∀ n, n < 123 → (97 ≤ n ∧ n ≤ 122 ∨ 48 ≤ n ∧ n ≤ 57) → (str_dfc6f27b.any fun y => decide (n = y.toNat)) = true := by decide
  refine key c.toNat ?_ ?_ <;> simp only [isLt, isD, Bool.and_eq_true, decide_eq_true_eq] at h <;> omega

/-- A label's beginning: letters. -/
structure Beg (g : List UInt8) : Prop where
  ne : g ≠ []
  le : g.length ≤ 4
  all : g.all isLt = true

theorem labS_beg {g : List UInt8} (hg : Beg g) {n : Nat} (h : n < 100) : labS (g ++ digits n) = true := by
  obtain ⟨h1, h2, h3⟩ := hg
  have hl := digits_len2 h
  unfold labS
  have e1 : g ++ digits n ≠ [] := by simp [h1]
  have e2 : (g ++ digits n).length ≤ 8 := by rw [List.length_append]; omega
  have e3 : (g ++ digits n).all (inS str_dfc6f27b) = true := by
    rw [List.all_eq_true]
    intro c hc
    rcases List.mem_append.1 hc with hc | hc
    · exact inS_ok c (.inl (List.all_eq_true.1 h3 c hc))
    · exact inS_ok c (.inr (List.all_eq_true.1 (digits_all n) c hc))
  have e4 : 97 ≤ ((g ++ digits n).getD 0 0).toNat := by
    match g, h1, h3 with
    | c :: g, _, h3 =>
      simp only [List.all_cons, Bool.and_eq_true, isLt, decide_eq_true_eq] at h3
      exact h3.1.1
  simp only [e1, e2, e3, e4, decide_true, Bool.and_self, ne_eq, not_false_eq_true]

theorem wd_all : ∀ (w cur : List UInt8), w.all (fun c => !bl c) = true → wd w cur = if cur ++ w = [] then [] else [cur ++ w]
  | [], cur, _ => by simp [wd]
  | c :: w, cur, h => by
    simp only [List.all_cons, Bool.and_eq_true, Bool.not_eq_true'] at h
    simp only [wd, h.1, Bool.false_eq_true, if_false]
    rw [wd_all w _ h.2]; simp

theorem wd_word : ∀ (w cur r : List UInt8) (b : UInt8), w.all (fun c => !bl c) = true → bl b = true → wd (w ++ b :: r) cur = if cur ++ w = [] then wd r [] else (cur ++ w) :: wd r []
  | [], cur, r, b, _, hb => by simp [wd, hb]
  | c :: w, cur, r, b, h, hb => by
    simp only [List.all_cons, Bool.and_eq_true, Bool.not_eq_true'] at h
    simp only [List.cons_append, wd, h.1, Bool.false_eq_true, if_false]
    rw [wd_word w _ r b h.2 hb]; simp

theorem cutS_none {c : UInt8} : ∀ l : List UInt8, c ∉ l → cutS c l = (l, [], false)
  | [], _ => rfl
  | b :: l, h => by
    simp only [List.mem_cons, not_or] at h
    simp only [cutS, Ne.symm h.1, if_false, cutS_none l h.2]

theorem cutS_at {c : UInt8} : ∀ a b : List UInt8, c ∉ a → cutS c (a ++ c :: b) = (a, b, true)
  | [], _, _ => by simp [cutS]
  | x :: a, b, h => by
    simp only [List.mem_cons, not_or] at h
    simp only [List.cons_append, cutS, Ne.symm h.1, if_false, cutS_at a b h.2]

theorem splitS_at {c : UInt8} (a b : List UInt8) (h : c ∉ a) : splitS c (a ++ c :: b) = a :: splitS c b := by
  rw [splitS_cut, cutS_at a b h]; rfl

end Go.Proofs.YtoolhdikfdjikaaDoor
