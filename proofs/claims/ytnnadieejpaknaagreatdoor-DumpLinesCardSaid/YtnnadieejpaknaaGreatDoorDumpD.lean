/- Library functions and the law's functions on texts: what they answer for every text (conditions: lengths); the law's own check answers true. -/
import Derived.Test.YtnnadieejpaknaaGreatDoorDumpA
import Derived.Test.YtnnadieejpaknaaGreatDoorDenC
import Derived.Test.YtnnadieejpaknaaGreatDoorDumpC
set_option linter.unusedVariables false
set_option linter.unusedSimpArgs false
set_option linter.unusedSectionVars false
set_option linter.deprecated false

/- The context of the universal part: bytes counted and found, the law's check, as primitives. -/
namespace Go.Proofs.YtnnadieejpaknaaGreatDoor
open Go Go.Den
set_option maxRecDepth 10000
set_option maxHeartbeats 1000000

def primT : List (Nat × (List AV → AS → Option CRes)) := [(fn_ibytealg_CountString, countP), (fn_ibytealg_IndexByteString, indexByteP)]

def X : Ctx := { glob := fun _ => none, code := fun f => if f = fn_law30_wakes then none else codeT.lookup f, prim := fun f => primT.lookup f }

theorem u8_range (c : UInt8) : 0 ≤ (c.toNat : Int) ∧ (c.toNat : Int) < 256 := by
  have := c.toNat_lt; omega
theorem countStr_D (l : List UInt8) (c : UInt8) (σ : AS) : D X (.fn (.func fn_ibytealg_CountString) [] []) [S l, .int .u8 c.toNat] σ = some (.ret (.int .i64 ((l.filter fun b => decide ((b.toNat : Int) = c.toNat)).length : Nat)) σ) :=
  D_prim (p := countP) rfl (if_pos (u8_range c))
theorem idxStr_D (l : List UInt8) (c : UInt8) (σ : AS) : D X (.fn (.func fn_ibytealg_IndexByteString) [] []) [S l, .int .u8 c.toNat] σ = some (.ret (.int .i64 (idxB c.toNat l)) σ) :=
  D_prim (p := indexByteP) rfl (if_pos (u8_range c))

theorem getD1 (c : UInt8) : ([c] : List UInt8).getD 0 0 = c := rfl

theorem idxB_range (c : Int) (l : List UInt8) : -1 ≤ idxB c l ∧ idxB c l < l.length := by
  unfold idxB
  cases h : l.findIdx? (fun b => decide ((b.toNat : Int) = c)) with
  | none => simp [optI]; omega
  | some i =>
    have := (List.findIdx?_eq_some_iff_getElem.1 h).1
    simp only [optI]; omega

theorem IndexByte_D (l : List UInt8) (c : UInt8) (H : List AObj) (lo : Option Nat) : D X (.fn (.func fn_istringslite_IndexByte) [] []) [S l, .int .u8 c.toNat] ⟨H, lo⟩ = some (.ret (.int .i64 (idxB c.toNat l)) ⟨H, lo⟩) := by
  refine D_fn pf_istringslite_IndexByte rfl rfl rfl fun N hN => ?_
  simp (maxSteps := 2000000) (disch := omega) only [F1, ↓Int.cast_ofNat_Int, ↓R1, R2, C1, P1, N1, O1, V1, V2, V3, reduceCtorEq, Nat.reduceEqDiff, Nat.reduceBEq, Nat.reduceAdd, Nat.reduceSub, Nat.reduceMul, Nat.reduceLeDiff, Nat.reduceLT, Int.reduceEq, Int.reduceAdd, Int.reduceSub, Int.reduceMul, Int.reduceLT, Int.reduceLE, Int.reduceNeg, Int.reduceToNat, wrap_i64, wrap_u64, wrap_u8, wrap_u16, wrap_u32, wrap_i32, base_get0, base_get, base_set0, base_set, base_take, take_self, take_app1, pf_istringslite_IndexByte, idxStr_D]

theorem sliteIndex_D (l : List UInt8) (c : UInt8) (hl : l.length < 2^40) (H : List AObj) (lo : Option Nat) : D X (.fn (.func fn_istringslite_Index) [] []) [S l, S [c]] ⟨H, lo⟩ = some (.ret (.int .i64 (idxB c.toNat l)) ⟨H, lo⟩) := by
  refine D_fn pf_istringslite_Index rfl rfl rfl fun N hN => ?_
  simp (maxSteps := 2000000) (disch := omega) only [R4, F1, ↓Int.cast_ofNat_Int, ↓R1, R2, C1, P1, N1, O1, V1, V2, V3, reduceCtorEq, Nat.reduceEqDiff, Nat.reduceBEq, Nat.reduceAdd, Nat.reduceSub, Nat.reduceMul, Nat.reduceLeDiff, Nat.reduceLT, Int.reduceEq, Int.reduceAdd, Int.reduceSub, Int.reduceMul, Int.reduceLT, Int.reduceLE, Int.reduceNeg, Int.reduceToNat, wrap_i64, wrap_u64, wrap_u8, wrap_u16, wrap_u32, wrap_i32, base_get0, base_get, base_set0, base_set, base_take, take_self, take_app1, pf_istringslite_Index, IndexByte_D, getD1]
  refine ⟨fun h => ?_, fun _ => trivial⟩
  subst h
  simp [idxB, optI, List.findIdx?_cons]

theorem Index_D (l : List UInt8) (c : UInt8) (hl : l.length < 2^40) (H : List AObj) (lo : Option Nat) : D X (.fn (.func fn_strings_Index) [] []) [S l, S [c]] ⟨H, lo⟩ = some (.ret (.int .i64 (idxB c.toNat l)) ⟨H, lo⟩) := by
  refine D_fn pf_strings_Index rfl rfl rfl fun N hN => ?_
  simp (maxSteps := 2000000) (disch := omega) only [F1, ↓Int.cast_ofNat_Int, ↓R1, R2, C1, P1, N1, O1, V1, V2, V3, reduceCtorEq, Nat.reduceEqDiff, Nat.reduceBEq, Nat.reduceAdd, Nat.reduceSub, Nat.reduceMul, Nat.reduceLeDiff, Nat.reduceLT, Int.reduceEq, Int.reduceAdd, Int.reduceSub, Int.reduceMul, Int.reduceLT, Int.reduceLE, Int.reduceNeg, Int.reduceToNat, wrap_i64, wrap_u64, wrap_u8, wrap_u16, wrap_u32, wrap_i32, base_get0, base_get, base_set0, base_set, base_take, take_self, take_app1, pf_strings_Index, sliteIndex_D l c hl]

/-- A text up to the first such byte; what is behind; whether there is one. -/
def cutS (c : UInt8) : List UInt8 → List UInt8 × List UInt8 × Bool
  | [] => ([], [], false)
  | b :: bs => if b = c then ([], bs, true) else (b :: (cutS c bs).1, (cutS c bs).2.1, (cutS c bs).2.2)

theorem optI_map (q : Option Nat) : optI (q.map (· + 1)) = if optI q = -1 then -1 else optI q + 1 := by
  cases q with
  | none => rfl
  | some i =>
    have h : ¬ (optI (some i) = -1) := by simp only [optI]; omega
    rw [if_neg h]; rfl

theorem cutS_idx (c : UInt8) : ∀ l : List UInt8, (idxB c.toNat l = -1 ∧ cutS c l = (l, [], false)) ∨ (0 ≤ idxB c.toNat l ∧ idxB c.toNat l < l.length ∧ cutS c l = (l.take (idxB c.toNat l).toNat, l.drop ((idxB c.toNat l).toNat + 1), true))
  | [] => .inl ⟨rfl, rfl⟩
  | b :: bs => by
    have ih := cutS_idx c bs
    have hbc : (decide ((b.toNat : Int) = (c.toNat : Int))) = decide (b = c) := by
      rw [Bool.eq_iff_iff, decide_eq_true_eq, decide_eq_true_eq]
      exact ⟨fun h => UInt8.toNat_inj.1 (by omega), fun h => by rw [h]⟩
    by_cases h : b = c
    · right
      have e : idxB c.toNat (b :: bs) = 0 := by simp [idxB, optI, List.findIdx?_cons, h]
      rw [e]
      simp [cutS, h]
    · have e : idxB c.toNat (b :: bs) = if idxB c.toNat bs = -1 then -1 else idxB c.toNat bs + 1 := by
        simp only [idxB, List.findIdx?_cons, hbc, h, decide_false, Bool.false_eq_true, if_false]
        exact optI_map _
      rcases ih with ⟨h1, h2⟩ | ⟨h1, h2, h3⟩
      · left; rw [e, if_pos h1]; simp [cutS, h, h2]
      · right
        rw [e, if_neg (by omega)]
        refine ⟨by omega, by simp; omega, ?_⟩
        simp only [cutS, if_neg h, h3]
        have : (idxB c.toNat bs + 1).toNat = (idxB c.toNat bs).toNat + 1 := by omega
        rw [this]; simp

theorem sliteCut_D (l : List UInt8) (c : UInt8) (hl : l.length < 2^40) (H : List AObj) (lo : Option Nat) : D X (.fn (.func fn_istringslite_Cut) [] []) [S l, S [c]] ⟨H, lo⟩ = some (.ret (.tup [S (cutS c l).1, S (cutS c l).2.1, .bool (cutS c l).2.2]) ⟨H, lo⟩) := by
  refine D_fn pf_istringslite_Cut rfl rfl rfl fun N hN => ?_
  rcases cutS_idx c l with ⟨h1, h2⟩ | ⟨h1, h2, h3⟩
  · simp (maxSteps := 2000000) (disch := omega) only [condK_dec, F1, ↓Int.cast_ofNat_Int, ↓R1, R2, C1, P1, N1, O1, V1, V2, V3, reduceCtorEq, Nat.reduceEqDiff, Nat.reduceBEq, Nat.reduceAdd, Nat.reduceSub, Nat.reduceMul, Nat.reduceLeDiff, Nat.reduceLT, Int.reduceEq, Int.reduceAdd, Int.reduceSub, Int.reduceMul, Int.reduceLT, Int.reduceLE, Int.reduceNeg, Int.reduceToNat, wrap_i64, wrap_u64, wrap_u8, wrap_u16, wrap_u32, wrap_i32, base_get0, base_get, base_set0, base_set, base_take, take_self, take_app1, pf_istringslite_Cut, sliteIndex_D l c hl, h1, h2]
  · simp (maxSteps := 2000000) (disch := omega) only [condK_dec, F1, ↓Int.cast_ofNat_Int, ↓R1, R2, C1, P1, N1, O1, V1, V2, V3, reduceCtorEq, Nat.reduceEqDiff, Nat.reduceBEq, Nat.reduceAdd, Nat.reduceSub, Nat.reduceMul, Nat.reduceLeDiff, Nat.reduceLT, Int.reduceEq, Int.reduceAdd, Int.reduceSub, Int.reduceMul, Int.reduceLT, Int.reduceLE, Int.reduceNeg, Int.reduceToNat, wrap_i64, wrap_u64, wrap_u8, wrap_u16, wrap_u32, wrap_i32, base_get0, base_get, base_set0, base_set, base_take, take_self, take_app1, pf_istringslite_Cut, sliteIndex_D l c hl, h3, h1]
    refine ⟨by omega, by omega, ?_⟩
    rw [show (idxB c.toNat l + 1).toNat = (idxB c.toNat l).toNat + 1 by omega]

theorem Cut_D (l : List UInt8) (c : UInt8) (hl : l.length < 2^40) (H : List AObj) (lo : Option Nat) : D X (.fn (.func fn_strings_Cut) [] []) [S l, S [c]] ⟨H, lo⟩ = some (.ret (.tup [S (cutS c l).1, S (cutS c l).2.1, .bool (cutS c l).2.2]) ⟨H, lo⟩) := by
  refine D_fn pf_strings_Cut rfl rfl rfl fun N hN => ?_
  simp (maxSteps := 2000000) (disch := omega) only [F1, ↓Int.cast_ofNat_Int, ↓R1, R2, C1, P1, N1, O1, V1, V2, V3, reduceCtorEq, Nat.reduceEqDiff, Nat.reduceBEq, Nat.reduceAdd, Nat.reduceSub, Nat.reduceMul, Nat.reduceLeDiff, Nat.reduceLT, Int.reduceEq, Int.reduceAdd, Int.reduceSub, Int.reduceMul, Int.reduceLT, Int.reduceLE, Int.reduceNeg, Int.reduceToNat, wrap_i64, wrap_u64, wrap_u8, wrap_u16, wrap_u32, wrap_i32, base_get0, base_get, base_set0, base_set, base_take, take_self, take_app1, pf_strings_Cut, sliteCut_D l c hl]

theorem Count_D (l : List UInt8) (c : UInt8) (hl : l.length < 2^40) (H : List AObj) (lo : Option Nat) : D X (.fn (.func fn_strings_Count) [] []) [S l, S [c]] ⟨H, lo⟩ = some (.ret (.int .i64 ((l.filter fun b => decide ((b.toNat : Int) = c.toNat)).length : Nat)) ⟨H, lo⟩) := by
  refine D_fn pf_strings_Count rfl rfl rfl fun N hN => ?_
  simp (maxSteps := 2000000) (disch := omega) only [condK_dec, F1, ↓Int.cast_ofNat_Int, ↓R1, R2, C1, P1, N1, O1, V1, V2, V3, reduceCtorEq, Nat.reduceEqDiff, Nat.reduceBEq, Nat.reduceAdd, Nat.reduceSub, Nat.reduceMul, Nat.reduceLeDiff, Nat.reduceLT, Int.reduceEq, Int.reduceAdd, Int.reduceSub, Int.reduceMul, Int.reduceLT, Int.reduceLE, Int.reduceNeg, Int.reduceToNat, wrap_i64, wrap_u64, wrap_u8, wrap_u16, wrap_u32, wrap_i32, base_get0, base_get, base_set0, base_set, base_take, take_self, take_app1, pf_strings_Count, countStr_D, getD1]

/-- A text's pieces between such bytes. -/
def splitS (c : UInt8) : List UInt8 → List (List UInt8)
  | [] => [[]]
  | b :: bs => if b = c then [] :: splitS c bs else match splitS c bs with
    | x :: xs => (b :: x) :: xs
    | [] => [[b]]

theorem splitS_ne (c : UInt8) : ∀ l, splitS c l ≠ []
  | [] => by simp [splitS]
  | b :: bs => by
    simp only [splitS]
    split
    · simp
    · split <;> simp

theorem splitS_cut (c : UInt8) : ∀ l : List UInt8, splitS c l = if (cutS c l).2.2 then (cutS c l).1 :: splitS c (cutS c l).2.1 else [l]
  | [] => rfl
  | b :: bs => by
    have ih := splitS_cut c bs
    simp only [splitS, cutS]
    by_cases h : b = c
    · simp [h]
    · simp only [if_neg h]
      rw [ih]
      cases hc : (cutS c bs).2.2 <;> simp

def cnt (c : UInt8) (l : List UInt8) : Nat := (l.filter fun b => decide ((b.toNat : Int) = c.toNat)).length

theorem cnt_cut (c : UInt8) : ∀ l : List UInt8, cnt c l = if (cutS c l).2.2 then cnt c (cutS c l).2.1 + 1 else 0
  | [] => rfl
  | b :: bs => by
    have ih := cnt_cut c bs
    have hbc : (decide ((b.toNat : Int) = (c.toNat : Int))) = decide (b = c) := by
      rw [Bool.eq_iff_iff, decide_eq_true_eq, decide_eq_true_eq]
      exact ⟨fun h => UInt8.toNat_inj.1 (by omega), fun h => by rw [h]⟩
    by_cases h : b = c
    · simp [cnt, cutS, h]
    · have e : cnt c (b :: bs) = cnt c bs := by simp only [cnt, List.filter_cons, hbc, h, decide_false, Bool.false_eq_true, if_false]
      rw [e, ih]
      simp only [cutS, if_neg h]

theorem cnt_le (c : UInt8) (l : List UInt8) : cnt c l ≤ l.length := List.length_filter_le _ _
theorem cutS_len (c : UInt8) (l : List UInt8) : (cutS c l).1.length ≤ l.length ∧ (cutS c l).2.1.length ≤ l.length := by
  rcases cutS_idx c l with ⟨h1, h2⟩ | ⟨h1, h2, h3⟩
  · simp [h2]
  · rw [h3]; constructor
    · simp only [List.length_take]; omega
    · simp only [List.length_drop]; omega

def ls (l : List (List UInt8)) : List (List AV) := l.map fun x => [S x]

theorem store_row {H : List AObj} {lo : Option Nat} {id ver i : Nat} {ty : TypeId} {els : List (List AV)} {x : List UInt8} (h : H[id]? = some (.row ver 1 ty els)) (hi : i < els.length) (hz : ∀ el ∈ els, el.length = 1) : storeA ⟨H, lo⟩ 1 (.rptr id ver i 0) (S x) = some ⟨H.set id (.row ver 1 ty (els.set i [S x])), lo⟩ := by
  have h1 := hz _ (List.getElem_mem hi)
  simp only [storeA, h, List.getElem?_eq_getElem hi]
  rw [if_pos ⟨trivial, h1, rfl, rfl, by rw [h1]; decide⟩]
  have : splice els[i] 0 (S x).cells = [S x] := by
    have h2 : els[i].drop 1 = [] := List.drop_eq_nil_of_le (by omega)
    simp only [splice, cells_S, List.take_zero, List.nil_append, List.length_cons, List.length_nil, Nat.zero_add, h2, List.append_nil]
  rw [this]
  simp [AS.set, refs_S]

theorem genSplit_D (l : List UInt8) (c : UInt8) (hl : l.length < 2^30) (H : List AObj) (lo : Option Nat) : ∃ r, D X (.fn (.func fn_strings_genSplit) [] []) [S l, S [c], .int .i64 0, .int .i64 (-1)] ⟨H, lo⟩ = some (.ret r ⟨H, lo⟩) ∧ Rv r 1 (ls (splitS c l)) := by
  suffices h : ∃ cr, D X (.fn (.func fn_strings_genSplit) [] []) [S l, S [c], .int .i64 0, .int .i64 (-1)] ⟨H, lo⟩ = some cr ∧ (fun cr => ∃ r, cr = CRes.ret r ⟨H, lo⟩ ∧ Rv r 1 (ls (splitS c l))) cr by
    obtain ⟨cr, h1, r, rfl, h2⟩ := h
    exact ⟨r, h1, h2⟩
  refine D_fn_ex pf_strings_genSplit rfl rfl rfl fun N hN => ?_
  have hcl := cnt_le c l
  have hcd := Count_D l c (by omega)
  have hcd' : ∀ H lo, D X (.fn (.func fn_strings_Count) [] []) [S l, S [c]] ⟨H, lo⟩ = some (.ret (.int .i64 (cnt c l)) ⟨H, lo⟩) := hcd
  have hmin : min ((cnt c l : Int) + 1) ((l.length : Int) + 1) = (cnt c l : Int) + 1 := by omega
  have hmk : mksliceA ⟨H, none⟩ ty_string [S []] 16 (.int .i64 ((cnt c l : Int) + 1)) (.int .i64 ((cnt c l : Int) + 1)) = some (.ref N 0 1 0 (cnt c l + 1) false, ⟨H ++ [.row 0 1 ty_string (List.replicate (cnt c l + 1) [S []])], none⟩) := by
    simp only [mksliceA]
    rw [if_pos ⟨by omega, by omega, by unfold room; omega, by unfold room; omega⟩, hN, show ((cnt c l : Int) + 1).toNat = cnt c l + 1 by omega]
    rfl
  simp (maxSteps := 2000000) (disch := omega) only [condK_dec, F1, ↓Int.cast_ofNat_Int, ↓R1, R2, C1, P1, N1, O1, V1, V2, V3, reduceCtorEq, Nat.reduceEqDiff, Nat.reduceBEq, Nat.reduceAdd, Nat.reduceSub, Nat.reduceMul, Nat.reduceLeDiff, Nat.reduceLT, Int.reduceEq, Int.reduceAdd, Int.reduceSub, Int.reduceMul, Int.reduceLT, Int.reduceLE, Int.reduceNeg, Int.reduceToNat, wrap_i64, wrap_u64, wrap_u8, wrap_u16, wrap_u32, wrap_i32, base_get0, base_get, base_set0, base_set, base_take, take_self, take_app1, pf_strings_genSplit, hcd', hmin, hmk]
  obtain ⟨m, hm⟩ : ∃ m, cnt c l = m := ⟨_, rfl⟩
  rw [hm] at hcl ⊢
  clear hcd hcd' hmin hmk
  refine wp_loopN m (fun i e H' => e 1 = S [c] ∧ e 2 = .int .i64 0 ∧ e 3 = .int .i64 m ∧ e 9 = .ref N 0 1 0 (m + 1) false ∧ e 10 = .int .i64 i ∧
    ∃ fs r, fs.length = i ∧ splitS c l = fs ++ splitS c r ∧ cnt c r + i = m ∧ r.length ≤ l.length ∧ e 0 = S r ∧ H' = H ++ [.row 0 1 ty_string (ls fs ++ List.replicate (m + 1 - i) [S []])]) 0 (by omega) ?_ ?_
  · simp (maxSteps := 2000000) (disch := omega) only [F1, ↓Int.cast_ofNat_Int, ↓R1, R2, C1, P1, N1, O1, V1, V2, V3, reduceCtorEq, Nat.reduceEqDiff, Nat.reduceBEq, Nat.reduceAdd, Nat.reduceSub, Nat.reduceMul, Nat.reduceLeDiff, Nat.reduceLT, Int.reduceEq, Int.reduceAdd, Int.reduceSub, Int.reduceMul, Int.reduceLT, Int.reduceLE, Int.reduceNeg, Int.reduceToNat, wrap_i64, wrap_u64, wrap_u8, wrap_u16, wrap_u32, wrap_i32, base_get0, base_get, base_set0, base_set, base_take, take_self, take_app1]
    exact ⟨congrArg _ (by omega), [], l, rfl, rfl, hm, Nat.le_refl _, rfl, rfl⟩
  rintro i hi e H' ⟨h1, h2, h3, h9, h10, fs, r, hfs, hsp, hcr, hrl, h0, rfl⟩ n hn
  have hrow : (H ++ [AObj.row 0 1 ty_string (ls fs ++ List.replicate (m + 1 - i) [S []])])[N]? = some (.row 0 1 ty_string (ls fs ++ List.replicate (m + 1 - i) [S []])) := by rw [base_get0 hN]; rfl
  have hz : ∀ el ∈ ls fs ++ List.replicate (m + 1 - i) [S []], el.length = 1 := by
    intro el hel
    rcases List.mem_append.1 hel with h | h
    · simp only [ls, List.mem_map] at h; obtain ⟨x, _, rfl⟩ := h; rfl
    · rw [(List.mem_replicate.1 h).2]; rfl
  have hlen : (ls fs ++ List.replicate (m + 1 - i) [S []]).length = m + 1 := by simp [ls]; omega
  have hset : ∀ x, (ls fs ++ List.replicate (m + 1 - i) [S []]).set i [S x] = ls (fs ++ [x]) ++ List.replicate (m + 1 - (i + 1)) [S []] := by
    intro x
    have e1 : m + 1 - i = (m + 1 - (i + 1)) + 1 := by omega
    rw [e1, List.replicate_succ, List.set_append_right _ _ (by simp [ls]; omega)]
    simp [ls, hfs]
  have hst : ∀ x, storeA ⟨H ++ [AObj.row 0 1 ty_string (ls fs ++ List.replicate (m + 1 - i) [S []])], none⟩ 1 (.rptr N 0 i 0) (S x) = some ⟨H ++ [.row 0 1 ty_string (ls (fs ++ [x]) ++ List.replicate (m + 1 - (i + 1)) [S []])], none⟩ := by
    intro x
    rw [store_row hrow (by omega) hz, hset, base_set0 hN]; rfl
  have hadr : iaddrsA 1 (.ref N 0 1 0 (m + 1) false) (.int .i64 i) = some (.rptr N 0 i 0) := by
    simp only [iaddrsA, intOf?]
    rw [if_pos ⟨by omega, by omega, trivial⟩, Int.toNat_natCast, Nat.zero_add]
  have hidx := Index_D r c (by omega)
  by_cases hlt : i < m
  · have hlt' : (i : Int) < m := by omega
    have hc1 := cnt_cut c r
    have hs1 := splitS_cut c r
    have hcl2 := cutS_len c r
    rcases cutS_idx c r with ⟨q1, q2⟩ | ⟨q1, q2, q3⟩
    · rw [q2] at hc1; simp at hc1; omega
    · rw [q3] at hc1 hs1 hcl2
      simp only [if_true] at hc1 hs1 hcl2
      have e5 : (idxB (↑c.toNat) r + 1).toNat = (idxB (↑c.toNat) r).toNat + 1 := by omega
      have hneg : ¬ idxB (↑c.toNat) r < 0 := by omega
      simp (maxSteps := 2000000) (disch := omega) only [condK_dec, F1, ↓Int.cast_ofNat_Int, ↓R1, R2, C1, P1, N1, O1, V1, V2, V3, reduceCtorEq, Nat.reduceEqDiff, Nat.reduceBEq, Nat.reduceAdd, Nat.reduceSub, Nat.reduceMul, Nat.reduceLeDiff, Nat.reduceLT, Int.reduceEq, Int.reduceAdd, Int.reduceSub, Int.reduceMul, Int.reduceLT, Int.reduceLE, Int.reduceNeg, Int.reduceToNat, wrap_i64, wrap_u64, wrap_u8, wrap_u16, wrap_u32, wrap_i32, base_get0, base_get, base_set0, base_set, base_take, take_self, take_app1, l1_strings_genSplit, h0, h1, h2, h3, h9, h10, hidx, hadr, hst, hlt', hneg, Int.add_zero, e5]
      refine ⟨by omega, by omega, hlt, fs ++ [List.take (idxB (↑c.toNat) r).toNat r], _, by simp [hfs], ?_, by omega, by omega, rfl, rfl⟩
      rw [hsp, hs1]; simp
  · have him : i = m := by omega
    subst him
    have hc1 := cnt_cut c r
    have hs1 := splitS_cut c r
    have hcf : (cutS c r).2.2 = false := by
      cases hx : (cutS c r).2.2
      · rfl
      · rw [hx] at hc1; simp at hc1; omega
    rw [hcf] at hs1
    simp only [Bool.false_eq_true, if_false] at hs1
    have hsl : slslA 1 (.ref N 0 1 0 (i + 1) false) none (some (.int .i64 ((i : Int) + 1))) none = some (.ref N 0 1 0 (i + 1) false) := by
      simp only [slslA, boundsA, upTo, capA]
      rw [if_pos ⟨by omega, by omega⟩]
      simp
    have hnl : ¬ (i : Int) < i := by omega
    simp (maxSteps := 2000000) (disch := omega) only [↓Int.cast_ofNat_Int, ↓R1, R2, C1, P1, N1, O1, V1, V2, V3, reduceCtorEq, Nat.reduceEqDiff, Nat.reduceBEq, Nat.reduceAdd, Nat.reduceSub, Nat.reduceMul, Nat.reduceLeDiff, Nat.reduceLT, Int.reduceEq, Int.reduceAdd, Int.reduceSub, Int.reduceMul, Int.reduceLT, Int.reduceLE, Int.reduceNeg, Int.reduceToNat, wrap_i64, wrap_u64, wrap_u8, wrap_u16, wrap_u32, wrap_i32, base_get0, base_get, base_set0, base_set, base_take, take_self, take_app1, l1_strings_genSplit, h0, h1, h2, h3, h9, h10, hadr, hst, hnl, hsl, Nat.sub_self]
    have how : Own N (H ++ [AObj.row 0 1 ty_string (ls (fs ++ [r]))]) (.ref N 0 1 0 (i + 1) false) 1 ty_string (ls (fs ++ [r])) := by
      refine ⟨?_, .inr ⟨N, 0, Nat.le_refl _, ?_, by rw [base_get0 hN]; rfl⟩⟩
      · intro el hel; simp only [ls, List.mem_map] at hel; obtain ⟨x, _, rfl⟩ := hel; rfl
      · simp [ls, hfs]
    have hr0 : refsLL (ls (fs ++ [r])) ≤ N := by
      have : refsLL (ls (fs ++ [r])) = 0 := refsLL_map (fun x => by simp [refsL, refs_S]) _
      rw [this]; exact Nat.zero_le _
    rw [how.finish1 hr0]
    refine ⟨_, ret_eq rfl (base_take hN), ?_⟩
    rw [hsp, hs1]
    exact how.frz_rv

theorem Split_D (l : List UInt8) (c : UInt8) (hl : l.length < 2^30) (H : List AObj) (lo : Option Nat) : ∃ r, D X (.fn (.func fn_strings_Split) [] []) [S l, S [c]] ⟨H, lo⟩ = some (.ret r ⟨H, lo⟩) ∧ Rv r 1 (ls (splitS c l)) := by
  suffices h : ∃ cr, D X (.fn (.func fn_strings_Split) [] []) [S l, S [c]] ⟨H, lo⟩ = some cr ∧ (fun cr => ∃ r, cr = CRes.ret r ⟨H, lo⟩ ∧ Rv r 1 (ls (splitS c l))) cr by
    obtain ⟨cr, h1, r, rfl, h2⟩ := h
    exact ⟨r, h1, h2⟩
  refine D_fn_ex pf_strings_Split rfl rfl rfl fun N hN => ?_
  obtain ⟨r, e1, e2⟩ := genSplit_D l c hl H none
  simp (maxSteps := 2000000) (disch := omega) only [↓Int.cast_ofNat_Int, ↓R1, R2, C1, P1, N1, O1, V1, V2, V3, reduceCtorEq, Nat.reduceEqDiff, Nat.reduceBEq, Nat.reduceAdd, Nat.reduceSub, Nat.reduceMul, Nat.reduceLeDiff, Nat.reduceLT, Int.reduceEq, Int.reduceAdd, Int.reduceSub, Int.reduceMul, Int.reduceLT, Int.reduceLE, Int.reduceNeg, Int.reduceToNat, wrap_i64, wrap_u64, wrap_u8, wrap_u16, wrap_u32, wrap_i32, base_get0, base_get, base_set0, base_set, base_take, take_self, take_app1, pf_strings_Split, e1]
  have hrefs : r.refs = 0 := by
    obtain ⟨h1, h2, h3⟩ := e2 ⟨[], none⟩
    cases r <;> simp only [] at h1
    · rfl
    · simp only [Den.elems] at h2
      split at h2
      · cases h2
        simp only [AV.refs]
        exact refsLL_map (fun x => by simp [refsL, refs_S]) _
      · cases h2
    · simp [Den.elems] at h2
  rw [finish_0, if_pos (by omega)]
  exact ⟨r, ret_eq rfl (take_self hN), e2⟩


end Go.Proofs.YtnnadieejpaknaaGreatDoor

/- Lines and keys: what the program's and the document's functions compute; that it is the same. -/
namespace Go.Proofs.YtnnadieejpaknaaGreatDoor
open Go Go.Den
set_option maxRecDepth 10000
set_option maxHeartbeats 1000000

/-- A text without a line's end behind it. -/
def endsNl (l : List UInt8) : Bool := decide (1 ≤ l.length ∧ l.drop (l.length - 1) = [10])
def trimN (l : List UInt8) : List UInt8 := if endsNl l then l.take (l.length - 1) else l

theorem HasSuffix_D (l : List UInt8) (hl : l.length < 2^40) (H : List AObj) (lo : Option Nat) : D X (.fn (.func fn_istringslite_HasSuffix) [] []) [S l, S [10]] ⟨H, lo⟩ = some (.ret (.bool (endsNl l)) ⟨H, lo⟩) := by
  refine D_fn pf_istringslite_HasSuffix rfl rfl rfl fun N hN => ?_
  simp (maxSteps := 2000000) (disch := omega) only [F1, ↓Int.cast_ofNat_Int, ↓R1, R2, C1, P1, N1, O1, V1, V2, V3, reduceCtorEq, Nat.reduceEqDiff, Nat.reduceBEq, Nat.reduceAdd, Nat.reduceSub, Nat.reduceMul, Nat.reduceLeDiff, Nat.reduceLT, Int.reduceEq, Int.reduceAdd, Int.reduceSub, Int.reduceMul, Int.reduceLT, Int.reduceLE, Int.reduceNeg, Int.reduceToNat, wrap_i64, wrap_u64, wrap_u8, wrap_u16, wrap_u32, wrap_i32, base_get0, base_get, base_set0, base_set, base_take, take_self, take_app1, pf_istringslite_HasSuffix, hN]
  refine gK_keep 4 (.bool (endsNl l)) [] rfl rfl ?_ fun e0 => ?_
  · simp (maxSteps := 2000000) (disch := omega) only [R4, F1, ↓Int.cast_ofNat_Int, ↓R1, R2, C1, P1, N1, O1, V1, V2, V3, reduceCtorEq, Nat.reduceEqDiff, Nat.reduceBEq, Nat.reduceAdd, Nat.reduceSub, Nat.reduceMul, Nat.reduceLeDiff, Nat.reduceLT, Int.reduceEq, Int.reduceAdd, Int.reduceSub, Int.reduceMul, Int.reduceLT, Int.reduceLE, Int.reduceNeg, Int.reduceToNat, wrap_i64, wrap_u64, wrap_u8, wrap_u16, wrap_u32, wrap_i32, base_get0, base_get, base_set0, base_set, base_take, take_self, take_app1, hN]
    refine ⟨fun h => ?_, fun h => ?_⟩
    · have e : ((l.length : Int) - 1).toNat = l.length - 1 := by omega
      have e2 : l.take l.length = l := List.take_length
      simp (maxSteps := 2000000) (disch := omega) only [F1, ↓Int.cast_ofNat_Int, ↓R1, R2, C1, P1, N1, O1, V1, V2, V3, reduceCtorEq, Nat.reduceEqDiff, Nat.reduceBEq, Nat.reduceAdd, Nat.reduceSub, Nat.reduceMul, Nat.reduceLeDiff, Nat.reduceLT, Int.reduceEq, Int.reduceAdd, Int.reduceSub, Int.reduceMul, Int.reduceLT, Int.reduceLE, Int.reduceNeg, Int.reduceToNat, wrap_i64, wrap_u64, wrap_u8, wrap_u16, wrap_u32, wrap_i32, base_get0, base_get, base_set0, base_set, base_take, take_self, take_app1, hN, e, e2, h]
      refine ⟨⟨by omega, by omega⟩, congrArg AV.bool ?_⟩
      have : 1 ≤ l.length := by omega
      simp [endsNl, this]
    · refine congrArg AV.bool ?_
      simp [endsNl]; omega
  simp (maxSteps := 2000000) (disch := omega) only [F1, ↓Int.cast_ofNat_Int, ↓R1, R2, C1, P1, N1, O1, V1, V2, V3, reduceCtorEq, Nat.reduceEqDiff, Nat.reduceBEq, Nat.reduceAdd, Nat.reduceSub, Nat.reduceMul, Nat.reduceLeDiff, Nat.reduceLT, Int.reduceEq, Int.reduceAdd, Int.reduceSub, Int.reduceMul, Int.reduceLT, Int.reduceLE, Int.reduceNeg, Int.reduceToNat, wrap_i64, wrap_u64, wrap_u8, wrap_u16, wrap_u32, wrap_i32, base_get0, base_get, base_set0, base_set, base_take, take_self, take_app1, hN]

theorem sliteTrim_D (l : List UInt8) (hl : l.length < 2^40) (H : List AObj) (lo : Option Nat) : D X (.fn (.func fn_istringslite_TrimSuffix) [] []) [S l, S [10]] ⟨H, lo⟩ = some (.ret (S (trimN l)) ⟨H, lo⟩) := by
  refine D_fn pf_istringslite_TrimSuffix rfl rfl rfl fun N hN => ?_
  cases he : endsNl l with
  | true =>
    have h1 : 1 ≤ l.length := by
      simp [endsNl] at he; omega
    have e : ((l.length : Int) - 1).toNat = l.length - 1 := by omega
    simp (maxSteps := 2000000) (disch := omega) only [F1, ↓Int.cast_ofNat_Int, ↓R1, R2, C1, P1, N1, O1, V1, V2, V3, reduceCtorEq, Nat.reduceEqDiff, Nat.reduceBEq, Nat.reduceAdd, Nat.reduceSub, Nat.reduceMul, Nat.reduceLeDiff, Nat.reduceLT, Int.reduceEq, Int.reduceAdd, Int.reduceSub, Int.reduceMul, Int.reduceLT, Int.reduceLE, Int.reduceNeg, Int.reduceToNat, wrap_i64, wrap_u64, wrap_u8, wrap_u16, wrap_u32, wrap_i32, base_get0, base_get, base_set0, base_set, base_take, take_self, take_app1, pf_istringslite_TrimSuffix, HasSuffix_D l hl, hN, he, e, trimN]
    omega
  | false => simp (maxSteps := 2000000) (disch := omega) only [F1, ↓Int.cast_ofNat_Int, ↓R1, R2, C1, P1, N1, O1, V1, V2, V3, reduceCtorEq, Nat.reduceEqDiff, Nat.reduceBEq, Nat.reduceAdd, Nat.reduceSub, Nat.reduceMul, Nat.reduceLeDiff, Nat.reduceLT, Int.reduceEq, Int.reduceAdd, Int.reduceSub, Int.reduceMul, Int.reduceLT, Int.reduceLE, Int.reduceNeg, Int.reduceToNat, wrap_i64, wrap_u64, wrap_u8, wrap_u16, wrap_u32, wrap_i32, base_get0, base_get, base_set0, base_set, base_take, take_self, take_app1, pf_istringslite_TrimSuffix, HasSuffix_D l hl, hN, he, trimN]

theorem TrimSuffix_D (l : List UInt8) (hl : l.length < 2^40) (H : List AObj) (lo : Option Nat) : D X (.fn (.func fn_strings_TrimSuffix) [] []) [S l, S [10]] ⟨H, lo⟩ = some (.ret (S (trimN l)) ⟨H, lo⟩) := by
  refine D_fn pf_strings_TrimSuffix rfl rfl rfl fun N hN => ?_
  simp (maxSteps := 2000000) (disch := omega) only [F1, ↓Int.cast_ofNat_Int, ↓R1, R2, C1, P1, N1, O1, V1, V2, V3, reduceCtorEq, Nat.reduceEqDiff, Nat.reduceBEq, Nat.reduceAdd, Nat.reduceSub, Nat.reduceMul, Nat.reduceLeDiff, Nat.reduceLT, Int.reduceEq, Int.reduceAdd, Int.reduceSub, Int.reduceMul, Int.reduceLT, Int.reduceLE, Int.reduceNeg, Int.reduceToNat, wrap_i64, wrap_u64, wrap_u8, wrap_u16, wrap_u32, wrap_i32, base_get0, base_get, base_set0, base_set, base_take, take_self, take_app1, pf_strings_TrimSuffix, sliteTrim_D l hl, hN]

def linesD (l : List UInt8) : List (List UInt8) := if l = [] then [] else splitS 10 (trimN l)

theorem trimN_len (l : List UInt8) : (trimN l).length ≤ l.length := by
  unfold trimN; split
  · rw [List.length_take]; omega
  · exact Nat.le_refl _

theorem Lines_D (l : List UInt8) (hl : l.length < 2^30) (H : List AObj) (lo : Option Nat) : ∃ r, D X (.fn (.func fn_dump_Lines) [] []) [S l] ⟨H, lo⟩ = some (.ret r ⟨H, lo⟩) ∧ Rv r 1 (ls (linesD l)) := by
  suffices h : ∃ cr, D X (.fn (.func fn_dump_Lines) [] []) [S l] ⟨H, lo⟩ = some cr ∧ (fun cr => ∃ r, cr = CRes.ret r ⟨H, lo⟩ ∧ Rv r 1 (ls (linesD l))) cr by
    obtain ⟨cr, h1, r, rfl, h2⟩ := h
    exact ⟨r, h1, h2⟩
  refine D_fn_ex pf_dump_Lines rfl rfl rfl fun N hN => ?_
  by_cases h0 : l = []
  · subst h0
    simp (maxSteps := 2000000) (disch := omega) only [F1, ↓Int.cast_ofNat_Int, ↓R1, R2, C1, P1, N1, O1, V1, V2, V3, reduceCtorEq, Nat.reduceEqDiff, Nat.reduceBEq, Nat.reduceAdd, Nat.reduceSub, Nat.reduceMul, Nat.reduceLeDiff, Nat.reduceLT, Int.reduceEq, Int.reduceAdd, Int.reduceSub, Int.reduceMul, Int.reduceLT, Int.reduceLE, Int.reduceNeg, Int.reduceToNat, wrap_i64, wrap_u64, wrap_u8, wrap_u16, wrap_u32, wrap_i32, base_get0, base_get, base_set0, base_set, base_take, take_self, take_app1, pf_dump_Lines, hN, take_self hN]
    exact ⟨_, rfl, Rv.nils⟩
  · have hlen := trimN_len l
    obtain ⟨r, e1, e2⟩ := Split_D (trimN l) 10 (by omega) H none
    simp (maxSteps := 2000000) (disch := omega) only [↓Int.cast_ofNat_Int, ↓R1, R2, C1, P1, N1, O1, V1, V2, V3, reduceCtorEq, Nat.reduceEqDiff, Nat.reduceBEq, Nat.reduceAdd, Nat.reduceSub, Nat.reduceMul, Nat.reduceLeDiff, Nat.reduceLT, Int.reduceEq, Int.reduceAdd, Int.reduceSub, Int.reduceMul, Int.reduceLT, Int.reduceLE, Int.reduceNeg, Int.reduceToNat, wrap_i64, wrap_u64, wrap_u8, wrap_u16, wrap_u32, wrap_i32, base_get0, base_get, base_set0, base_set, base_take, take_self, take_app1, pf_dump_Lines, TrimSuffix_D l (by omega), e1, h0]
    have hrefs : r.refs = 0 := by
      obtain ⟨h1, h2, h3⟩ := e2 ⟨[], none⟩
      cases r <;> simp only [] at h1
      · rfl
      · simp only [Den.elems] at h2
        split at h2
        · cases h2
          simp only [AV.refs]
          exact refsLL_map (fun x => by simp [refsL, refs_S]) _
        · cases h2
      · simp [Den.elems] at h2
    rw [finish_0, if_pos (by omega)]
    refine ⟨r, ret_eq rfl (take_self hN), ?_⟩
    unfold linesD; rw [if_neg h0]; exact e2

/-- What Key computes. -/
def keyP (l : List UInt8) : List UInt8 := if (cutS 32 l).2.2 then (cutS 32 l).1 ++ [32] ++ (cutS 32 (cutS 32 l).2.1).1 else (cutS 32 l).1

theorem Key_D (l : List UInt8) (hl : l.length < 2^30) (H : List AObj) (lo : Option Nat) : D X (.fn (.func fn_dump_Key) [] []) [S l] ⟨H, lo⟩ = some (.ret (S (keyP l)) ⟨H, lo⟩) := by
  refine D_fn pf_dump_Key rfl rfl rfl fun N hN => ?_
  have h1 := cutS_len 32 l
  have h2 := cutS_len 32 (cutS 32 l).2.1
  have hc := Cut_D (cutS 32 l).2.1 32 (by omega)
  cases he : (cutS 32 l).2.2 with
  | true =>
    simp (maxSteps := 2000000) (disch := omega) only [F1, ↓Int.cast_ofNat_Int, ↓R1, R2, C1, P1, N1, O1, V1, V2, V3, reduceCtorEq, Nat.reduceEqDiff, Nat.reduceBEq, Nat.reduceAdd, Nat.reduceSub, Nat.reduceMul, Nat.reduceLeDiff, Nat.reduceLT, Int.reduceEq, Int.reduceAdd, Int.reduceSub, Int.reduceMul, Int.reduceLT, Int.reduceLE, Int.reduceNeg, Int.reduceToNat, wrap_i64, wrap_u64, wrap_u8, wrap_u16, wrap_u32, wrap_i32, base_get0, base_get, base_set0, base_set, base_take, take_self, take_app1, pf_dump_Key, Cut_D l 32 (by omega), hc, hN, he, keyP]
    unfold strRoom; omega
  | false => simp (maxSteps := 2000000) (disch := omega) only [F1, ↓Int.cast_ofNat_Int, ↓R1, R2, C1, P1, N1, O1, V1, V2, V3, reduceCtorEq, Nat.reduceEqDiff, Nat.reduceBEq, Nat.reduceAdd, Nat.reduceSub, Nat.reduceMul, Nat.reduceLeDiff, Nat.reduceLT, Int.reduceEq, Int.reduceAdd, Int.reduceSub, Int.reduceMul, Int.reduceLT, Int.reduceLE, Int.reduceNeg, Int.reduceToNat, wrap_i64, wrap_u64, wrap_u8, wrap_u16, wrap_u32, wrap_i32, base_get0, base_get, base_set0, base_set, base_take, take_self, take_app1, pf_dump_Key, Cut_D l 32 (by omega), hc, hN, he, keyP]

/-- The document's lines, byte by byte. -/
def stepL (p : List (List UInt8) × List UInt8) (b : UInt8) : List (List UInt8) × List UInt8 := if b = 10 then (p.1 ++ [p.2], []) else (p.1, p.2 ++ [b])
def stL (l : List UInt8) : List (List UInt8) × List UInt8 := l.foldl stepL ([], [])
def linesR (l : List UInt8) : List (List UInt8) := if (stL l).2 = [] then (stL l).1 else (stL l).1 ++ [(stL l).2]

def glue (cur : List UInt8) (l : List UInt8) : List (List UInt8) := match splitS 10 l with
  | x :: xs => (cur ++ x) :: xs
  | [] => [cur]

theorem fold_glue : ∀ (l : List UInt8) (o : List (List UInt8)) (cur : List UInt8), (l.foldl stepL (o, cur)).1 ++ [(l.foldl stepL (o, cur)).2] = o ++ glue cur l
  | [], o, cur => by simp [glue, splitS]
  | b :: bs, o, cur => by
    rw [List.foldl_cons]
    by_cases h : b = 10
    · have e : stepL (o, cur) b = (o ++ [cur], []) := if_pos h
      rw [e, fold_glue bs]
      simp only [glue, splitS, if_pos h]
      cases hs : splitS 10 bs with
      | nil => exact absurd hs (splitS_ne 10 bs)
      | cons x xs => simp
    · have e : stepL (o, cur) b = (o, cur ++ [b]) := if_neg h
      rw [e, fold_glue bs]
      simp only [glue, splitS, if_neg h]
      cases hs : splitS 10 bs with
      | nil => exact absurd hs (splitS_ne 10 bs)
      | cons x xs => simp

theorem st_split (l : List UInt8) : (stL l).1 ++ [(stL l).2] = splitS 10 l := by
  have := fold_glue l [] []
  rw [List.nil_append] at this
  unfold stL
  rw [this]
  unfold glue
  cases hs : splitS 10 l with
  | nil => exact absurd hs (splitS_ne 10 l)
  | cons x xs => simp

theorem st_snoc (l : List UInt8) (b : UInt8) : stL (l ++ [b]) = stepL (stL l) b := by simp [stL]

theorem endsNl_snoc (m : List UInt8) (b : UInt8) : endsNl (m ++ [b]) = decide (b = 10) := by
  simp [endsNl]

theorem lines_eq (l : List UInt8) : linesD l = linesR l := by
  unfold linesD linesR
  by_cases h0 : l = []
  · subst h0; rfl
  · rw [if_neg h0]
    obtain ⟨m, b, rfl⟩ : ∃ m b, l = m ++ [b] := ⟨l.dropLast, l.getLast h0, (List.dropLast_concat_getLast h0).symm⟩
    rw [st_snoc]
    unfold trimN
    rw [endsNl_snoc]
    by_cases hb : b = 10
    · have e : stepL (stL m) b = ((stL m).1 ++ [(stL m).2], []) := if_pos hb
      rw [e, if_pos (by simpa using hb), if_pos rfl]
      simp only [List.length_append, List.length_cons, List.length_nil, Nat.zero_add, Nat.add_sub_cancel, List.take_left']
      exact (st_split m).symm
    · have e : stepL (stL m) b = ((stL m).1, (stL m).2 ++ [b]) := if_neg hb
      rw [if_neg (by simpa using hb), e, if_neg (by simp), ← e, ← st_snoc, ← st_split]

/-- The document's key, byte by byte. -/
def keyR : Nat → List UInt8 → List UInt8
  | _, [] => []
  | n, b :: bs => if b = 32 then (if n = 1 then [] else 32 :: keyR (n + 1) bs) else b :: keyR n bs

theorem keyR_1 : ∀ l : List UInt8, keyR 1 l = (cutS 32 l).1
  | [] => rfl
  | b :: bs => by
    simp only [keyR, cutS]
    by_cases h : b = 32
    · simp [h]
    · simp [h, keyR_1 bs]

theorem key_eq : ∀ l : List UInt8, keyP l = keyR 0 l
  | [] => rfl
  | b :: bs => by
    have ih := key_eq bs
    unfold keyP at ih ⊢
    simp only [keyR, cutS]
    by_cases h : b = 32
    · simp [h, keyR_1]
    · simp only [if_neg h]
      rw [← ih]
      cases (cutS 32 bs).2.2 <;> simp

end Go.Proofs.YtnnadieejpaknaaGreatDoor

/- The law's own check, by the kernel, over its parts. -/
namespace Go.Proofs.YtnnadieejpaknaaGreatDoor
open Go Go.Den
set_option maxRecDepth 100000

theorem state_D : D X1 (.fn (.func fn_Pdump_dumper_state) [] []) argsD Sa = some (.ret (.tup []) S3) := by
  obtain ⟨σ, h, e⟩ := isLit_iff state_F
  have := kF1_D 3000 _ _ _ _ h
  simp only [FCRes.dec, FS.enc_dec, e] at this
  exact this
noncomputable def staP := litP argsD Sa (.tup []) S3
noncomputable def X2 : Ctx := { X0 with prim := fun f => if f = fn_Pdump_dumper_state then some staP else X0.prim f }
noncomputable def PR2 : PrimsF := fun f => if f = fn_Pdump_dumper_state then some (litF argsD Sa (.tup []) S3) else PR0 f
theorem PR2_ok : PrimsF.ok X2 PR2 := fun f q h => by
  unfold PR2 at h
  split at h
  · rename_i hf; cases h; exact ⟨staP, by simp [X2, hf], litF_ok _ _ _ _⟩
  · rename_i hf1
    obtain ⟨p, hp, hq⟩ := PR0_ok f q h
    exact ⟨p, by simp only [X2]; rw [if_neg hf1]; exact hp, hq⟩
theorem PR2_keep : PrimsKeep PR2 := fun f q h => by
  unfold PR2 at h
  split at h
  · cases h; exact litF_keep _ _ _ _
  · exact PR0_keep f q h
noncomputable def kF2 (n : Nat) : CallerF := callF X2 PR2 n
theorem kF2_D (n : Nat) : CSnd (kF2 n) (D X2) := D_callF X2 PR2 PR2_ok PR2_keep

def lines3 : List (List UInt8) := [[110, 101, 120, 116, 32, 116, 97, 98, 108, 101, 32, 49, 44, 50, 44, 51, 44, 52, 44, 53, 44, 54, 44, 55, 44, 56, 44, 57, 44, 49, 48, 44, 49, 49, 44, 49, 50, 44, 49, 51, 44, 49, 52, 44, 49, 53, 44, 49, 54, 44, 49, 55, 44, 49, 56, 44, 49, 57, 44, 50, 48, 44, 50, 49, 44, 50, 50, 44, 50, 51, 44, 50, 52, 44, 50, 53, 44, 50, 54, 44, 50, 55, 44, 50, 56, 44, 50, 57, 44, 51, 48, 44, 51, 49, 44, 51, 50], [110, 101, 120, 116, 32, 116, 111, 107, 101, 110, 115, 32, 49, 44, 50, 44, 51, 44, 52, 44, 53, 44, 54, 44, 55, 44, 56, 44, 57, 44, 49, 48, 44, 49, 49, 44, 49, 50, 44, 49, 51, 44, 49, 52, 44, 49, 53, 44, 49, 54], [108, 105, 102, 101, 32, 48, 32, 97, 108, 105, 118, 101, 32, 121, 101, 115, 32, 98, 111, 114, 110, 32, 121, 101, 115], [108, 105, 102, 101, 32, 49, 32, 97, 108, 105, 118, 101, 32, 110, 111, 32, 98, 111, 114, 110, 32, 110, 111], [108, 105, 102, 101, 32, 50, 32, 97, 108, 105, 118, 101, 32, 110, 111, 32, 98, 111, 114, 110, 32, 110, 111], [108, 105, 102, 101, 32, 51, 32, 97, 108, 105, 118, 101, 32, 110, 111, 32, 98, 111, 114, 110, 32, 110, 111], [108, 105, 102, 101, 32, 52, 32, 97, 108, 105, 118, 101, 32, 110, 111, 32, 98, 111, 114, 110, 32, 110, 111], [108, 105, 102, 101, 32, 53, 32, 97, 108, 105, 118, 101, 32, 110, 111, 32, 98, 111, 114, 110, 32, 110, 111], [108, 105, 102, 101, 32, 54, 32, 97, 108, 105, 118, 101, 32, 110, 111, 32, 98, 111, 114, 110, 32, 110, 111], [108, 105, 102, 101, 32, 55, 32, 97, 108, 105, 118, 101, 32, 110, 111, 32, 98, 111, 114, 110, 32, 110, 111], [98, 111, 120, 32, 48, 32, 99, 108, 111, 115, 101, 100, 32, 110, 111], [98, 111, 120, 32, 49, 32, 99, 108, 111, 115, 101, 100, 32, 110, 111], [98, 111, 120, 32, 50, 32, 99, 108, 111, 115, 101, 100, 32, 110, 111], [98, 111, 120, 32, 51, 32, 99, 108, 111, 115, 101, 100, 32, 110, 111], [98, 111, 120, 32, 52, 32, 99, 108, 111, 115, 101, 100, 32, 110, 111], [98, 111, 120, 32, 53, 32, 99, 108, 111, 115, 101, 100, 32, 110, 111], [98, 111, 120, 32, 54, 32, 99, 108, 111, 115, 101, 100, 32, 110, 111], [98, 111, 120, 32, 55, 32, 99, 108, 111, 115, 101, 100, 32, 110, 111]]
def bytes3 : List UInt8 := [110, 101, 120, 116, 32, 116, 97, 98, 108, 101, 32, 49, 44, 50, 44, 51, 44, 52, 44, 53, 44, 54, 44, 55, 44, 56, 44, 57, 44, 49, 48, 44, 49, 49, 44, 49, 50, 44, 49, 51, 44, 49, 52, 44, 49, 53, 44, 49, 54, 44, 49, 55, 44, 49, 56, 44, 49, 57, 44, 50, 48, 44, 50, 49, 44, 50, 50, 44, 50, 51, 44, 50, 52, 44, 50, 53, 44, 50, 54, 44, 50, 55, 44, 50, 56, 44, 50, 57, 44, 51, 48, 44, 51, 49, 44, 51, 50, 10, 110, 101, 120, 116, 32, 116, 111, 107, 101, 110, 115, 32, 49, 44, 50, 44, 51, 44, 52, 44, 53, 44, 54, 44, 55, 44, 56, 44, 57, 44, 49, 48, 44, 49, 49, 44, 49, 50, 44, 49, 51, 44, 49, 52, 44, 49, 53, 44, 49, 54, 10, 108, 105, 102, 101, 32, 48, 32, 97, 108, 105, 118, 101, 32, 121, 101, 115, 32, 98, 111, 114, 110, 32, 121, 101, 115, 10, 108, 105, 102, 101, 32, 49, 32, 97, 108, 105, 118, 101, 32, 110, 111, 32, 98, 111, 114, 110, 32, 110, 111, 10, 108, 105, 102, 101, 32, 50, 32, 97, 108, 105, 118, 101, 32, 110, 111, 32, 98, 111, 114, 110, 32, 110, 111, 10, 108, 105, 102, 101, 32, 51, 32, 97, 108, 105, 118, 101, 32, 110, 111, 32, 98, 111, 114, 110, 32, 110, 111, 10, 108, 105, 102, 101, 32, 52, 32, 97, 108, 105, 118, 101, 32, 110, 111, 32, 98, 111, 114, 110, 32, 110, 111, 10, 108, 105, 102, 101, 32, 53, 32, 97, 108, 105, 118, 101, 32, 110, 111, 32, 98, 111, 114, 110, 32, 110, 111, 10, 108, 105, 102, 101, 32, 54, 32, 97, 108, 105, 118, 101, 32, 110, 111, 32, 98, 111, 114, 110, 32, 110, 111, 10, 108, 105, 102, 101, 32, 55, 32, 97, 108, 105, 118, 101, 32, 110, 111, 32, 98, 111, 114, 110, 32, 110, 111, 10, 98, 111, 120, 32, 48, 32, 99, 108, 111, 115, 101, 100, 32, 110, 111, 10, 98, 111, 120, 32, 49, 32, 99, 108, 111, 115, 101, 100, 32, 110, 111, 10, 98, 111, 120, 32, 50, 32, 99, 108, 111, 115, 101, 100, 32, 110, 111, 10, 98, 111, 120, 32, 51, 32, 99, 108, 111, 115, 101, 100, 32, 110, 111, 10, 98, 111, 120, 32, 52, 32, 99, 108, 111, 115, 101, 100, 32, 110, 111, 10, 98, 111, 120, 32, 53, 32, 99, 108, 111, 115, 101, 100, 32, 110, 111, 10, 98, 111, 120, 32, 54, 32, 99, 108, 111, 115, 101, 100, 32, 110, 111, 10, 98, 111, 120, 32, 55, 32, 99, 108, 111, 115, 101, 100, 32, 110, 111, 10]
theorem lines_is : linesD bytes3 = lines3 := by kernel_rfl
theorem rv_sl {r : AV} {els : List (List AV)} (h : Rv r 1 els) (hne : els ≠ []) : ∃ c, r = .sl els c := by
  obtain ⟨h1, h2, h3⟩ := h ⟨[], none⟩
  cases r <;> simp only [] at h1
  · simp only [Den.elems] at h2; exact absurd (Option.some.inj h2).symm hne
  · simp only [Den.elems] at h2
    split at h2
    · cases h2; exact ⟨_, rfl⟩
    · cases h2
  · simp [Den.elems] at h2
theorem lines_D : ∃ c, D X (.fn (.func fn_dump_Lines) [] []) [S bytes3] ⟨[], none⟩ = some (.ret (.sl (lines3.map fun x => [S x]) c) ⟨[], none⟩) := by
  obtain ⟨r, h, hr⟩ := Lines_D bytes3 (by decide) [] none
  rw [lines_is] at hr
  obtain ⟨c, rfl⟩ := rv_sl hr (by decide)
  exact ⟨c, h⟩
theorem State_F : isLit (kF2 3000 (.fn (.func fn_dump_State) [] []) [.agg B0] σF) (S bytes3) ⟨[], none⟩ = true := by kernel_rfl
theorem State_D : D X2 (.fn (.func fn_dump_State) [] []) [.agg B0] ⟨[], none⟩ = some (.ret (S bytes3) ⟨[], none⟩) := by
  obtain ⟨σ, h, e⟩ := isLit_iff State_F
  have := kF2_D 3000 _ _ _ _ h
  simp only [FCRes.dec, e] at this
  exact this

noncomputable def stP := litP [.agg B0] ⟨[], none⟩ (S bytes3) ⟨[], none⟩
def linesV (c : Bool) : AV := .sl (lines3.map fun x => [S x]) c
noncomputable def liP (c : Bool) := litP [S bytes3] ⟨[], none⟩ (linesV c) ⟨[], none⟩
noncomputable def X3 (c : Bool) : Ctx := { X0 with prim := fun f => if f = fn_dump_State then some stP else if f = fn_dump_Lines then some (liP c) else X0.prim f }
noncomputable def PR3 (c : Bool) : PrimsF := fun f => if f = fn_dump_State then some (litF [.agg B0] ⟨[], none⟩ (S bytes3) ⟨[], none⟩) else if f = fn_dump_Lines then some (litF [S bytes3] ⟨[], none⟩ (linesV c) ⟨[], none⟩) else PR0 f
theorem PR3_ok (c : Bool) : PrimsF.ok (X3 c) (PR3 c) := fun f q h => by
  unfold PR3 at h
  split at h
  · rename_i hf; cases h; exact ⟨stP, by simp [X3, hf], litF_ok _ _ _ _⟩
  · rename_i hf1
    split at h
    · rename_i hf; cases h; exact ⟨liP c, by simp only [X3]; rw [if_neg hf1, if_pos hf], litF_ok _ _ _ _⟩
    · rename_i hf2
      obtain ⟨p, hp, hq⟩ := PR0_ok f q h
      exact ⟨p, by simp only [X3]; rw [if_neg hf1, if_neg hf2]; exact hp, hq⟩
theorem PR3_keep (c : Bool) : PrimsKeep (PR3 c) := fun f q h => by
  unfold PR3 at h
  split at h
  · cases h; exact litF_keep _ _ _ _
  · split at h
    · cases h; exact litF_keep _ _ _ _
    · exact PR0_keep f q h
noncomputable def kF3 (c : Bool) (n : Nat) : CallerF := callF (X3 c) (PR3 c) n
theorem kF3_D (c : Bool) (n : Nat) : CSnd (kF3 c n) (D (X3 c)) := D_callF (X3 c) (PR3 c) (PR3_ok c) (PR3_keep c)

theorem wakes_F0 : isT (kF3 false 3000 (.fn (.func fn_law30_wakes) [] []) [] σF) = true := by kernel_rfl
theorem wakes_F1 : isT (kF3 true 3000 (.fn (.func fn_law30_wakes) [] []) [] σF) = true := by kernel_rfl
theorem wakes_D (c : Bool) : ∃ σ, D (X3 c) (.fn (.func fn_law30_wakes) [] []) [] ⟨[], none⟩ = some (.ret (.bool true) σ) := by
  obtain ⟨σ, hσ⟩ := isT_ret (show isT (kF3 c 3000 (.fn (.func fn_law30_wakes) [] []) [] σF) = true by cases c; exact wakes_F0; exact wakes_F1)
  exact ⟨σ.dec, kF3_D c 3000 _ _ _ _ hσ⟩
end Go.Proofs.YtnnadieejpaknaaGreatDoor
