/- Contracts of the functions on texts and of the laws: what they answer for every text (conditions: lengths). -/
import Derived.Test.YthbgjjdbcalhcaaGreatDoorCode
import Derived.Test.YthbgjjdbcalhcaaGreatDoorDenD
import Derived.Test.YthbgjjdbcalhcaaGreatDoorDenE
import Derived.Test.YthbgjjdbcalhcaaGreatDoorDenC
import Derived.Test.YthbgjjdbcalhcaaGreatDoorDiffA
set_option linter.unusedVariables false
set_option linter.unusedSimpArgs false
set_option linter.unusedSectionVars false
set_option linter.deprecated false

/- The primitives of the seat: the builder's own check, its growing, bytes counted and found. -/
namespace Go.Proofs.YthbgjjdbcalhcaaGreatDoor
open Go Go.Den

/-- How many such bytes. -/
def countP (args : List AV) (σ : AS) : Option CRes :=
  match args with
  | [.str s, .int .u8 c] => if 0 ≤ c ∧ c < 256 then some (.ret (.int .i64 ((s.data.toList.filter fun b => decide ((b.toNat : Int) = c)).length : Nat)) σ) else none
  | _ => none

def optI : Option Nat → Int
  | some i => i
  | none => -1

def idxB (c : Int) (l : List UInt8) : Int := optI (l.findIdx? (fun b => decide ((b.toNat : Int) = c)))

/-- Where the first one is. -/
def indexByteP (args : List AV) (σ : AS) : Option CRes :=
  match args with
  | [.str s, .int .u8 c] => if 0 ≤ c ∧ c < 256 then some (.ret (.int .i64 (idxB c s.data.toList)) σ) else none
  | _ => none

end Go.Proofs.YthbgjjdbcalhcaaGreatDoor

/- The context of the universal part: bytes counted and found, the law's check, as primitives. -/
namespace Go.Proofs.YthbgjjdbcalhcaaGreatDoor
open Go Go.Den
set_option maxRecDepth 10000
set_option maxHeartbeats 1000000

def primT : List (Nat × (List AV → AS → Option CRes)) := [(fn_ibytealg_CountString, countP), (fn_ibytealg_IndexByteString, indexByteP)]

def X : Ctx := { glob := fun _ => none, code := fun f => if f = fn_law31_wakes then none else codeT.lookup f, prim := fun f => primT.lookup f }

theorem u8_range (c : UInt8) : 0 ≤ (c.toNat : Int) ∧ (c.toNat : Int) < 256 := by
  have := c.toNat_lt; omega
theorem countStr_D (l : List UInt8) (c : UInt8) (σ : AS) : D X (.fn (.func fn_ibytealg_CountString) [] []) [S l, .int .u8 c.toNat] σ = some (.ret (.int .i64 ((l.filter fun b => decide ((b.toNat : Int) = c.toNat)).length : Nat)) σ) :=
  D_prim (p := countP) rfl (if_pos (u8_range c))
theorem idxStr_D (l : List UInt8) (c : UInt8) (σ : AS) : D X (.fn (.func fn_ibytealg_IndexByteString) [] []) [S l, .int .u8 c.toNat] σ = some (.ret (.int .i64 (idxB c.toNat l)) σ) :=
  D_prim (p := indexByteP) rfl (if_pos (u8_range c))

theorem getD1 (c : UInt8) : ([c] : List UInt8).getD 0 0 = c := rfl

theorem idxB_range (c : Int) (l : List UInt8) : -1 ≤ idxB c l ∧ idxB c l < l.length := by
  unfold idxB
  cases h : l.findIdx? (fun b => decide ((b.toNat : Int) = c)) with
  | none => simp [optI]; omega
  | some i =>
    have := (List.findIdx?_eq_some_iff_getElem.1 h).1
    simp only [optI]; omega

theorem IndexByte_D (l : List UInt8) (c : UInt8) (H : List AObj) (lo : Option Nat) : D X (.fn (.func fn_istringslite_IndexByte) [] []) [S l, .int .u8 c.toNat] ⟨H, lo⟩ = some (.ret (.int .i64 (idxB c.toNat l)) ⟨H, lo⟩) := by
  refine D_fn pf_istringslite_IndexByte rfl rfl rfl fun N hN => ?_
  simp (maxSteps := 2000000) (disch := omega) only [F1, ↓Int.cast_ofNat_Int, ↓R1, R2, C1, P1, N1, O1, V1, V2, V3, reduceCtorEq, Nat.reduceEqDiff, Nat.reduceBEq, Nat.reduceAdd, Nat.reduceSub, Nat.reduceMul, Nat.reduceLeDiff, Nat.reduceLT, Int.reduceEq, Int.reduceAdd, Int.reduceSub, Int.reduceMul, Int.reduceLT, Int.reduceLE, Int.reduceNeg, Int.reduceToNat, wrap_i64, wrap_u64, wrap_u8, wrap_u16, wrap_u32, wrap_i32, base_get0, base_get, base_set0, base_set, base_take, take_self, take_app1, pf_istringslite_IndexByte, idxStr_D]

theorem sliteIndex_D (l : List UInt8) (c : UInt8) (hl : l.length < 2^40) (H : List AObj) (lo : Option Nat) : D X (.fn (.func fn_istringslite_Index) [] []) [S l, S [c]] ⟨H, lo⟩ = some (.ret (.int .i64 (idxB c.toNat l)) ⟨H, lo⟩) := by
  refine D_fn pf_istringslite_Index rfl rfl rfl fun N hN => ?_
  simp (maxSteps := 2000000) (disch := omega) only [R4, F1, ↓Int.cast_ofNat_Int, ↓R1, R2, C1, P1, N1, O1, V1, V2, V3, reduceCtorEq, Nat.reduceEqDiff, Nat.reduceBEq, Nat.reduceAdd, Nat.reduceSub, Nat.reduceMul, Nat.reduceLeDiff, Nat.reduceLT, Int.reduceEq, Int.reduceAdd, Int.reduceSub, Int.reduceMul, Int.reduceLT, Int.reduceLE, Int.reduceNeg, Int.reduceToNat, wrap_i64, wrap_u64, wrap_u8, wrap_u16, wrap_u32, wrap_i32, base_get0, base_get, base_set0, base_set, base_take, take_self, take_app1, pf_istringslite_Index, IndexByte_D, getD1]
  refine ⟨fun h => ?_, fun _ => trivial⟩
  subst h
  simp [idxB, optI, List.findIdx?_cons]

theorem Index_D (l : List UInt8) (c : UInt8) (hl : l.length < 2^40) (H : List AObj) (lo : Option Nat) : D X (.fn (.func fn_strings_Index) [] []) [S l, S [c]] ⟨H, lo⟩ = some (.ret (.int .i64 (idxB c.toNat l)) ⟨H, lo⟩) := by
  refine D_fn pf_strings_Index rfl rfl rfl fun N hN => ?_
  simp (maxSteps := 2000000) (disch := omega) only [F1, ↓Int.cast_ofNat_Int, ↓R1, R2, C1, P1, N1, O1, V1, V2, V3, reduceCtorEq, Nat.reduceEqDiff, Nat.reduceBEq, Nat.reduceAdd, Nat.reduceSub, Nat.reduceMul, Nat.reduceLeDiff, Nat.reduceLT, Int.reduceEq, Int.reduceAdd, Int.reduceSub, Int.reduceMul, Int.reduceLT, Int.reduceLE, Int.reduceNeg, Int.reduceToNat, wrap_i64, wrap_u64, wrap_u8, wrap_u16, wrap_u32, wrap_i32, base_get0, base_get, base_set0, base_set, base_take, take_self, take_app1, pf_strings_Index, sliteIndex_D l c hl]

/-- A text up to the first such byte; what is behind; whether there is one. -/
def cutS (c : UInt8) : List UInt8 → List UInt8 × List UInt8 × Bool
  | [] => ([], [], false)
  | b :: bs => if b = c then ([], bs, true) else (b :: (cutS c bs).1, (cutS c bs).2.1, (cutS c bs).2.2)

theorem optI_map (q : Option Nat) : optI (q.map (· + 1)) = if optI q = -1 then -1 else optI q + 1 := by
  cases q with
  | none => rfl
  | some i =>
    have h : ¬ (optI (some i) = -1) := by simp only [optI]; omega
    rw [if_neg h]; rfl

theorem cutS_idx (c : UInt8) : ∀ l : List UInt8, (idxB c.toNat l = -1 ∧ cutS c l = (l, [], false)) ∨ (0 ≤ idxB c.toNat l ∧ idxB c.toNat l < l.length ∧ cutS c l = (l.take (idxB c.toNat l).toNat, l.drop ((idxB c.toNat l).toNat + 1), true))
  | [] => .inl ⟨rfl, rfl⟩
  | b :: bs => by
    have ih := cutS_idx c bs
    have hbc : (decide ((b.toNat : Int) = (c.toNat : Int))) = decide (b = c) := by
      rw [Bool.eq_iff_iff, decide_eq_true_eq, decide_eq_true_eq]
      exact ⟨fun h => UInt8.toNat_inj.1 (by omega), fun h => by rw [h]⟩
    by_cases h : b = c
    · right
      have e : idxB c.toNat (b :: bs) = 0 := by simp [idxB, optI, List.findIdx?_cons, h]
      rw [e]
      simp [cutS, h]
    · have e : idxB c.toNat (b :: bs) = if idxB c.toNat bs = -1 then -1 else idxB c.toNat bs + 1 := by
        simp only [idxB, List.findIdx?_cons, hbc, h, decide_false, Bool.false_eq_true, if_false]
        exact optI_map _
      rcases ih with ⟨h1, h2⟩ | ⟨h1, h2, h3⟩
      · left; rw [e, if_pos h1]; simp [cutS, h, h2]
      · right
        rw [e, if_neg (by omega)]
        refine ⟨by omega, by simp; omega, ?_⟩
        simp only [cutS, if_neg h, h3]
        have : (idxB c.toNat bs + 1).toNat = (idxB c.toNat bs).toNat + 1 := by omega
        rw [this]; simp

theorem sliteCut_D (l : List UInt8) (c : UInt8) (hl : l.length < 2^40) (H : List AObj) (lo : Option Nat) : D X (.fn (.func fn_istringslite_Cut) [] []) [S l, S [c]] ⟨H, lo⟩ = some (.ret (.tup [S (cutS c l).1, S (cutS c l).2.1, .bool (cutS c l).2.2]) ⟨H, lo⟩) := by
  refine D_fn pf_istringslite_Cut rfl rfl rfl fun N hN => ?_
  rcases cutS_idx c l with ⟨h1, h2⟩ | ⟨h1, h2, h3⟩
  · simp (maxSteps := 2000000) (disch := omega) only [condK_dec, F1, ↓Int.cast_ofNat_Int, ↓R1, R2, C1, P1, N1, O1, V1, V2, V3, reduceCtorEq, Nat.reduceEqDiff, Nat.reduceBEq, Nat.reduceAdd, Nat.reduceSub, Nat.reduceMul, Nat.reduceLeDiff, Nat.reduceLT, Int.reduceEq, Int.reduceAdd, Int.reduceSub, Int.reduceMul, Int.reduceLT, Int.reduceLE, Int.reduceNeg, Int.reduceToNat, wrap_i64, wrap_u64, wrap_u8, wrap_u16, wrap_u32, wrap_i32, base_get0, base_get, base_set0, base_set, base_take, take_self, take_app1, pf_istringslite_Cut, sliteIndex_D l c hl, h1, h2]
  · simp (maxSteps := 2000000) (disch := omega) only [condK_dec, F1, ↓Int.cast_ofNat_Int, ↓R1, R2, C1, P1, N1, O1, V1, V2, V3, reduceCtorEq, Nat.reduceEqDiff, Nat.reduceBEq, Nat.reduceAdd, Nat.reduceSub, Nat.reduceMul, Nat.reduceLeDiff, Nat.reduceLT, Int.reduceEq, Int.reduceAdd, Int.reduceSub, Int.reduceMul, Int.reduceLT, Int.reduceLE, Int.reduceNeg, Int.reduceToNat, wrap_i64, wrap_u64, wrap_u8, wrap_u16, wrap_u32, wrap_i32, base_get0, base_get, base_set0, base_set, base_take, take_self, take_app1, pf_istringslite_Cut, sliteIndex_D l c hl, h3, h1]
    refine ⟨by omega, by omega, ?_⟩
    rw [show (idxB c.toNat l + 1).toNat = (idxB c.toNat l).toNat + 1 by omega]

theorem Cut_D (l : List UInt8) (c : UInt8) (hl : l.length < 2^40) (H : List AObj) (lo : Option Nat) : D X (.fn (.func fn_strings_Cut) [] []) [S l, S [c]] ⟨H, lo⟩ = some (.ret (.tup [S (cutS c l).1, S (cutS c l).2.1, .bool (cutS c l).2.2]) ⟨H, lo⟩) := by
  refine D_fn pf_strings_Cut rfl rfl rfl fun N hN => ?_
  simp (maxSteps := 2000000) (disch := omega) only [F1, ↓Int.cast_ofNat_Int, ↓R1, R2, C1, P1, N1, O1, V1, V2, V3, reduceCtorEq, Nat.reduceEqDiff, Nat.reduceBEq, Nat.reduceAdd, Nat.reduceSub, Nat.reduceMul, Nat.reduceLeDiff, Nat.reduceLT, Int.reduceEq, Int.reduceAdd, Int.reduceSub, Int.reduceMul, Int.reduceLT, Int.reduceLE, Int.reduceNeg, Int.reduceToNat, wrap_i64, wrap_u64, wrap_u8, wrap_u16, wrap_u32, wrap_i32, base_get0, base_get, base_set0, base_set, base_take, take_self, take_app1, pf_strings_Cut, sliteCut_D l c hl]

theorem Count_D (l : List UInt8) (c : UInt8) (hl : l.length < 2^40) (H : List AObj) (lo : Option Nat) : D X (.fn (.func fn_strings_Count) [] []) [S l, S [c]] ⟨H, lo⟩ = some (.ret (.int .i64 ((l.filter fun b => decide ((b.toNat : Int) = c.toNat)).length : Nat)) ⟨H, lo⟩) := by
  refine D_fn pf_strings_Count rfl rfl rfl fun N hN => ?_
  simp (maxSteps := 2000000) (disch := omega) only [condK_dec, F1, ↓Int.cast_ofNat_Int, ↓R1, R2, C1, P1, N1, O1, V1, V2, V3, reduceCtorEq, Nat.reduceEqDiff, Nat.reduceBEq, Nat.reduceAdd, Nat.reduceSub, Nat.reduceMul, Nat.reduceLeDiff, Nat.reduceLT, Int.reduceEq, Int.reduceAdd, Int.reduceSub, Int.reduceMul, Int.reduceLT, Int.reduceLE, Int.reduceNeg, Int.reduceToNat, wrap_i64, wrap_u64, wrap_u8, wrap_u16, wrap_u32, wrap_i32, base_get0, base_get, base_set0, base_set, base_take, take_self, take_app1, pf_strings_Count, countStr_D, getD1]

/-- A text's pieces between such bytes. -/
def splitS (c : UInt8) : List UInt8 → List (List UInt8)
  | [] => [[]]
  | b :: bs => if b = c then [] :: splitS c bs else match splitS c bs with
    | x :: xs => (b :: x) :: xs
    | [] => [[b]]

theorem splitS_ne (c : UInt8) : ∀ l, splitS c l ≠ []
  | [] => by simp [splitS]
  | b :: bs => by
    simp only [splitS]
    split
    · simp
    · split <;> simp

theorem splitS_cut (c : UInt8) : ∀ l : List UInt8, splitS c l = if (cutS c l).2.2 then (cutS c l).1 :: splitS c (cutS c l).2.1 else [l]
  | [] => rfl
  | b :: bs => by
    have ih := splitS_cut c bs
    simp only [splitS, cutS]
    by_cases h : b = c
    · simp [h]
    · simp only [if_neg h]
      rw [ih]
      cases hc : (cutS c bs).2.2 <;> simp

def cnt (c : UInt8) (l : List UInt8) : Nat := (l.filter fun b => decide ((b.toNat : Int) = c.toNat)).length

theorem cnt_cut (c : UInt8) : ∀ l : List UInt8, cnt c l = if (cutS c l).2.2 then cnt c (cutS c l).2.1 + 1 else 0
  | [] => rfl
  | b :: bs => by
    have ih := cnt_cut c bs
    have hbc : (decide ((b.toNat : Int) = (c.toNat : Int))) = decide (b = c) := by
      rw [Bool.eq_iff_iff, decide_eq_true_eq, decide_eq_true_eq]
      exact ⟨fun h => UInt8.toNat_inj.1 (by omega), fun h => by rw [h]⟩
    by_cases h : b = c
    · simp [cnt, cutS, h]
    · have e : cnt c (b :: bs) = cnt c bs := by simp only [cnt, List.filter_cons, hbc, h, decide_false, Bool.false_eq_true, if_false]
      rw [e, ih]
      simp only [cutS, if_neg h]

theorem cnt_le (c : UInt8) (l : List UInt8) : cnt c l ≤ l.length := List.length_filter_le _ _
theorem cutS_len (c : UInt8) (l : List UInt8) : (cutS c l).1.length ≤ l.length ∧ (cutS c l).2.1.length ≤ l.length := by
  rcases cutS_idx c l with ⟨h1, h2⟩ | ⟨h1, h2, h3⟩
  · simp [h2]
  · rw [h3]; constructor
    · simp only [List.length_take]; omega
    · simp only [List.length_drop]; omega

def ls (l : List (List UInt8)) : List (List AV) := l.map fun x => [S x]

theorem store_row {H : List AObj} {lo : Option Nat} {id ver i : Nat} {ty : TypeId} {els : List (List AV)} {x : List UInt8} (h : H[id]? = some (.row ver 1 ty els)) (hi : i < els.length) (hz : ∀ el ∈ els, el.length = 1) : storeA ⟨H, lo⟩ 1 (.rptr id ver i 0) (S x) = some ⟨H.set id (.row ver 1 ty (els.set i [S x])), lo⟩ := by
  have h1 := hz _ (List.getElem_mem hi)
  simp only [storeA, h, List.getElem?_eq_getElem hi]
  rw [if_pos ⟨trivial, h1, rfl, rfl, by rw [h1]; decide⟩]
  have : splice els[i] 0 (S x).cells = [S x] := by
    have h2 : els[i].drop 1 = [] := List.drop_eq_nil_of_le (by omega)
    simp only [splice, cells_S, List.take_zero, List.nil_append, List.length_cons, List.length_nil, Nat.zero_add, h2, List.append_nil]
  rw [this]
  simp [AS.set, refs_S]

theorem genSplit_D (l : List UInt8) (c : UInt8) (hl : l.length < 2^30) (H : List AObj) (lo : Option Nat) : ∃ r, D X (.fn (.func fn_strings_genSplit) [] []) [S l, S [c], .int .i64 0, .int .i64 (-1)] ⟨H, lo⟩ = some (.ret r ⟨H, lo⟩) ∧ Rv r 1 (ls (splitS c l)) := by
  suffices h : ∃ cr, D X (.fn (.func fn_strings_genSplit) [] []) [S l, S [c], .int .i64 0, .int .i64 (-1)] ⟨H, lo⟩ = some cr ∧ (fun cr => ∃ r, cr = CRes.ret r ⟨H, lo⟩ ∧ Rv r 1 (ls (splitS c l))) cr by
    obtain ⟨cr, h1, r, rfl, h2⟩ := h
    exact ⟨r, h1, h2⟩
  refine D_fn_ex pf_strings_genSplit rfl rfl rfl fun N hN => ?_
  have hcl := cnt_le c l
  have hcd := Count_D l c (by omega)
  have hcd' : ∀ H lo, D X (.fn (.func fn_strings_Count) [] []) [S l, S [c]] ⟨H, lo⟩ = some (.ret (.int .i64 (cnt c l)) ⟨H, lo⟩) := hcd
  have hmin : min ((cnt c l : Int) + 1) ((l.length : Int) + 1) = (cnt c l : Int) + 1 := by omega
  have hmk : mksliceA ⟨H, none⟩ ty_string [S []] 16 (.int .i64 ((cnt c l : Int) + 1)) (.int .i64 ((cnt c l : Int) + 1)) = some (.ref N 0 1 0 (cnt c l + 1) false, ⟨H ++ [.row 0 1 ty_string (List.replicate (cnt c l + 1) [S []])], none⟩) := by
    simp only [mksliceA]
    rw [if_pos ⟨by omega, by omega, by unfold room; omega, by unfold room; omega⟩, hN, show ((cnt c l : Int) + 1).toNat = cnt c l + 1 by omega]
    rfl
  simp (maxSteps := 2000000) (disch := omega) only [condK_dec, F1, ↓Int.cast_ofNat_Int, ↓R1, R2, C1, P1, N1, O1, V1, V2, V3, reduceCtorEq, Nat.reduceEqDiff, Nat.reduceBEq, Nat.reduceAdd, Nat.reduceSub, Nat.reduceMul, Nat.reduceLeDiff, Nat.reduceLT, Int.reduceEq, Int.reduceAdd, Int.reduceSub, Int.reduceMul, Int.reduceLT, Int.reduceLE, Int.reduceNeg, Int.reduceToNat, wrap_i64, wrap_u64, wrap_u8, wrap_u16, wrap_u32, wrap_i32, base_get0, base_get, base_set0, base_set, base_take, take_self, take_app1, pf_strings_genSplit, hcd', hmin, hmk]
  obtain ⟨m, hm⟩ : ∃ m, cnt c l = m := ⟨_, rfl⟩
  rw [hm] at hcl ⊢
  clear hcd hcd' hmin hmk
  refine wp_loopN m (fun i e H' => e 1 = S [c] ∧ e 2 = .int .i64 0 ∧ e 3 = .int .i64 m ∧ e 9 = .ref N 0 1 0 (m + 1) false ∧ e 10 = .int .i64 i ∧
    ∃ fs r, fs.length = i ∧ splitS c l = fs ++ splitS c r ∧ cnt c r + i = m ∧ r.length ≤ l.length ∧ e 0 = S r ∧ H' = H ++ [.row 0 1 ty_string (ls fs ++ List.replicate (m + 1 - i) [S []])]) 0 (by omega) ?_ ?_
  · simp (maxSteps := 2000000) (disch := omega) only [F1, ↓Int.cast_ofNat_Int, ↓R1, R2, C1, P1, N1, O1, V1, V2, V3, reduceCtorEq, Nat.reduceEqDiff, Nat.reduceBEq, Nat.reduceAdd, Nat.reduceSub, Nat.reduceMul, Nat.reduceLeDiff, Nat.reduceLT, Int.reduceEq, Int.reduceAdd, Int.reduceSub, Int.reduceMul, Int.reduceLT, Int.reduceLE, Int.reduceNeg, Int.reduceToNat, wrap_i64, wrap_u64, wrap_u8, wrap_u16, wrap_u32, wrap_i32, base_get0, base_get, base_set0, base_set, base_take, take_self, take_app1]
    exact ⟨congrArg _ (by omega), [], l, rfl, rfl, hm, Nat.le_refl _, rfl, rfl⟩
  rintro i hi e H' ⟨h1, h2, h3, h9, h10, fs, r, hfs, hsp, hcr, hrl, h0, rfl⟩ n hn
  have hrow : (H ++ [AObj.row 0 1 ty_string (ls fs ++ List.replicate (m + 1 - i) [S []])])[N]? = some (.row 0 1 ty_string (ls fs ++ List.replicate (m + 1 - i) [S []])) := by rw [base_get0 hN]; rfl
  have hz : ∀ el ∈ ls fs ++ List.replicate (m + 1 - i) [S []], el.length = 1 := by
    intro el hel
    rcases List.mem_append.1 hel with h | h
    · simp only [ls, List.mem_map] at h; obtain ⟨x, _, rfl⟩ := h; rfl
    · rw [(List.mem_replicate.1 h).2]; rfl
  have hlen : (ls fs ++ List.replicate (m + 1 - i) [S []]).length = m + 1 := by simp [ls]; omega
  have hset : ∀ x, (ls fs ++ List.replicate (m + 1 - i) [S []]).set i [S x] = ls (fs ++ [x]) ++ List.replicate (m + 1 - (i + 1)) [S []] := by
    intro x
    have e1 : m + 1 - i = (m + 1 - (i + 1)) + 1 := by omega
    rw [e1, List.replicate_succ, List.set_append_right _ _ (by simp [ls]; omega)]
    simp [ls, hfs]
  have hst : ∀ x, storeA ⟨H ++ [AObj.row 0 1 ty_string (ls fs ++ List.replicate (m + 1 - i) [S []])], none⟩ 1 (.rptr N 0 i 0) (S x) = some ⟨H ++ [.row 0 1 ty_string (ls (fs ++ [x]) ++ List.replicate (m + 1 - (i + 1)) [S []])], none⟩ := by
    intro x
    rw [store_row hrow (by omega) hz, hset, base_set0 hN]; rfl
  have hadr : iaddrsA 1 (.ref N 0 1 0 (m + 1) false) (.int .i64 i) = some (.rptr N 0 i 0) := by
    simp only [iaddrsA, intOf?]
    rw [if_pos ⟨by omega, by omega, trivial⟩, Int.toNat_natCast, Nat.zero_add]
  have hidx := Index_D r c (by omega)
  by_cases hlt : i < m
  · have hlt' : (i : Int) < m := by omega
    have hc1 := cnt_cut c r
    have hs1 := splitS_cut c r
    have hcl2 := cutS_len c r
    rcases cutS_idx c r with ⟨q1, q2⟩ | ⟨q1, q2, q3⟩
    · rw [q2] at hc1; simp at hc1; omega
    · rw [q3] at hc1 hs1 hcl2
      simp only [if_true] at hc1 hs1 hcl2
      have e5 : (idxB (↑c.toNat) r + 1).toNat = (idxB (↑c.toNat) r).toNat + 1 := by omega
      have hneg : ¬ idxB (↑c.toNat) r < 0 := by omega
      simp (maxSteps := 2000000) (disch := omega) only [condK_dec, F1, ↓Int.cast_ofNat_Int, ↓R1, R2, C1, P1, N1, O1, V1, V2, V3, reduceCtorEq, Nat.reduceEqDiff, Nat.reduceBEq, Nat.reduceAdd, Nat.reduceSub, Nat.reduceMul, Nat.reduceLeDiff, Nat.reduceLT, Int.reduceEq, Int.reduceAdd, Int.reduceSub, Int.reduceMul, Int.reduceLT, Int.reduceLE, Int.reduceNeg, Int.reduceToNat, wrap_i64, wrap_u64, wrap_u8, wrap_u16, wrap_u32, wrap_i32, base_get0, base_get, base_set0, base_set, base_take, take_self, take_app1, l1_strings_genSplit, h0, h1, h2, h3, h9, h10, hidx, hadr, hst, hlt', hneg, Int.add_zero, e5]
      refine ⟨by omega, by omega, hlt, fs ++ [List.take (idxB (↑c.toNat) r).toNat r], _, by simp [hfs], ?_, by omega, by omega, rfl, rfl⟩
      rw [hsp, hs1]; simp
  · have him : i = m := by omega
    subst him
    have hc1 := cnt_cut c r
    have hs1 := splitS_cut c r
    have hcf : (cutS c r).2.2 = false := by
      cases hx : (cutS c r).2.2
      · rfl
      · rw [hx] at hc1; simp at hc1; omega
    rw [hcf] at hs1
    simp only [Bool.false_eq_true, if_false] at hs1
    have hsl : slslA 1 (.ref N 0 1 0 (i + 1) false) none (some (.int .i64 ((i : Int) + 1))) none = some (.ref N 0 1 0 (i + 1) false) := by
      simp only [slslA, boundsA, upTo, capA]
      rw [if_pos ⟨by omega, by omega⟩]
      simp
    have hnl : ¬ (i : Int) < i := by omega
    simp (maxSteps := 2000000) (disch := omega) only [↓Int.cast_ofNat_Int, ↓R1, R2, C1, P1, N1, O1, V1, V2, V3, reduceCtorEq, Nat.reduceEqDiff, Nat.reduceBEq, Nat.reduceAdd, Nat.reduceSub, Nat.reduceMul, Nat.reduceLeDiff, Nat.reduceLT, Int.reduceEq, Int.reduceAdd, Int.reduceSub, Int.reduceMul, Int.reduceLT, Int.reduceLE, Int.reduceNeg, Int.reduceToNat, wrap_i64, wrap_u64, wrap_u8, wrap_u16, wrap_u32, wrap_i32, base_get0, base_get, base_set0, base_set, base_take, take_self, take_app1, l1_strings_genSplit, h0, h1, h2, h3, h9, h10, hadr, hst, hnl, hsl, Nat.sub_self]
    have how : Own N (H ++ [AObj.row 0 1 ty_string (ls (fs ++ [r]))]) (.ref N 0 1 0 (i + 1) false) 1 ty_string (ls (fs ++ [r])) := by
      refine ⟨?_, .inr ⟨N, 0, Nat.le_refl _, ?_, by rw [base_get0 hN]; rfl⟩⟩
      · intro el hel; simp only [ls, List.mem_map] at hel; obtain ⟨x, _, rfl⟩ := hel; rfl
      · simp [ls, hfs]
    have hr0 : refsLL (ls (fs ++ [r])) ≤ N := by
      have : refsLL (ls (fs ++ [r])) = 0 := refsLL_map (fun x => by simp [refsL, refs_S]) _
      rw [this]; exact Nat.zero_le _
    rw [how.finish1 hr0]
    refine ⟨_, ret_eq rfl (base_take hN), ?_⟩
    rw [hsp, hs1]
    exact how.frz_rv

theorem Split_D (l : List UInt8) (c : UInt8) (hl : l.length < 2^30) (H : List AObj) (lo : Option Nat) : ∃ r, D X (.fn (.func fn_strings_Split) [] []) [S l, S [c]] ⟨H, lo⟩ = some (.ret r ⟨H, lo⟩) ∧ Rv r 1 (ls (splitS c l)) := by
  suffices h : ∃ cr, D X (.fn (.func fn_strings_Split) [] []) [S l, S [c]] ⟨H, lo⟩ = some cr ∧ (fun cr => ∃ r, cr = CRes.ret r ⟨H, lo⟩ ∧ Rv r 1 (ls (splitS c l))) cr by
    obtain ⟨cr, h1, r, rfl, h2⟩ := h
    exact ⟨r, h1, h2⟩
  refine D_fn_ex pf_strings_Split rfl rfl rfl fun N hN => ?_
  obtain ⟨r, e1, e2⟩ := genSplit_D l c hl H none
  simp (maxSteps := 2000000) (disch := omega) only [↓Int.cast_ofNat_Int, ↓R1, R2, C1, P1, N1, O1, V1, V2, V3, reduceCtorEq, Nat.reduceEqDiff, Nat.reduceBEq, Nat.reduceAdd, Nat.reduceSub, Nat.reduceMul, Nat.reduceLeDiff, Nat.reduceLT, Int.reduceEq, Int.reduceAdd, Int.reduceSub, Int.reduceMul, Int.reduceLT, Int.reduceLE, Int.reduceNeg, Int.reduceToNat, wrap_i64, wrap_u64, wrap_u8, wrap_u16, wrap_u32, wrap_i32, base_get0, base_get, base_set0, base_set, base_take, take_self, take_app1, pf_strings_Split, e1]
  have hrefs : r.refs = 0 := by
    obtain ⟨h1, h2, h3⟩ := e2 ⟨[], none⟩
    cases r <;> simp only [] at h1
    · rfl
    · simp only [Den.elems] at h2
      split at h2
      · cases h2
        simp only [AV.refs]
        exact refsLL_map (fun x => by simp [refsL, refs_S]) _
      · cases h2
    · simp [Den.elems] at h2
  rw [finish_0, if_pos (by omega)]
  exact ⟨r, ret_eq rfl (take_self hN), e2⟩


end Go.Proofs.YthbgjjdbcalhcaaGreatDoor

/- Lines and keys: what the program's and the document's functions compute; that it is the same. -/
namespace Go.Proofs.YthbgjjdbcalhcaaGreatDoor
open Go Go.Den
set_option maxRecDepth 10000
set_option maxHeartbeats 1000000

/-- A text without a line's end behind it. -/
def endsNl (l : List UInt8) : Bool := decide (1 ≤ l.length ∧ l.drop (l.length - 1) = [10])
def trimN (l : List UInt8) : List UInt8 := if endsNl l then l.take (l.length - 1) else l

theorem HasSuffix_D (l : List UInt8) (hl : l.length < 2^40) (H : List AObj) (lo : Option Nat) : D X (.fn (.func fn_istringslite_HasSuffix) [] []) [S l, S [10]] ⟨H, lo⟩ = some (.ret (.bool (endsNl l)) ⟨H, lo⟩) := by
  refine D_fn pf_istringslite_HasSuffix rfl rfl rfl fun N hN => ?_
  simp (maxSteps := 2000000) (disch := omega) only [F1, ↓Int.cast_ofNat_Int, ↓R1, R2, C1, P1, N1, O1, V1, V2, V3, reduceCtorEq, Nat.reduceEqDiff, Nat.reduceBEq, Nat.reduceAdd, Nat.reduceSub, Nat.reduceMul, Nat.reduceLeDiff, Nat.reduceLT, Int.reduceEq, Int.reduceAdd, Int.reduceSub, Int.reduceMul, Int.reduceLT, Int.reduceLE, Int.reduceNeg, Int.reduceToNat, wrap_i64, wrap_u64, wrap_u8, wrap_u16, wrap_u32, wrap_i32, base_get0, base_get, base_set0, base_set, base_take, take_self, take_app1, pf_istringslite_HasSuffix, hN]
  refine gK_keep 4 (.bool (endsNl l)) [] rfl rfl ?_ fun e0 => ?_
  · simp (maxSteps := 2000000) (disch := omega) only [R4, F1, ↓Int.cast_ofNat_Int, ↓R1, R2, C1, P1, N1, O1, V1, V2, V3, reduceCtorEq, Nat.reduceEqDiff, Nat.reduceBEq, Nat.reduceAdd, Nat.reduceSub, Nat.reduceMul, Nat.reduceLeDiff, Nat.reduceLT, Int.reduceEq, Int.reduceAdd, Int.reduceSub, Int.reduceMul, Int.reduceLT, Int.reduceLE, Int.reduceNeg, Int.reduceToNat, wrap_i64, wrap_u64, wrap_u8, wrap_u16, wrap_u32, wrap_i32, base_get0, base_get, base_set0, base_set, base_take, take_self, take_app1, hN]
    refine ⟨fun h => ?_, fun h => ?_⟩
    · have e : ((l.length : Int) - 1).toNat = l.length - 1 := by omega
      have e2 : l.take l.length = l := List.take_length
      simp (maxSteps := 2000000) (disch := omega) only [F1, ↓Int.cast_ofNat_Int, ↓R1, R2, C1, P1, N1, O1, V1, V2, V3, reduceCtorEq, Nat.reduceEqDiff, Nat.reduceBEq, Nat.reduceAdd, Nat.reduceSub, Nat.reduceMul, Nat.reduceLeDiff, Nat.reduceLT, Int.reduceEq, Int.reduceAdd, Int.reduceSub, Int.reduceMul, Int.reduceLT, Int.reduceLE, Int.reduceNeg, Int.reduceToNat, wrap_i64, wrap_u64, wrap_u8, wrap_u16, wrap_u32, wrap_i32, base_get0, base_get, base_set0, base_set, base_take, take_self, take_app1, hN, e, e2, h]
      refine ⟨⟨by omega, by omega⟩, congrArg AV.bool ?_⟩
      have : 1 ≤ l.length := by omega
      simp [endsNl, this]
    · refine congrArg AV.bool ?_
      simp [endsNl]; omega
  simp (maxSteps := 2000000) (disch := omega) only [F1, ↓Int.cast_ofNat_Int, ↓R1, R2, C1, P1, N1, O1, V1, V2, V3, reduceCtorEq, Nat.reduceEqDiff, Nat.reduceBEq, Nat.reduceAdd, Nat.reduceSub, Nat.reduceMul, Nat.reduceLeDiff, Nat.reduceLT, Int.reduceEq, Int.reduceAdd, Int.reduceSub, Int.reduceMul, Int.reduceLT, Int.reduceLE, Int.reduceNeg, Int.reduceToNat, wrap_i64, wrap_u64, wrap_u8, wrap_u16, wrap_u32, wrap_i32, base_get0, base_get, base_set0, base_set, base_take, take_self, take_app1, hN]

theorem sliteTrim_D (l : List UInt8) (hl : l.length < 2^40) (H : List AObj) (lo : Option Nat) : D X (.fn (.func fn_istringslite_TrimSuffix) [] []) [S l, S [10]] ⟨H, lo⟩ = some (.ret (S (trimN l)) ⟨H, lo⟩) := by
  refine D_fn pf_istringslite_TrimSuffix rfl rfl rfl fun N hN => ?_
  cases he : endsNl l with
  | true =>
    have h1 : 1 ≤ l.length := by
      simp [endsNl] at he; omega
    have e : ((l.length : Int) - 1).toNat = l.length - 1 := by omega
    simp (maxSteps := 2000000) (disch := omega) only [F1, ↓Int.cast_ofNat_Int, ↓R1, R2, C1, P1, N1, O1, V1, V2, V3, reduceCtorEq, Nat.reduceEqDiff, Nat.reduceBEq, Nat.reduceAdd, Nat.reduceSub, Nat.reduceMul, Nat.reduceLeDiff, Nat.reduceLT, Int.reduceEq, Int.reduceAdd, Int.reduceSub, Int.reduceMul, Int.reduceLT, Int.reduceLE, Int.reduceNeg, Int.reduceToNat, wrap_i64, wrap_u64, wrap_u8, wrap_u16, wrap_u32, wrap_i32, base_get0, base_get, base_set0, base_set, base_take, take_self, take_app1, pf_istringslite_TrimSuffix, HasSuffix_D l hl, hN, he, e, trimN]
    omega
  | false => simp (maxSteps := 2000000) (disch := omega) only [F1, ↓Int.cast_ofNat_Int, ↓R1, R2, C1, P1, N1, O1, V1, V2, V3, reduceCtorEq, Nat.reduceEqDiff, Nat.reduceBEq, Nat.reduceAdd, Nat.reduceSub, Nat.reduceMul, Nat.reduceLeDiff, Nat.reduceLT, Int.reduceEq, Int.reduceAdd, Int.reduceSub, Int.reduceMul, Int.reduceLT, Int.reduceLE, Int.reduceNeg, Int.reduceToNat, wrap_i64, wrap_u64, wrap_u8, wrap_u16, wrap_u32, wrap_i32, base_get0, base_get, base_set0, base_set, base_take, take_self, take_app1, pf_istringslite_TrimSuffix, HasSuffix_D l hl, hN, he, trimN]

theorem TrimSuffix_D (l : List UInt8) (hl : l.length < 2^40) (H : List AObj) (lo : Option Nat) : D X (.fn (.func fn_strings_TrimSuffix) [] []) [S l, S [10]] ⟨H, lo⟩ = some (.ret (S (trimN l)) ⟨H, lo⟩) := by
  refine D_fn pf_strings_TrimSuffix rfl rfl rfl fun N hN => ?_
  simp (maxSteps := 2000000) (disch := omega) only [F1, ↓Int.cast_ofNat_Int, ↓R1, R2, C1, P1, N1, O1, V1, V2, V3, reduceCtorEq, Nat.reduceEqDiff, Nat.reduceBEq, Nat.reduceAdd, Nat.reduceSub, Nat.reduceMul, Nat.reduceLeDiff, Nat.reduceLT, Int.reduceEq, Int.reduceAdd, Int.reduceSub, Int.reduceMul, Int.reduceLT, Int.reduceLE, Int.reduceNeg, Int.reduceToNat, wrap_i64, wrap_u64, wrap_u8, wrap_u16, wrap_u32, wrap_i32, base_get0, base_get, base_set0, base_set, base_take, take_self, take_app1, pf_strings_TrimSuffix, sliteTrim_D l hl, hN]

def linesD (l : List UInt8) : List (List UInt8) := if l = [] then [] else splitS 10 (trimN l)

theorem trimN_len (l : List UInt8) : (trimN l).length ≤ l.length := by
  unfold trimN; split
  · rw [List.length_take]; omega
  · exact Nat.le_refl _

theorem Lines_D (l : List UInt8) (hl : l.length < 2^30) (H : List AObj) (lo : Option Nat) : ∃ r, D X (.fn (.func fn_dump_Lines) [] []) [S l] ⟨H, lo⟩ = some (.ret r ⟨H, lo⟩) ∧ Rv r 1 (ls (linesD l)) := by
  suffices h : ∃ cr, D X (.fn (.func fn_dump_Lines) [] []) [S l] ⟨H, lo⟩ = some cr ∧ (fun cr => ∃ r, cr = CRes.ret r ⟨H, lo⟩ ∧ Rv r 1 (ls (linesD l))) cr by
    obtain ⟨cr, h1, r, rfl, h2⟩ := h
    exact ⟨r, h1, h2⟩
  refine D_fn_ex pf_dump_Lines rfl rfl rfl fun N hN => ?_
  by_cases h0 : l = []
  · subst h0
    simp (maxSteps := 2000000) (disch := omega) only [F1, ↓Int.cast_ofNat_Int, ↓R1, R2, C1, P1, N1, O1, V1, V2, V3, reduceCtorEq, Nat.reduceEqDiff, Nat.reduceBEq, Nat.reduceAdd, Nat.reduceSub, Nat.reduceMul, Nat.reduceLeDiff, Nat.reduceLT, Int.reduceEq, Int.reduceAdd, Int.reduceSub, Int.reduceMul, Int.reduceLT, Int.reduceLE, Int.reduceNeg, Int.reduceToNat, wrap_i64, wrap_u64, wrap_u8, wrap_u16, wrap_u32, wrap_i32, base_get0, base_get, base_set0, base_set, base_take, take_self, take_app1, pf_dump_Lines, hN, take_self hN]
    exact ⟨_, rfl, Rv.nils⟩
  · have hlen := trimN_len l
    obtain ⟨r, e1, e2⟩ := Split_D (trimN l) 10 (by omega) H none
    simp (maxSteps := 2000000) (disch := omega) only [↓Int.cast_ofNat_Int, ↓R1, R2, C1, P1, N1, O1, V1, V2, V3, reduceCtorEq, Nat.reduceEqDiff, Nat.reduceBEq, Nat.reduceAdd, Nat.reduceSub, Nat.reduceMul, Nat.reduceLeDiff, Nat.reduceLT, Int.reduceEq, Int.reduceAdd, Int.reduceSub, Int.reduceMul, Int.reduceLT, Int.reduceLE, Int.reduceNeg, Int.reduceToNat, wrap_i64, wrap_u64, wrap_u8, wrap_u16, wrap_u32, wrap_i32, base_get0, base_get, base_set0, base_set, base_take, take_self, take_app1, pf_dump_Lines, TrimSuffix_D l (by omega), e1, h0]
    have hrefs : r.refs = 0 := by
      obtain ⟨h1, h2, h3⟩ := e2 ⟨[], none⟩
      cases r <;> simp only [] at h1
      · rfl
      · simp only [Den.elems] at h2
        split at h2
        · cases h2
          simp only [AV.refs]
          exact refsLL_map (fun x => by simp [refsL, refs_S]) _
        · cases h2
      · simp [Den.elems] at h2
    rw [finish_0, if_pos (by omega)]
    refine ⟨r, ret_eq rfl (take_self hN), ?_⟩
    unfold linesD; rw [if_neg h0]; exact e2

/-- What Key computes. -/
def keyP (l : List UInt8) : List UInt8 := if (cutS 32 l).2.2 then (cutS 32 l).1 ++ [32] ++ (cutS 32 (cutS 32 l).2.1).1 else (cutS 32 l).1

theorem Key_D (l : List UInt8) (hl : l.length < 2^30) (H : List AObj) (lo : Option Nat) : D X (.fn (.func fn_dump_Key) [] []) [S l] ⟨H, lo⟩ = some (.ret (S (keyP l)) ⟨H, lo⟩) := by
  refine D_fn pf_dump_Key rfl rfl rfl fun N hN => ?_
  have h1 := cutS_len 32 l
  have h2 := cutS_len 32 (cutS 32 l).2.1
  have hc := Cut_D (cutS 32 l).2.1 32 (by omega)
  cases he : (cutS 32 l).2.2 with
  | true =>
    simp (maxSteps := 2000000) (disch := omega) only [F1, ↓Int.cast_ofNat_Int, ↓R1, R2, C1, P1, N1, O1, V1, V2, V3, reduceCtorEq, Nat.reduceEqDiff, Nat.reduceBEq, Nat.reduceAdd, Nat.reduceSub, Nat.reduceMul, Nat.reduceLeDiff, Nat.reduceLT, Int.reduceEq, Int.reduceAdd, Int.reduceSub, Int.reduceMul, Int.reduceLT, Int.reduceLE, Int.reduceNeg, Int.reduceToNat, wrap_i64, wrap_u64, wrap_u8, wrap_u16, wrap_u32, wrap_i32, base_get0, base_get, base_set0, base_set, base_take, take_self, take_app1, pf_dump_Key, Cut_D l 32 (by omega), hc, hN, he, keyP]
    unfold strRoom; omega
  | false => simp (maxSteps := 2000000) (disch := omega) only [F1, ↓Int.cast_ofNat_Int, ↓R1, R2, C1, P1, N1, O1, V1, V2, V3, reduceCtorEq, Nat.reduceEqDiff, Nat.reduceBEq, Nat.reduceAdd, Nat.reduceSub, Nat.reduceMul, Nat.reduceLeDiff, Nat.reduceLT, Int.reduceEq, Int.reduceAdd, Int.reduceSub, Int.reduceMul, Int.reduceLT, Int.reduceLE, Int.reduceNeg, Int.reduceToNat, wrap_i64, wrap_u64, wrap_u8, wrap_u16, wrap_u32, wrap_i32, base_get0, base_get, base_set0, base_set, base_take, take_self, take_app1, pf_dump_Key, Cut_D l 32 (by omega), hc, hN, he, keyP]

/-- The document's lines, byte by byte. -/
def stepL (p : List (List UInt8) × List UInt8) (b : UInt8) : List (List UInt8) × List UInt8 := if b = 10 then (p.1 ++ [p.2], []) else (p.1, p.2 ++ [b])
def stL (l : List UInt8) : List (List UInt8) × List UInt8 := l.foldl stepL ([], [])
def linesR (l : List UInt8) : List (List UInt8) := if (stL l).2 = [] then (stL l).1 else (stL l).1 ++ [(stL l).2]

def glue (cur : List UInt8) (l : List UInt8) : List (List UInt8) := match splitS 10 l with
  | x :: xs => (cur ++ x) :: xs
  | [] => [cur]

theorem fold_glue : ∀ (l : List UInt8) (o : List (List UInt8)) (cur : List UInt8), (l.foldl stepL (o, cur)).1 ++ [(l.foldl stepL (o, cur)).2] = o ++ glue cur l
  | [], o, cur => by simp [glue, splitS]
  | b :: bs, o, cur => by
    rw [List.foldl_cons]
    by_cases h : b = 10
    · have e : stepL (o, cur) b = (o ++ [cur], []) := if_pos h
      rw [e, fold_glue bs]
      simp only [glue, splitS, if_pos h]
      cases hs : splitS 10 bs with
      | nil => exact absurd hs (splitS_ne 10 bs)
      | cons x xs => simp
    · have e : stepL (o, cur) b = (o, cur ++ [b]) := if_neg h
      rw [e, fold_glue bs]
      simp only [glue, splitS, if_neg h]
      cases hs : splitS 10 bs with
      | nil => exact absurd hs (splitS_ne 10 bs)
      | cons x xs => simp

theorem st_split (l : List UInt8) : (stL l).1 ++ [(stL l).2] = splitS 10 l := by
  have := fold_glue l [] []
  rw [List.nil_append] at this
  unfold stL
  rw [this]
  unfold glue
  cases hs : splitS 10 l with
  | nil => exact absurd hs (splitS_ne 10 l)
  | cons x xs => simp

theorem st_snoc (l : List UInt8) (b : UInt8) : stL (l ++ [b]) = stepL (stL l) b := by simp [stL]

theorem endsNl_snoc (m : List UInt8) (b : UInt8) : endsNl (m ++ [b]) = decide (b = 10) := by
  simp [endsNl]

theorem lines_eq (l : List UInt8) : linesD l = linesR l := by
  unfold linesD linesR
  by_cases h0 : l = []
  · subst h0; rfl
  · rw [if_neg h0]
    obtain ⟨m, b, rfl⟩ : ∃ m b, l = m ++ [b] := ⟨l.dropLast, l.getLast h0, (List.dropLast_concat_getLast h0).symm⟩
    rw [st_snoc]
    unfold trimN
    rw [endsNl_snoc]
    by_cases hb : b = 10
    · have e : stepL (stL m) b = ((stL m).1 ++ [(stL m).2], []) := if_pos hb
      rw [e, if_pos (by simpa using hb), if_pos rfl]
      simp only [List.length_append, List.length_cons, List.length_nil, Nat.zero_add, Nat.add_sub_cancel, List.take_left']
      exact (st_split m).symm
    · have e : stepL (stL m) b = ((stL m).1, (stL m).2 ++ [b]) := if_neg hb
      rw [if_neg (by simpa using hb), e, if_neg (by simp), ← e, ← st_snoc, ← st_split]

/-- The document's key, byte by byte. -/
def keyR : Nat → List UInt8 → List UInt8
  | _, [] => []
  | n, b :: bs => if b = 32 then (if n = 1 then [] else 32 :: keyR (n + 1) bs) else b :: keyR n bs

theorem keyR_1 : ∀ l : List UInt8, keyR 1 l = (cutS 32 l).1
  | [] => rfl
  | b :: bs => by
    simp only [keyR, cutS]
    by_cases h : b = 32
    · simp [h]
    · simp [h, keyR_1 bs]

theorem key_eq : ∀ l : List UInt8, keyP l = keyR 0 l
  | [] => rfl
  | b :: bs => by
    have ih := key_eq bs
    unfold keyP at ih ⊢
    simp only [keyR, cutS]
    by_cases h : b = 32
    · simp [h, keyR_1]
    · simp only [if_neg h]
      rw [← ih]
      cases (cutS 32 bs).2.2 <;> simp

end Go.Proofs.YthbgjjdbcalhcaaGreatDoor

/- The document's Lines and Key. -/
namespace Go.Proofs.YthbgjjdbcalhcaaGreatDoor
open Go Go.Den
set_option maxRecDepth 10000
set_option maxHeartbeats 1000000

theorem take_succ_getD {l : List UInt8} {k : Nat} (h : k < l.length) : l.take (k + 1) = l.take k ++ [l.getD k 0] := by
  rw [List.take_succ_eq_append_getElem h, List.getD_eq_getElem?_getD, List.getElem?_eq_getElem h]; rfl

theorem st_succ {l : List UInt8} {k : Nat} (h : k < l.length) : stL (l.take (k + 1)) = stepL (stL (l.take k)) (l.getD k 0) := by
  rw [take_succ_getD h, st_snoc]

theorem st_len : ∀ (l : List UInt8), (stL l).1.length + (stL l).2.length ≤ l.length := by
  intro l
  have key : ∀ (l : List UInt8) (p : List (List UInt8) × List UInt8), (l.foldl stepL p).1.length + (l.foldl stepL p).2.length ≤ l.length + (p.1.length + p.2.length) := by
    intro l
    induction l with
    | nil => intro p; simp
    | cons b bs ih =>
      intro p
      rw [List.foldl_cons]
      have := ih (stepL p b)
      unfold stepL at this
      split at this <;> simp at this ⊢ <;> (unfold stepL; simp [*]; omega)
  have := key l ([], [])
  simpa [stL] using this

theorem refLines_D (l : List UInt8) (hl : l.length < 2^30) (H : List AObj) (lo : Option Nat) : ∃ r, D X (.fn (.func fn_ref30_Lines) [] []) [S l] ⟨H, lo⟩ = some (.ret r ⟨H, lo⟩) ∧ Rv r 1 (ls (linesR l)) := by
  suffices h : ∃ cr, D X (.fn (.func fn_ref30_Lines) [] []) [S l] ⟨H, lo⟩ = some cr ∧ (fun cr => ∃ r, cr = CRes.ret r ⟨H, lo⟩ ∧ Rv r 1 (ls (linesR l))) cr by
    obtain ⟨cr, h1, r, rfl, h2⟩ := h
    exact ⟨r, h1, h2⟩
  refine D_fn_ex pf_ref30_Lines rfl rfl rfl fun N hN => ?_
  simp (maxSteps := 2000000) (disch := omega) only [F1, ↓Int.cast_ofNat_Int, ↓R1, R2, C1, P1, N1, O1, V1, V2, V3, reduceCtorEq, Nat.reduceEqDiff, Nat.reduceBEq, Nat.reduceAdd, Nat.reduceSub, Nat.reduceMul, Nat.reduceLeDiff, Nat.reduceLT, Int.reduceEq, Int.reduceAdd, Int.reduceSub, Int.reduceMul, Int.reduceLT, Int.reduceLE, Int.reduceNeg, Int.reduceToNat, wrap_i64, wrap_u64, wrap_u8, wrap_u16, wrap_u32, wrap_i32, base_get0, base_get, base_set0, base_set, base_take, take_self, take_app1, pf_ref30_Lines, hN]
  refine wp_loopN l.length (fun k e H' => H <+: H' ∧ e 0 = S l ∧ Own N H' (e 3) 1 ty_string (ls (stL (l.take k)).1) ∧ e 4 = S (stL (l.take k)).2 ∧ e 5 = .int .i64 k) 0 (by omega) ?_ ?_
  · simp (maxSteps := 2000000) (disch := omega) only [F1, ↓Int.cast_ofNat_Int, ↓R1, R2, C1, P1, N1, O1, V1, V2, V3, reduceCtorEq, Nat.reduceEqDiff, Nat.reduceBEq, Nat.reduceAdd, Nat.reduceSub, Nat.reduceMul, Nat.reduceLeDiff, Nat.reduceLT, Int.reduceEq, Int.reduceAdd, Int.reduceSub, Int.reduceMul, Int.reduceLT, Int.reduceLE, Int.reduceNeg, Int.reduceToNat, wrap_i64, wrap_u64, wrap_u8, wrap_u16, wrap_u32, wrap_i32, base_get0, base_get, base_set0, base_set, base_take, take_self, take_app1]
    exact ⟨List.prefix_rfl, Own.nils, rfl⟩
  rintro k hk e H' ⟨hp, h0, h3, h4, h5⟩ n hn
  have hlen := st_len (l.take k)
  rw [List.length_take, Nat.min_eq_left hk] at hlen
  simp (maxSteps := 2000000) (disch := omega) only [condK_dec, ↓Int.cast_ofNat_Int, ↓R1, R2, C1, P1, N1, O1, V1, V2, V3, reduceCtorEq, Nat.reduceEqDiff, Nat.reduceBEq, Nat.reduceAdd, Nat.reduceSub, Nat.reduceMul, Nat.reduceLeDiff, Nat.reduceLT, Int.reduceEq, Int.reduceAdd, Int.reduceSub, Int.reduceMul, Int.reduceLT, Int.reduceLE, Int.reduceNeg, Int.reduceToNat, wrap_i64, wrap_u64, wrap_u8, wrap_u16, wrap_u32, wrap_i32, base_get0, base_get, base_set0, base_set, base_take, take_self, take_app1, l1_ref30_Lines, h0, h4, h5]
  refine ⟨fun h => ?_, fun h => ?_⟩
  · have hk' : k < l.length := by omega
    have hs := st_succ hk'
    have hls : ∀ el ∈ [[S (stL (l.take k)).2]], el.length = 1 := by simp
    have hlr : refsLL [[S (stL (l.take k)).2]] = 0 := by simp [refsLL, refsL, refs_S]
    refine ⟨h, fun h10 => ?_, fun h10 => ?_⟩
    · have hb : l.getD k 0 = 10 := UInt8.toNat_inj.1 (by have : (10 : UInt8).toNat = 10 := rfl; omega)
      have e1 : stL (l.take (k + 1)) = ((stL (l.take k)).1 ++ [(stL (l.take k)).2], []) := by rw [hs]; exact if_pos hb
      refine okP_append h3 hp hN (by decide) hls hlr (by simp [ls, room]; omega) fun v' H1 hown hp1 => ?_
      simp (maxSteps := 2000000) (disch := omega) only [F1, ↓Int.cast_ofNat_Int, ↓R1, R2, C1, P1, N1, O1, V1, V2, V3, reduceCtorEq, Nat.reduceEqDiff, Nat.reduceBEq, Nat.reduceAdd, Nat.reduceSub, Nat.reduceMul, Nat.reduceLeDiff, Nat.reduceLT, Int.reduceEq, Int.reduceAdd, Int.reduceSub, Int.reduceMul, Int.reduceLT, Int.reduceLE, Int.reduceNeg, Int.reduceToNat, wrap_i64, wrap_u64, wrap_u8, wrap_u16, wrap_u32, wrap_i32, base_get0, base_get, base_set0, base_set, base_take, take_self, take_app1, h0, h4, h5, e1]
      refine ⟨hk', hp1, ?_⟩
      simpa [ls] using hown
    · have hb : ¬ l.getD k 0 = 10 := fun e => h10 (by rw [e]; rfl)
      have e1 : stL (l.take (k + 1)) = ((stL (l.take k)).1, (stL (l.take k)).2 ++ [l.getD k 0]) := by rw [hs]; exact if_neg hb
      have e2 : List.drop k (List.take (k + 1) l) = [l.getD k 0] := by
        rw [take_succ_getD hk', List.drop_append]
        simp [Nat.min_eq_left (Nat.le_of_lt hk')]
      have e3 : ((k : Int) + 1).toNat = k + 1 := by omega
      simp (maxSteps := 2000000) (disch := omega) only [F1, ↓Int.cast_ofNat_Int, ↓R1, R2, C1, P1, N1, O1, V1, V2, V3, reduceCtorEq, Nat.reduceEqDiff, Nat.reduceBEq, Nat.reduceAdd, Nat.reduceSub, Nat.reduceMul, Nat.reduceLeDiff, Nat.reduceLT, Int.reduceEq, Int.reduceAdd, Int.reduceSub, Int.reduceMul, Int.reduceLT, Int.reduceLE, Int.reduceNeg, Int.reduceToNat, wrap_i64, wrap_u64, wrap_u8, wrap_u16, wrap_u32, wrap_i32, base_get0, base_get, base_set0, base_set, base_take, take_self, take_app1, h0, h4, h5, e1, e2, e3]
      refine ⟨⟨by omega, by omega⟩, ?_, hk', hp, h3⟩
      first | (unfold strRoom; omega) | (simp only [List.length_cons, List.length_nil]; unfold strRoom; omega)
  · have hkl : k = l.length := by omega
    subst hkl
    rw [List.take_length] at h3 h4 hlen
    rw [List.take_length]
    refine ⟨fun hc => ?_, fun hc => ?_⟩
    · have hls : ∀ el ∈ [[S (stL l).2]], el.length = 1 := by simp
      have hlr : refsLL [[S (stL l).2]] = 0 := by simp [refsLL, refsL, refs_S]
      refine okP_append h3 hp hN (by decide) hls hlr (by simp [ls, room]; omega) fun v' H1 hown hp1 => ?_
      simp (maxSteps := 2000000) (disch := omega) only [↓Int.cast_ofNat_Int, ↓R1, R2, C1, P1, N1, O1, V1, V2, V3, reduceCtorEq, Nat.reduceEqDiff, Nat.reduceBEq, Nat.reduceAdd, Nat.reduceSub, Nat.reduceMul, Nat.reduceLeDiff, Nat.reduceLT, Int.reduceEq, Int.reduceAdd, Int.reduceSub, Int.reduceMul, Int.reduceLT, Int.reduceLE, Int.reduceNeg, Int.reduceToNat, wrap_i64, wrap_u64, wrap_u8, wrap_u16, wrap_u32, wrap_i32, base_get0, base_get, base_set0, base_set, base_take, take_self, take_app1, h4]
      have hr0 : refsLL (ls (stL l).1 ++ [[S (stL l).2]]) ≤ N := by
        have : ls (stL l).1 ++ [[S (stL l).2]] = ls ((stL l).1 ++ [(stL l).2]) := by simp [ls]
        rw [this, show refsLL (ls ((stL l).1 ++ [(stL l).2])) = 0 from refsLL_map (fun x => by simp [refsL, refs_S]) _]; exact Nat.zero_le _
      rw [hown.finish1 hr0]
      refine ⟨_, ret_eq rfl (take_pre hN hp1), ?_⟩
      have : ls (linesR l) = ls (stL l).1 ++ [[S (stL l).2]] := by unfold linesR; rw [if_neg hc]; simp [ls]
      rw [this]; exact hown.frz_rv
    · have hc := Classical.not_not.1 hc
      have hr0 : refsLL (ls (stL l).1) ≤ N := by
        rw [show refsLL (ls (stL l).1) = 0 from refsLL_map (fun x => by simp [refsL, refs_S]) _]; exact Nat.zero_le _
      rw [h3.finish1 hr0]
      refine ⟨_, ret_eq rfl (take_pre hN hp), ?_⟩
      unfold linesR; rw [if_pos hc]; exact h3.frz_rv

/-- How many blanks. -/
def blanks (l : List UInt8) : Nat := (l.filter fun b => b = 32).length

theorem blanks_succ {l : List UInt8} {k : Nat} (h : k < l.length) : blanks (l.take (k + 1)) = if l.getD k 0 = 32 then blanks (l.take k) + 1 else blanks (l.take k) := by
  rw [take_succ_getD h]
  unfold blanks
  rw [List.filter_append, List.length_append]
  generalize l.getD k 0 = b
  by_cases hb : b = 32 <;> simp [hb]

theorem drop_getD {l : List UInt8} {k : Nat} (h : k < l.length) : l.drop k = l.getD k 0 :: l.drop (k + 1) := by
  rw [List.drop_eq_getElem_cons h, List.getD_eq_getElem?_getD, List.getElem?_eq_getElem h]; rfl

theorem refKey_D (l : List UInt8) (hl : l.length < 2^30) (H : List AObj) (lo : Option Nat) : D X (.fn (.func fn_ref30_Key) [] []) [S l] ⟨H, lo⟩ = some (.ret (S (keyR 0 l)) ⟨H, lo⟩) := by
  refine D_fn pf_ref30_Key rfl rfl rfl fun N hN => ?_
  simp (maxSteps := 2000000) (disch := omega) only [F1, ↓Int.cast_ofNat_Int, ↓R1, R2, C1, P1, N1, O1, V1, V2, V3, reduceCtorEq, Nat.reduceEqDiff, Nat.reduceBEq, Nat.reduceAdd, Nat.reduceSub, Nat.reduceMul, Nat.reduceLeDiff, Nat.reduceLT, Int.reduceEq, Int.reduceAdd, Int.reduceSub, Int.reduceMul, Int.reduceLT, Int.reduceLE, Int.reduceNeg, Int.reduceToNat, wrap_i64, wrap_u64, wrap_u8, wrap_u16, wrap_u32, wrap_i32, base_get0, base_get, base_set0, base_set, base_take, take_self, take_app1, pf_ref30_Key, hN]
  refine wp_loopN l.length (fun k e H' => H' = H ∧ e 0 = S l ∧ e 3 = .int .i64 (blanks (l.take k)) ∧ e 4 = .int .i64 k ∧ blanks (l.take k) ≤ 1 ∧ keyR 0 l = l.take k ++ keyR (blanks (l.take k)) (l.drop k)) 0 (by omega) ?_ ?_
  · simp (maxSteps := 2000000) (disch := omega) only [F1, ↓Int.cast_ofNat_Int, ↓R1, R2, C1, P1, N1, O1, V1, V2, V3, reduceCtorEq, Nat.reduceEqDiff, Nat.reduceBEq, Nat.reduceAdd, Nat.reduceSub, Nat.reduceMul, Nat.reduceLeDiff, Nat.reduceLT, Int.reduceEq, Int.reduceAdd, Int.reduceSub, Int.reduceMul, Int.reduceLT, Int.reduceLE, Int.reduceNeg, Int.reduceToNat, wrap_i64, wrap_u64, wrap_u8, wrap_u16, wrap_u32, wrap_i32, base_get0, base_get, base_set0, base_set, base_take, take_self, take_app1]
    exact ⟨rfl, by simp [blanks], by simp [blanks]⟩
  rintro k hk e H' ⟨rfl, h0, h3, h4, hle, hkey⟩ n hn
  simp (maxSteps := 2000000) (disch := omega) only [condK_dec, F1, ↓Int.cast_ofNat_Int, ↓R1, R2, C1, P1, N1, O1, V1, V2, V3, reduceCtorEq, Nat.reduceEqDiff, Nat.reduceBEq, Nat.reduceAdd, Nat.reduceSub, Nat.reduceMul, Nat.reduceLeDiff, Nat.reduceLT, Int.reduceEq, Int.reduceAdd, Int.reduceSub, Int.reduceMul, Int.reduceLT, Int.reduceLE, Int.reduceNeg, Int.reduceToNat, wrap_i64, wrap_u64, wrap_u8, wrap_u16, wrap_u32, wrap_i32, base_get0, base_get, base_set0, base_set, base_take, take_self, take_app1, l1_ref30_Key, h0, h3, h4]
  refine ⟨fun h => ?_, fun h => ?_⟩
  · have hk' : k < l.length := by omega
    have hs := blanks_succ hk'
    rw [drop_getD hk'] at hkey
    generalize hbe : l.getD k 0 = b at hs hkey
    generalize blanks (l.take k) = m at hs hkey hle
    have ht := take_succ_getD hk'
    rw [hbe] at ht
    refine ⟨h, fun h32 => ?_, fun h32 => ?_⟩
    · have hb : b = 32 := UInt8.toNat_inj.1 (by have : (32 : UInt8).toNat = 32 := rfl; omega)
      rw [if_pos hb] at hs
      simp only [keyR, if_pos hb] at hkey
      refine ⟨fun h2 => ⟨by omega, ret_eq (congrArg S ?_) rfl⟩, fun h2 => ⟨hk', congrArg (AV.int .i64) (by omega), by omega, ?_⟩⟩
      · rw [if_pos (by omega)] at hkey
        rw [hkey]; simp
      · rw [if_neg (by omega)] at hkey
        rw [hkey, hs, ht, hb]; simp
    · have hb : ¬ b = 32 := fun e => h32 (by rw [e]; rfl)
      rw [if_neg hb] at hs
      simp only [keyR, if_neg hb] at hkey
      refine ⟨fun h2 => by omega, fun h2 => ⟨hk', congrArg (AV.int .i64) (by omega), by omega, ?_⟩⟩
      rw [hkey, hs, ht]; simp
  · have hkl : k = l.length := by omega
    subst hkl
    refine ret_eq (congrArg S ?_) rfl
    rw [hkey]; simp [keyR]

theorem ls_get {xs : List (List UInt8)} {j : Nat} : (ls xs).getD j [] = if j < xs.length then [S (xs.getD j [])] else [] := by
  unfold ls
  by_cases h : j < xs.length
  · rw [if_pos h, List.getD_eq_getElem?_getD, List.getElem?_map, List.getElem?_eq_getElem h, List.getD_eq_getElem?_getD, List.getElem?_eq_getElem h]; rfl
  · rw [if_neg h, List.getD_eq_getElem?_getD, List.getElem?_eq_none (by simpa using h)]; rfl

/-- The context of the law: its own check is known. -/
def XU : Ctx := { X with prim := fun f => if f = fn_law31_wakes then some (closedP true) else primT.lookup f }
theorem extU : Ext X XU where
  glob := rfl
  gmap := rfl
  code := rfl
  prim := fun f => by
    by_cases h : f = fn_law31_wakes
    · right; subst h; exact ⟨rfl, rfl⟩
    · left; simp only [XU, X, if_neg h]
theorem wakes_X (H : List AObj) (lo : Option Nat) : D XU (.fn (.func fn_law31_wakes) [] []) [] ⟨H, lo⟩ = some (.ret (.bool true) ⟨H, lo⟩) := D_prim (p := closedP true) rfl rfl
theorem key_U (l : List UInt8) (hl : l.length < 2^30) (H : List AObj) (lo : Option Nat) : D XU (.fn (.func fn_dump_Key) [] []) [S l] ⟨H, lo⟩ = some (.ret (S (keyP l)) ⟨H, lo⟩) := D_ext extU _ _ _ _ (Key_D l hl H lo)
theorem refKey_U (l : List UInt8) (hl : l.length < 2^30) (H : List AObj) (lo : Option Nat) : D XU (.fn (.func fn_ref30_Key) [] []) [S l] ⟨H, lo⟩ = some (.ret (S (keyR 0 l)) ⟨H, lo⟩) := D_ext extU _ _ _ _ (refKey_D l hl H lo)
end Go.Proofs.YthbgjjdbcalhcaaGreatDoor

/- The document's lines, and its last one of a key. -/
namespace Go.Proofs.YthbgjjdbcalhcaaGreatDoor
open Go Go.Den
open Go.Proofs.DfDev
set_option maxRecDepth 10000
set_option maxHeartbeats 1000000

theorem own_set {N B : Nat} {H : List AObj} {v : AV} {sz : Nat} {ty : TypeId} {els : List (List AV)} {o : AObj} (h : Own N H v sz ty els) (hB : B < N) : Own N (H.set B o) v sz ty els := by
  obtain ⟨h1, h2⟩ := h
  refine ⟨h1, ?_⟩
  rcases h2 with h2 | ⟨id, ver, a, b, c⟩
  · exact .inl h2
  · refine .inr ⟨id, ver, a, b, ?_⟩
    rw [List.getElem?_set_ne (by omega)]; exact c

theorem ls_rv {xs : List Bs} {v : AV} (h : Rv v 1 (ls xs)) : Rv v 1 (xs.map fun x => [S x]) := h
theorem ls_refs (xs : List Bs) : refsLL (ls xs) = 0 := refsLL_map (fun x => by simp [refsL, refs_S]) _
theorem rv_refs {r : AV} {xs : List Bs} (h : Rv r 1 (ls xs)) : r.refs = 0 := by
  obtain ⟨h1, h2, h3⟩ := h ⟨[], none⟩
  cases r <;> simp only [] at h1
  · rfl
  · simp only [Den.elems] at h2
    split at h2
    · cases h2
      simp only [AV.refs]
      exact ls_refs xs
    · cases h2
  · simp [Den.elems] at h2

/-- Lines but empty ones. -/
def neL (l : List Bs) : List Bs := l.filter fun x => decide (x ≠ [])
theorem neL_snoc (l : List Bs) (x : Bs) : neL (l ++ [x]) = if x = [] then neL l else neL l ++ [x] := by
  unfold neL; rw [List.filter_append]
  by_cases h : x = [] <;> simp [h]
theorem neL_len (l : List Bs) : (neL l).length ≤ l.length := List.length_filter_le _ _
theorem neL_ne {l : List Bs} : ∀ x ∈ neL l, x ≠ [] := fun x hx => by simpa using (List.mem_filter.1 hx).2
theorem take_succB {l : List Bs} {k : Nat} (h : k < l.length) : l.take (k + 1) = l.take k ++ [l.getD k []] := by
  rw [List.take_succ_eq_append_getElem h, List.getD_eq_getElem?_getD, List.getElem?_eq_getElem h]; rfl

theorem linesR_len (l : List UInt8) : (linesR l).length ≤ l.length + 1 := by
  have := st_len l
  unfold linesR; split
  · omega
  · rw [List.length_append, List.length_singleton]; omega

theorem reflines_D (l : List UInt8) (hl : l.length < 2^20) (H : List AObj) (lo : Option Nat) : ∃ r, D X (.fn (.func fn_ref31_lines) [] []) [S l] ⟨H, lo⟩ = some (.ret r ⟨H, lo⟩) ∧ Rv r 1 (ls (neL (linesR l))) := by
  suffices h : ∃ cr, D X (.fn (.func fn_ref31_lines) [] []) [S l] ⟨H, lo⟩ = some cr ∧ (fun cr => ∃ r, cr = CRes.ret r ⟨H, lo⟩ ∧ Rv r 1 (ls (neL (linesR l)))) cr by
    obtain ⟨cr, h1, r, rfl, h2⟩ := h
    exact ⟨r, h1, h2⟩
  refine D_fn_ex pf_ref31_lines rfl rfl rfl fun N hN => ?_
  obtain ⟨r, e1, e2⟩ := refLines_D l (by omega) H none
  have hlen := linesR_len l
  obtain ⟨L, hL⟩ : ∃ L, linesR l = L := ⟨_, rfl⟩
  rw [hL] at e2 hlen ⊢
  have e2' : Rv r 1 (L.map fun x => [S x]) := e2
  simp (maxSteps := 2000000) (disch := omega) only [F1, ↓Int.cast_ofNat_Int, ↓R1, R2, C1, P1, N1, O1, V1, V2, V3, reduceCtorEq, Nat.reduceEqDiff, Nat.reduceBEq, Nat.reduceAdd, Nat.reduceSub, Nat.reduceMul, Nat.reduceLeDiff, Nat.reduceLT, Int.reduceEq, Int.reduceAdd, Int.reduceSub, Int.reduceMul, Int.reduceLT, Int.reduceLE, Int.reduceNeg, Int.reduceToNat, wrap_i64, wrap_u64, wrap_u8, wrap_u16, wrap_u32, wrap_i32, base_get0, base_get, base_set0, base_set, base_take, take_self, take_app1, pf_ref31_lines, e1, hN]
  refine wp_loopN L.length (fun k e H' => H <+: H' ∧ e 3 = r ∧ Own N H' (e 4) 1 ty_string (ls (neL (L.take k))) ∧ e 5 = .int .i64 k) 0 (by omega) ?_ ?_
  · simp (maxSteps := 2000000) (disch := omega) only [F1, ↓Int.cast_ofNat_Int, ↓R1, R2, C1, P1, N1, O1, V1, V2, V3, reduceCtorEq, Nat.reduceEqDiff, Nat.reduceBEq, Nat.reduceAdd, Nat.reduceSub, Nat.reduceMul, Nat.reduceLeDiff, Nat.reduceLT, Int.reduceEq, Int.reduceAdd, Int.reduceSub, Int.reduceMul, Int.reduceLT, Int.reduceLE, Int.reduceNeg, Int.reduceToNat, wrap_i64, wrap_u64, wrap_u8, wrap_u16, wrap_u32, wrap_i32, base_get0, base_get, base_set0, base_set, base_take, take_self, take_app1]
    exact ⟨List.prefix_rfl, Own.nils⟩
  rintro k hk e H' ⟨hp, h3, h4, h5⟩ n hn
  have hle := neL_len (L.take k)
  rw [List.length_take] at hle
  simp (maxSteps := 2000000) (disch := omega) only [condK_dec, ↓Int.cast_ofNat_Int, ↓R1, R2, C1, P1, N1, O1, V1, V2, V3, reduceCtorEq, Nat.reduceEqDiff, Nat.reduceBEq, Nat.reduceAdd, Nat.reduceSub, Nat.reduceMul, Nat.reduceLeDiff, Nat.reduceLT, Int.reduceEq, Int.reduceAdd, Int.reduceSub, Int.reduceMul, Int.reduceLT, Int.reduceLE, Int.reduceNeg, Int.reduceToNat, wrap_i64, wrap_u64, wrap_u8, wrap_u16, wrap_u32, wrap_i32, base_get0, base_get, base_set0, base_set, base_take, take_self, take_app1, l1_ref31_lines, h3, h5, e2'.lenM, e2'.addrM, e2'.loadM, e2'.fpLM]
  refine ⟨fun h => ?_, fun h => ?_⟩
  · have hk' : k < L.length := by omega
    have hs := neL_snoc (L.take k) (L.getD k [])
    rw [← take_succB hk'] at hs
    have hy : ∀ el ∈ [[S (L.getD k [])]], el.length = 1 := by simp
    have hr : refsLL [[S (L.getD k [])]] = 0 := by simp [refsLL, refsL, refs_S]
    have hdef : (default : List UInt8) = [] := rfl
    simp (maxSteps := 2000000) (disch := omega) only [condK_dec, ↓Int.cast_ofNat_Int, ↓R1, R2, C1, P1, N1, O1, V1, V2, V3, reduceCtorEq, Nat.reduceEqDiff, Nat.reduceBEq, Nat.reduceAdd, Nat.reduceSub, Nat.reduceMul, Nat.reduceLeDiff, Nat.reduceLT, Int.reduceEq, Int.reduceAdd, Int.reduceSub, Int.reduceMul, Int.reduceLT, Int.reduceLE, Int.reduceNeg, Int.reduceToNat, wrap_i64, wrap_u64, wrap_u8, wrap_u16, wrap_u32, wrap_i32, base_get0, base_get, base_set0, base_set, base_take, take_self, take_app1, h, hk', h3, h5, e2'.lenM, e2'.addrM, e2'.loadM, e2'.fpLM, hdef]
    refine ⟨fun h0 => okP_append h4 hp hN (by decide) hy hr (by simp [ls, room]; omega) fun v' H1 hown hp1 => ?_, fun h0 => ⟨hp, by rw [hs, if_pos (Classical.not_not.1 h0)]; exact h4⟩⟩
    simp (maxSteps := 2000000) (disch := omega) only [F1, ↓Int.cast_ofNat_Int, ↓R1, R2, C1, P1, N1, O1, V1, V2, V3, reduceCtorEq, Nat.reduceEqDiff, Nat.reduceBEq, Nat.reduceAdd, Nat.reduceSub, Nat.reduceMul, Nat.reduceLeDiff, Nat.reduceLT, Int.reduceEq, Int.reduceAdd, Int.reduceSub, Int.reduceMul, Int.reduceLT, Int.reduceLE, Int.reduceNeg, Int.reduceToNat, wrap_i64, wrap_u64, wrap_u8, wrap_u16, wrap_u32, wrap_i32, base_get0, base_get, base_set0, base_set, base_take, take_self, take_app1, h3, h5]
    refine ⟨hk', hp1, ?_⟩
    rw [hs, if_neg h0]; simpa [ls] using hown
  · have hkl : k = L.length := by omega
    subst hkl
    rw [List.take_length] at h4
    rw [h4.finish1 (by rw [ls_refs]; omega)]
    exact ⟨_, ret_eq rfl (take_pre hN hp), h4.frz_rv⟩

theorem lastL_snoc (key : Bs → Bs) (l : List Bs) (x k : Bs) : lastL key (l ++ [x]) k = if key x = k then some x else lastL key l k := by
  unfold lastL
  rw [List.reverse_append]
  simp only [List.reverse_cons, List.reverse_nil, List.nil_append, List.cons_append, List.find?_cons]
  by_cases h : key x = k <;> simp [h]

theorem last_D (xs : List Bs) (r : AV) (hr : Rv r 1 (ls xs)) (hx : ∀ x ∈ xs, x.length < 2^30) (hlen : xs.length < 2^30) (kk : Bs) (H : List AObj) (lo : Option Nat) : D X (.fn (.func fn_ref31_last) [] []) [r, S kk] ⟨H, lo⟩ = some (.ret (.tup [S ((lastL (keyR 0) xs kk).getD []), .bool (lastL (keyR 0) xs kk).isSome]) ⟨H, lo⟩) := by
  refine D_fn pf_ref31_last rfl rfl rfl fun N hN => ?_
  have hr' : Rv r 1 (xs.map fun x => [S x]) := hr
  simp (maxSteps := 2000000) (disch := omega) only [F1, ↓Int.cast_ofNat_Int, ↓R1, R2, C1, P1, N1, O1, V1, V2, V3, reduceCtorEq, Nat.reduceEqDiff, Nat.reduceBEq, Nat.reduceAdd, Nat.reduceSub, Nat.reduceMul, Nat.reduceLeDiff, Nat.reduceLT, Int.reduceEq, Int.reduceAdd, Int.reduceSub, Int.reduceMul, Int.reduceLT, Int.reduceLE, Int.reduceNeg, Int.reduceToNat, wrap_i64, wrap_u64, wrap_u8, wrap_u16, wrap_u32, wrap_i32, base_get0, base_get, base_set0, base_set, base_take, take_self, take_app1, pf_ref31_last, hr'.lenM, hN]
  refine wp_loopN xs.length (fun k e H' => H' = H ∧ e 0 = r ∧ e 1 = S kk ∧ e 6 = .int .i64 ((xs.length : Int) - 1 - k) ∧ lastL (keyR 0) xs kk = lastL (keyR 0) (xs.take (xs.length - k)) kk) 0 (by omega) ?_ ?_
  · simp (maxSteps := 2000000) (disch := omega) only [F1, ↓Int.cast_ofNat_Int, ↓R1, R2, C1, P1, N1, O1, V1, V2, V3, reduceCtorEq, Nat.reduceEqDiff, Nat.reduceBEq, Nat.reduceAdd, Nat.reduceSub, Nat.reduceMul, Nat.reduceLeDiff, Nat.reduceLT, Int.reduceEq, Int.reduceAdd, Int.reduceSub, Int.reduceMul, Int.reduceLT, Int.reduceLE, Int.reduceNeg, Int.reduceToNat, wrap_i64, wrap_u64, wrap_u8, wrap_u16, wrap_u32, wrap_i32, base_get0, base_get, base_set0, base_set, base_take, take_self, take_app1]
    simp
  rintro k hk e H' ⟨rfl, h0, h1, h6, hl⟩ n hn
  simp (maxSteps := 2000000) (disch := omega) only [condK_dec, F1, ↓Int.cast_ofNat_Int, ↓R1, R2, C1, P1, N1, O1, V1, V2, V3, reduceCtorEq, Nat.reduceEqDiff, Nat.reduceBEq, Nat.reduceAdd, Nat.reduceSub, Nat.reduceMul, Nat.reduceLeDiff, Nat.reduceLT, Int.reduceEq, Int.reduceAdd, Int.reduceSub, Int.reduceMul, Int.reduceLT, Int.reduceLE, Int.reduceNeg, Int.reduceToNat, wrap_i64, wrap_u64, wrap_u8, wrap_u16, wrap_u32, wrap_i32, base_get0, base_get, base_set0, base_set, base_take, take_self, take_app1, l1_ref31_last, h0, h1, h6]
  refine ⟨fun h => ?_, fun h => ?_⟩
  · have hk' : k < xs.length := by omega
    have ei : ((xs.length : Int) - 1 - k).toNat = xs.length - 1 - k := by omega
    have hj : xs.length - 1 - k < xs.length := by omega
    have hs := take_succB hj
    rw [show xs.length - 1 - k + 1 = xs.length - k by omega] at hs
    rw [hs, lastL_snoc] at hl
    have hlt : (xs.getD (xs.length - 1 - k) []).length < 2^30 := by
      rw [List.getD_eq_getElem?_getD, List.getElem?_eq_getElem hj]; exact hx _ (List.getElem_mem hj)
    have hdef : (default : List UInt8) = [] := rfl
    simp (maxSteps := 2000000) (disch := omega) only [condK_dec, F1, ↓Int.cast_ofNat_Int, ↓R1, R2, C1, P1, N1, O1, V1, V2, V3, reduceCtorEq, Nat.reduceEqDiff, Nat.reduceBEq, Nat.reduceAdd, Nat.reduceSub, Nat.reduceMul, Nat.reduceLeDiff, Nat.reduceLT, Int.reduceEq, Int.reduceAdd, Int.reduceSub, Int.reduceMul, Int.reduceLT, Int.reduceLE, Int.reduceNeg, Int.reduceToNat, wrap_i64, wrap_u64, wrap_u8, wrap_u16, wrap_u32, wrap_i32, base_get0, base_get, base_set0, base_set, base_take, take_self, take_app1, h, hr'.addrM, hr'.loadM, hr'.fpLM, ei, hj, hdef, refKey_D _ hlt, h0, h1, h6, hN]
    refine ⟨by omega, fun hk1 => ⟨by omega, ?_⟩, fun hk1 => ⟨hk', congrArg (AV.int .i64) (by omega), ?_⟩⟩
    · rw [hl, if_pos hk1]; rfl
    · rw [hl, if_neg hk1, show xs.length - (k + 1) = xs.length - 1 - k by omega]
  · have hkl : k = xs.length := by omega
    subst hkl
    rw [hl, Nat.sub_self]; rfl
end Go.Proofs.YthbgjjdbcalhcaaGreatDoor

/- The document's changes. -/
namespace Go.Proofs.YthbgjjdbcalhcaaGreatDoor
open Go Go.Den
open Go.Proofs.DfDev
set_option maxRecDepth 10000
set_option maxHeartbeats 1000000

def ch3 (c : Ch) : List AV := [S c.1, S c.2.1, S c.2.2]
theorem ch_refs (xs : List Ch) : refsLL (xs.map ch3) = 0 := refsLL_map (fun x => by simp [ch3, refsL, refs_S]) _

theorem own_mono {N N' : Nat} {H : List AObj} {v : AV} {sz : Nat} {ty : TypeId} {els : List (List AV)} (h : Own N H v sz ty els) (hn : N' ≤ N) : Own N' H v sz ty els := by
  obtain ⟨q1, q2⟩ := h
  refine ⟨q1, ?_⟩
  rcases q2 with q2 | ⟨id, ver, e1, e2, e3⟩
  · exact .inl q2
  · exact .inr ⟨id, ver, by omega, e2, e3⟩

theorem splitS_len (c : UInt8) : ∀ l : List UInt8, ∀ w ∈ splitS c l, w.length ≤ l.length
  | [] => by simp [splitS]
  | b :: bs => by
    have ih := splitS_len c bs
    unfold splitS
    split
    · intro w hw
      rcases List.mem_cons.1 hw with rfl | hw
      · simp
      · have := ih w hw; simp; omega
    · split
      · rename_i x xs hx
        rw [hx] at ih
        intro w hw
        rcases List.mem_cons.1 hw with rfl | hw
        · have := ih x (by simp); simp; exact this
        · have := ih w (by simp [hw]); simp; omega
      · simp
theorem lines_ml {l : List UInt8} {x : Bs} (h : x ∈ neL (linesR l)) : x.length ≤ l.length := by
  have h := (List.mem_filter.1 h).1
  rw [← lines_eq] at h
  unfold linesD at h
  split at h
  · simp at h
  · exact Nat.le_trans (splitS_len 10 _ x h) (trimN_len l)

theorem bb00 : (!(false == false)) = false := rfl
theorem bb01 : (!(false == true)) = true := rfl
theorem bb10 : (!(true == false)) = true := rfl
theorem bb11 : (!(true == true)) = false := rfl

theorem refDiff_D (a b : List UInt8) (ha : a.length ≤ 2000) (hb : b.length ≤ 2000) (H : List AObj) (lo : Option Nat) : ∃ r, D X (.fn (.func fn_ref31_Diff) [] []) [S a, S b] ⟨H, lo⟩ = some (.ret r ⟨H, lo⟩) ∧ Rv r 3 ((diffP (keyR 0) (neL (linesR a)) (neL (linesR b))).map ch3) := by
  suffices h : ∃ cr, D X (.fn (.func fn_ref31_Diff) [] []) [S a, S b] ⟨H, lo⟩ = some cr ∧ (fun cr => ∃ r, cr = CRes.ret r ⟨H, lo⟩ ∧ Rv r 3 ((diffP (keyR 0) (neL (linesR a)) (neL (linesR b))).map ch3)) cr by
    obtain ⟨cr, h1, r, rfl, h2⟩ := h
    exact ⟨r, h1, h2⟩
  refine D_fn_ex pf_ref31_Diff rfl rfl rfl fun N hN => ?_
  obtain ⟨u, eu, hu⟩ := reflines_D a (by omega) H none
  obtain ⟨w, ew, hw⟩ := reflines_D b (by omega) H none
  have lu := Nat.le_trans (neL_len (linesR a)) (linesR_len a)
  have lw := Nat.le_trans (neL_len (linesR b)) (linesR_len b)
  have bu : ∀ x ∈ neL (linesR a), x.length < 2^30 := fun x hx => by have := lines_ml hx; omega
  have bw : ∀ x ∈ neL (linesR b), x.length < 2^30 := fun x hx => by have := lines_ml hx; omega
  obtain ⟨U, hU⟩ : ∃ U, neL (linesR a) = U := ⟨_, rfl⟩
  obtain ⟨W, hW⟩ : ∃ W, neL (linesR b) = W := ⟨_, rfl⟩
  rw [hU] at hu lu bu
  rw [hW] at hw lw bw
  rw [hU, hW, diff_eq]
  have yu : ∀ el ∈ ls U, el.length = 1 := fun el hel => by simp only [ls, List.mem_map] at hel; obtain ⟨x, _, rfl⟩ := hel; rfl
  have yw : ∀ el ∈ ls W, el.length = 1 := fun el hel => by simp only [ls, List.mem_map] at hel; obtain ⟨x, _, rfl⟩ := hel; rfl
  have lsu : (ls U).length = U.length := by simp [ls]
  have lsw : (ls W).length = W.length := by simp [ls]
  have lsa : (ls U ++ ls W) = (U ++ W).map fun x => [S x] := by simp [ls]
  simp (maxSteps := 2000000) (disch := omega) only [F1, ↓Int.cast_ofNat_Int, ↓R1, R2, C1, P1, N1, O1, V1, V2, V3, reduceCtorEq, Nat.reduceEqDiff, Nat.reduceBEq, Nat.reduceAdd, Nat.reduceSub, Nat.reduceMul, Nat.reduceLeDiff, Nat.reduceLT, Int.reduceEq, Int.reduceAdd, Int.reduceSub, Int.reduceMul, Int.reduceLT, Int.reduceLE, Int.reduceNeg, Int.reduceToNat, wrap_i64, wrap_u64, wrap_u8, wrap_u16, wrap_u32, wrap_i32, base_get0, base_get, base_set0, base_set, base_take, take_self, take_app1, pf_ref31_Diff, eu, ew, hN, hu.elems]
  refine okP_append Own.nils List.prefix_rfl hN (by decide) yu (ls_refs U) (by simp [room, lsu]; omega) fun v1 H1 o1 p1 => ?_
  rw [List.nil_append] at o1
  simp (maxSteps := 2000000) (disch := omega) only [F1, ↓Int.cast_ofNat_Int, ↓R1, R2, C1, P1, N1, O1, V1, V2, V3, reduceCtorEq, Nat.reduceEqDiff, Nat.reduceBEq, Nat.reduceAdd, Nat.reduceSub, Nat.reduceMul, Nat.reduceLeDiff, Nat.reduceLT, Int.reduceEq, Int.reduceAdd, Int.reduceSub, Int.reduceMul, Int.reduceLT, Int.reduceLE, Int.reduceNeg, Int.reduceToNat, wrap_i64, wrap_u64, wrap_u8, wrap_u16, wrap_u32, wrap_i32, base_get0, base_get, base_set0, base_set, base_take, take_self, take_app1, hw.elems]
  refine okP_append o1 p1 hN (by decide) yw (ls_refs W) (by simp [room, lsu, lsw]; omega) fun v2 H2 o2 p2 => ?_
  obtain ⟨N2, hN2⟩ : ∃ N2, H2.length = N2 := ⟨_, rfl⟩
  rw [lsa] at o2
  have hNN : N ≤ N2 := by have := p2.length_le; omega
  simp (maxSteps := 2000000) (disch := omega) only [F1, ↓Int.cast_ofNat_Int, ↓R1, R2, C1, P1, N1, O1, V1, V2, V3, reduceCtorEq, Nat.reduceEqDiff, Nat.reduceBEq, Nat.reduceAdd, Nat.reduceSub, Nat.reduceMul, Nat.reduceLeDiff, Nat.reduceLT, Int.reduceEq, Int.reduceAdd, Int.reduceSub, Int.reduceMul, Int.reduceLT, Int.reduceLE, Int.reduceNeg, Int.reduceToNat, wrap_i64, wrap_u64, wrap_u8, wrap_u16, wrap_u32, wrap_i32, base_get0, base_get, base_set0, base_set, base_take, take_self, take_app1]
  refine wp_loopN (U ++ W).length (fun k e H' => H2 <+: H' ∧ e 5 = u ∧ e 6 = w ∧ e 7 = v2 ∧ Own N2 H' (e 8) 3 ty_ref31_Change ((diffR (keyR 0) U W k).map ch3) ∧ e 9 = .int .i64 k) 0 (by omega) ?_ ?_
  · simp (maxSteps := 2000000) (disch := omega) only [F1, ↓Int.cast_ofNat_Int, ↓R1, R2, C1, P1, N1, O1, V1, V2, V3, reduceCtorEq, Nat.reduceEqDiff, Nat.reduceBEq, Nat.reduceAdd, Nat.reduceSub, Nat.reduceMul, Nat.reduceLeDiff, Nat.reduceLT, Int.reduceEq, Int.reduceAdd, Int.reduceSub, Int.reduceMul, Int.reduceLT, Int.reduceLE, Int.reduceNeg, Int.reduceToNat, wrap_i64, wrap_u64, wrap_u8, wrap_u16, wrap_u32, wrap_i32, base_get0, base_get, base_set0, base_set, base_take, take_self, take_app1]
    exact ⟨List.prefix_rfl, Own.nils⟩
  rintro k hk e H' ⟨hp, h5, h6, h7, h8, h9⟩ n hn
  have rv := (o2.mono hp).rd (lo := none)
  simp (maxSteps := 2000000) (disch := omega) only [condK_dec, ↓Int.cast_ofNat_Int, ↓R1, R2, C1, P1, N1, O1, V1, V2, V3, reduceCtorEq, Nat.reduceEqDiff, Nat.reduceBEq, Nat.reduceAdd, Nat.reduceSub, Nat.reduceMul, Nat.reduceLeDiff, Nat.reduceLT, Int.reduceEq, Int.reduceAdd, Int.reduceSub, Int.reduceMul, Int.reduceLT, Int.reduceLE, Int.reduceNeg, Int.reduceToNat, wrap_i64, wrap_u64, wrap_u8, wrap_u16, wrap_u32, wrap_i32, base_get0, base_get, base_set0, base_set, base_take, take_self, take_app1, l1_ref31_Diff, h5, h6, h7, h9, rv.lenM]
  refine ⟨fun h => ?_, fun h => ?_⟩
  · have hk' : k < (U ++ W).length := by rw [List.length_append]; omega
    obtain ⟨x, hx⟩ : ∃ x, (U ++ W).getD k [] = x := ⟨_, rfl⟩
    have hxm : x ∈ U ++ W := by
      rw [← hx, List.getD_eq_getElem?_getD, List.getElem?_eq_getElem hk']; exact List.getElem_mem hk'
    have hxl : x.length < 2^30 := (List.mem_append.1 hxm).elim (bu x) (bw x)
    obtain ⟨v8, h8v⟩ : ∃ v8, e 8 = v8 := ⟨_, rfl⟩
    obtain ⟨K, hK⟩ : ∃ K, keyR 0 x = K := ⟨_, rfl⟩
    have hdef : (default : List UInt8) = [] := rfl
    simp (maxSteps := 2000000) (disch := omega) only [condK_dec, F1, ↓Int.cast_ofNat_Int, ↓R1, R2, C1, P1, N1, O1, V1, V2, V3, reduceCtorEq, Nat.reduceEqDiff, Nat.reduceBEq, Nat.reduceAdd, Nat.reduceSub, Nat.reduceMul, Nat.reduceLeDiff, Nat.reduceLT, Int.reduceEq, Int.reduceAdd, Int.reduceSub, Int.reduceMul, Int.reduceLT, Int.reduceLE, Int.reduceNeg, Int.reduceToNat, wrap_i64, wrap_u64, wrap_u8, wrap_u16, wrap_u32, wrap_i32, base_get0, base_get, base_set0, base_set, base_take, take_self, take_app1, h, hk', h5, h6, h7, h9, rv.lenM, rv.addrM, rv.loadM, hdef, hx, refKey_D x hxl, hK]
    refine wp_loopN k (fun j e H'' => H'' = H' ∧ e 5 = u ∧ e 6 = w ∧ e 7 = v2 ∧ e 8 = v8 ∧ e 9 = .int .i64 k ∧ e 10 = S K ∧ e 11 = .bool (decide (K ∉ ((U ++ W).take j).map (keyR 0))) ∧ e 12 = .int .i64 j) 0 (by omega) ?_ ?_
    · simp (maxSteps := 2000000) (disch := omega) only [F1, ↓Int.cast_ofNat_Int, ↓R1, R2, C1, P1, N1, O1, V1, V2, V3, reduceCtorEq, Nat.reduceEqDiff, Nat.reduceBEq, Nat.reduceAdd, Nat.reduceSub, Nat.reduceMul, Nat.reduceLeDiff, Nat.reduceLT, Int.reduceEq, Int.reduceAdd, Int.reduceSub, Int.reduceMul, Int.reduceLT, Int.reduceLE, Int.reduceNeg, Int.reduceToNat, wrap_i64, wrap_u64, wrap_u8, wrap_u16, wrap_u32, wrap_i32, base_get0, base_get, base_set0, base_set, base_take, take_self, take_app1, h5, h6, h7, h8v, h9]
      simp
    · rintro j hj e H'' ⟨rfl, h5, h6, h7, h8v2, h9, h10, h11, h12⟩ n hn
      simp (maxSteps := 2000000) (disch := omega) only [condK_dec, F1, ↓Int.cast_ofNat_Int, ↓R1, R2, C1, P1, N1, O1, V1, V2, V3, reduceCtorEq, Nat.reduceEqDiff, Nat.reduceBEq, Nat.reduceAdd, Nat.reduceSub, Nat.reduceMul, Nat.reduceLeDiff, Nat.reduceLT, Int.reduceEq, Int.reduceAdd, Int.reduceSub, Int.reduceMul, Int.reduceLT, Int.reduceLE, Int.reduceNeg, Int.reduceToNat, wrap_i64, wrap_u64, wrap_u8, wrap_u16, wrap_u32, wrap_i32, base_get0, base_get, base_set0, base_set, base_take, take_self, take_app1, l2_ref31_Diff, h5, h6, h7, h9, h12]
      refine ⟨fun hjk => ?_, fun hjk => ?_⟩
      · have hjk' : j < k := by omega
        have hj' : j < (U ++ W).length := by omega
        obtain ⟨y, hy⟩ : ∃ y, (U ++ W).getD j [] = y := ⟨_, rfl⟩
        have hym : y ∈ U ++ W := by
          rw [← hy, List.getD_eq_getElem?_getD, List.getElem?_eq_getElem hj']; exact List.getElem_mem hj'
        have hyl : y.length < 2^30 := (List.mem_append.1 hym).elim (bu y) (bw y)
        have hs : ((U ++ W).take (j + 1)).map (keyR 0) = ((U ++ W).take j).map (keyR 0) ++ [keyR 0 y] := by
          rw [take_succB hj', hy, List.map_append]; rfl
        by_cases hm : K ∈ ((U ++ W).take j).map (keyR 0)
        · have h11' : e 11 = .bool false := by rw [h11, decide_eq_false fun c => c hm]
          simp (maxSteps := 2000000) (disch := omega) only [condK_dec, F1, ↓Int.cast_ofNat_Int, ↓R1, R2, C1, P1, N1, O1, V1, V2, V3, reduceCtorEq, Nat.reduceEqDiff, Nat.reduceBEq, Nat.reduceAdd, Nat.reduceSub, Nat.reduceMul, Nat.reduceLeDiff, Nat.reduceLT, Int.reduceEq, Int.reduceAdd, Int.reduceSub, Int.reduceMul, Int.reduceLT, Int.reduceLE, Int.reduceNeg, Int.reduceToNat, wrap_i64, wrap_u64, wrap_u8, wrap_u16, wrap_u32, wrap_i32, base_get0, base_get, base_set0, base_set, base_take, take_self, take_app1, hjk, h5, h6, h7, h8v2, h9, h10, h11', h12, hs, List.mem_append, hm]
          refine ⟨hjk', congrArg AV.bool ?_⟩
          simp
        · have h11' : e 11 = .bool true := by rw [h11, decide_eq_true hm]
          simp (maxSteps := 2000000) (disch := omega) only [condK_dec, F1, ↓Int.cast_ofNat_Int, ↓R1, R2, C1, P1, N1, O1, V1, V2, V3, reduceCtorEq, Nat.reduceEqDiff, Nat.reduceBEq, Nat.reduceAdd, Nat.reduceSub, Nat.reduceMul, Nat.reduceLeDiff, Nat.reduceLT, Int.reduceEq, Int.reduceAdd, Int.reduceSub, Int.reduceMul, Int.reduceLT, Int.reduceLE, Int.reduceNeg, Int.reduceToNat, wrap_i64, wrap_u64, wrap_u8, wrap_u16, wrap_u32, wrap_i32, base_get0, base_get, base_set0, base_set, base_take, take_self, take_app1, hjk, h5, h6, h7, h8v2, h9, h10, h11', h12, hs, List.mem_append, hm, rv.lenM, rv.addrM, rv.loadM, hdef, hy, hj', refKey_D y hyl]
          refine ⟨by omega, hjk', congrArg AV.bool ?_⟩
          simp [eq_comm]
      · have hjk' : j = k := by omega
        subst hjk'
        have hlast := fun (q : Bs) => last_D U u hu bu (by omega) q H'' none
        have hlast2 := fun (q : Bs) => last_D W w hw bw (by omega) q H'' none
        have hst := diffR_step (keyR 0) U W j hk'
        have hx' : (U ++ W)[j] = x := by rw [← hx, List.getD_eq_getElem?_getD, List.getElem?_eq_getElem hk']; rfl
        rw [hx', hK] at hst
        by_cases hm : K ∈ ((U ++ W).take j).map (keyR 0)
        · have h11' : e 11 = .bool false := by rw [h11, decide_eq_false fun c => c hm]
          rw [if_pos hm, List.append_nil] at hst
          simp (maxSteps := 2000000) (disch := omega) only [condK_dec, F1, ↓Int.cast_ofNat_Int, ↓R1, R2, C1, P1, N1, O1, V1, V2, V3, reduceCtorEq, Nat.reduceEqDiff, Nat.reduceBEq, Nat.reduceAdd, Nat.reduceSub, Nat.reduceMul, Nat.reduceLeDiff, Nat.reduceLT, Int.reduceEq, Int.reduceAdd, Int.reduceSub, Int.reduceMul, Int.reduceLT, Int.reduceLE, Int.reduceNeg, Int.reduceToNat, wrap_i64, wrap_u64, wrap_u8, wrap_u16, wrap_u32, wrap_i32, base_get0, base_get, base_set0, base_set, base_take, take_self, take_app1, hlast, hlast2, h5, h6, h7, h8v2, h9, h10, h11', h12]
          refine ⟨by omega, hp, ?_⟩
          rw [hst, ← h8v]; exact h8
        · have h11' : e 11 = .bool true := by rw [h11, decide_eq_true hm]
          rw [if_neg hm] at hst
          obtain ⟨o1, ho1⟩ : ∃ o, lastL (keyR 0) U K = o := ⟨_, rfl⟩
          obtain ⟨o2, ho2⟩ : ∃ o, lastL (keyR 0) W K = o := ⟨_, rfl⟩
          have hfin : ∀ p q v' H3, o1.getD [] = p → o2.getD [] = q → (o1.isSome ≠ o2.isSome ∨ p ≠ q) → Own N2 H3 v' 3 ty_ref31_Change ((diffR (keyR 0) U W j).map ch3 ++ [[S K, S p, S q]]) → Own N2 H3 v' 3 ty_ref31_Change ((diffR (keyR 0) U W (j + 1)).map ch3) := fun p q v' H3 e1 e2 hc ho => by
            rw [hst, List.map_append]
            unfold chg
            rw [ho1, ho2, e1, e2, if_pos hc]; exact ho
          have hno : ∀ H3, (¬ (o1.isSome ≠ o2.isSome ∨ o1.getD [] ≠ o2.getD [])) → Own N2 H3 v8 3 ty_ref31_Change ((diffR (keyR 0) U W j).map ch3) → Own N2 H3 v8 3 ty_ref31_Change ((diffR (keyR 0) U W (j + 1)).map ch3) := fun H3 hc ho => by
            rw [hst]
            unfold chg
            rw [ho1, ho2, if_neg hc, show (none : Option Ch).toList = [] from rfl, List.append_nil]; exact ho
          have hroom : ∀ p q : Bs, (((diffR (keyR 0) U W j).map ch3).length + [[S K, S p, S q]].length) * 48 ≤ room := fun p q => by
            have h1 := List.length_filterMap_le (chg (lastL (keyR 0) U) (lastL (keyR 0) W)) (dd (((U ++ W).take j).map (keyR 0)))
            have h2 := nd_le (dd_nodup (((U ++ W).take j).map (keyR 0))) fun x hx => (mem_dd _ _).1 hx
            rw [List.length_map, List.length_take, List.length_append] at h2
            rw [List.length_map, List.length_singleton]
            have h3 : (diffR (keyR 0) U W j).length ≤ 5000 := by
              unfold diffR; omega
            unfold room; omega
          have hyy : ∀ p q : Bs, ∀ el ∈ [[S K, S p, S q]], el.length = 3 := by simp
          have hrr : ∀ p q : Bs, refsLL [[S K, S p, S q]] = 0 := by simp [refsLL, refsL, refs_S]
          cases o1 with
          | none => cases o2 with
            | none =>
              simp (maxSteps := 2000000) (disch := omega) only [condK_dec, F1, ↓Int.cast_ofNat_Int, ↓R1, R2, C1, P1, N1, O1, V1, V2, V3, reduceCtorEq, Nat.reduceEqDiff, Nat.reduceBEq, Nat.reduceAdd, Nat.reduceSub, Nat.reduceMul, Nat.reduceLeDiff, Nat.reduceLT, Int.reduceEq, Int.reduceAdd, Int.reduceSub, Int.reduceMul, Int.reduceLT, Int.reduceLE, Int.reduceNeg, Int.reduceToNat, wrap_i64, wrap_u64, wrap_u8, wrap_u16, wrap_u32, wrap_i32, base_get0, base_get, base_set0, base_set, base_take, take_self, take_app1, hlast, hlast2, h5, h6, h7, h8v2, h9, h10, h11', h12, ho1, ho2, Option.isSome_none, Option.isSome_some, Option.getD_none, Option.getD_some, bb00, bb01, bb10, bb11]
              exact ⟨by omega, hp, hno _ (by simp) (h8v ▸ h8)⟩
            | some q =>
              simp (maxSteps := 2000000) (disch := omega) only [condK_dec, F1, ↓Int.cast_ofNat_Int, ↓R1, R2, C1, P1, N1, O1, V1, V2, V3, reduceCtorEq, Nat.reduceEqDiff, Nat.reduceBEq, Nat.reduceAdd, Nat.reduceSub, Nat.reduceMul, Nat.reduceLeDiff, Nat.reduceLT, Int.reduceEq, Int.reduceAdd, Int.reduceSub, Int.reduceMul, Int.reduceLT, Int.reduceLE, Int.reduceNeg, Int.reduceToNat, wrap_i64, wrap_u64, wrap_u8, wrap_u16, wrap_u32, wrap_i32, base_get0, base_get, base_set0, base_set, base_take, take_self, take_app1, hlast, hlast2, h5, h6, h7, h8v2, h9, h10, h11', h12, ho1, ho2, Option.isSome_none, Option.isSome_some, Option.getD_none, Option.getD_some, bb00, bb01, bb10, bb11]
              refine okP_append (h8v ▸ h8) hp hN2 (by decide) (hyy [] q) (hrr [] q) (hroom _ _) fun v' H3 hown hp1 => ?_
              simp (maxSteps := 2000000) (disch := omega) only [F1, ↓Int.cast_ofNat_Int, ↓R1, R2, C1, P1, N1, O1, V1, V2, V3, reduceCtorEq, Nat.reduceEqDiff, Nat.reduceBEq, Nat.reduceAdd, Nat.reduceSub, Nat.reduceMul, Nat.reduceLeDiff, Nat.reduceLT, Int.reduceEq, Int.reduceAdd, Int.reduceSub, Int.reduceMul, Int.reduceLT, Int.reduceLE, Int.reduceNeg, Int.reduceToNat, wrap_i64, wrap_u64, wrap_u8, wrap_u16, wrap_u32, wrap_i32, base_get0, base_get, base_set0, base_set, base_take, take_self, take_app1, h5, h6, h7, h8v2, h9]
              exact ⟨by omega, hp1, hfin _ _ _ _ rfl rfl (by simp) hown⟩
          | some p => cases o2 with
            | none =>
              simp (maxSteps := 2000000) (disch := omega) only [condK_dec, F1, ↓Int.cast_ofNat_Int, ↓R1, R2, C1, P1, N1, O1, V1, V2, V3, reduceCtorEq, Nat.reduceEqDiff, Nat.reduceBEq, Nat.reduceAdd, Nat.reduceSub, Nat.reduceMul, Nat.reduceLeDiff, Nat.reduceLT, Int.reduceEq, Int.reduceAdd, Int.reduceSub, Int.reduceMul, Int.reduceLT, Int.reduceLE, Int.reduceNeg, Int.reduceToNat, wrap_i64, wrap_u64, wrap_u8, wrap_u16, wrap_u32, wrap_i32, base_get0, base_get, base_set0, base_set, base_take, take_self, take_app1, hlast, hlast2, h5, h6, h7, h8v2, h9, h10, h11', h12, ho1, ho2, Option.isSome_none, Option.isSome_some, Option.getD_none, Option.getD_some, bb00, bb01, bb10, bb11]
              refine okP_append (h8v ▸ h8) hp hN2 (by decide) (hyy p []) (hrr p []) (hroom _ _) fun v' H3 hown hp1 => ?_
              simp (maxSteps := 2000000) (disch := omega) only [F1, ↓Int.cast_ofNat_Int, ↓R1, R2, C1, P1, N1, O1, V1, V2, V3, reduceCtorEq, Nat.reduceEqDiff, Nat.reduceBEq, Nat.reduceAdd, Nat.reduceSub, Nat.reduceMul, Nat.reduceLeDiff, Nat.reduceLT, Int.reduceEq, Int.reduceAdd, Int.reduceSub, Int.reduceMul, Int.reduceLT, Int.reduceLE, Int.reduceNeg, Int.reduceToNat, wrap_i64, wrap_u64, wrap_u8, wrap_u16, wrap_u32, wrap_i32, base_get0, base_get, base_set0, base_set, base_take, take_self, take_app1, h5, h6, h7, h8v2, h9]
              exact ⟨by omega, hp1, hfin _ _ _ _ rfl rfl (by simp) hown⟩
            | some q =>
              simp (maxSteps := 2000000) (disch := omega) only [condK_dec, F1, ↓Int.cast_ofNat_Int, ↓R1, R2, C1, P1, N1, O1, V1, V2, V3, reduceCtorEq, Nat.reduceEqDiff, Nat.reduceBEq, Nat.reduceAdd, Nat.reduceSub, Nat.reduceMul, Nat.reduceLeDiff, Nat.reduceLT, Int.reduceEq, Int.reduceAdd, Int.reduceSub, Int.reduceMul, Int.reduceLT, Int.reduceLE, Int.reduceNeg, Int.reduceToNat, wrap_i64, wrap_u64, wrap_u8, wrap_u16, wrap_u32, wrap_i32, base_get0, base_get, base_set0, base_set, base_take, take_self, take_app1, hlast, hlast2, h5, h6, h7, h8v2, h9, h10, h11', h12, ho1, ho2, Option.isSome_none, Option.isSome_some, Option.getD_none, Option.getD_some, bb00, bb01, bb10, bb11]
              refine ⟨fun hne => okP_append (h8v ▸ h8) hp hN2 (by decide) (hyy p q) (hrr p q) (hroom _ _) fun v' H3 hown hp1 => ?_, fun heq => ?_⟩
              · simp (maxSteps := 2000000) (disch := omega) only [F1, ↓Int.cast_ofNat_Int, ↓R1, R2, C1, P1, N1, O1, V1, V2, V3, reduceCtorEq, Nat.reduceEqDiff, Nat.reduceBEq, Nat.reduceAdd, Nat.reduceSub, Nat.reduceMul, Nat.reduceLeDiff, Nat.reduceLT, Int.reduceEq, Int.reduceAdd, Int.reduceSub, Int.reduceMul, Int.reduceLT, Int.reduceLE, Int.reduceNeg, Int.reduceToNat, wrap_i64, wrap_u64, wrap_u8, wrap_u16, wrap_u32, wrap_i32, base_get0, base_get, base_set0, base_set, base_take, take_self, take_app1, h5, h6, h7, h8v2, h9]
                exact ⟨by omega, hp1, hfin _ _ _ _ rfl rfl (.inr hne) hown⟩
              · exact ⟨by omega, hp, hno _ (by simp at heq; simp [heq]) (h8v ▸ h8)⟩
  · have hkl : k = (U ++ W).length := by rw [List.length_append] at hk ⊢; omega
    subst hkl
    rw [(own_mono h8 hNN).finish1 (by rw [ch_refs]; omega)]
    refine ⟨_, ret_eq rfl (take_pre hN (p2.trans hp)), ?_⟩
    have := h8.frz_rv
    rw [List.length_append] at this ⊢
    exact this
end Go.Proofs.YthbgjjdbcalhcaaGreatDoor

/- The program's lines, by keys. -/
namespace Go.Proofs.YthbgjjdbcalhcaaGreatDoor
open Go Go.Den
open Go.Proofs.DfDev
set_option maxRecDepth 10000
set_option maxHeartbeats 1000000

theorem fr_mp {σ : AS} {N k : Nat} : Den.freeze σ N k (.mp N) = none := by
  have h : ¬ (AV.mp N).refs ≤ N := by simp only [AV.refs]; omega
  cases k <;> (unfold Den.freeze; simp only [if_neg h])

theorem lines_D (l : List UInt8) (hl : l.length ≤ 2000) (H : List AObj) (lo : Option Nat) : ∃ v H', D X (.fn (.func fn_diff_lines) [] []) [S l] ⟨H, lo⟩ = some (.ret (.tup [.mp H.length, v]) ⟨H', lo⟩) ∧ H <+: H' ∧ H'[H.length]? = some (.map ((mapL keyP (neL (linesR l))).map ent)) ∧ Own (H.length + 1) H' v 1 ty_string (ls ((mapL keyP (neL (linesR l))).map Prod.fst)) ∧ H.length < H'.length := by
  suffices h : ∃ cr, D X (.fn (.func fn_diff_lines) [] []) [S l] ⟨H, lo⟩ = some cr ∧ (fun cr => ∃ v H', cr = CRes.ret (.tup [.mp H.length, v]) ⟨H', lo⟩ ∧ H <+: H' ∧ H'[H.length]? = some (.map ((mapL keyP (neL (linesR l))).map ent)) ∧ Own (H.length + 1) H' v 1 ty_string (ls ((mapL keyP (neL (linesR l))).map Prod.fst)) ∧ H.length < H'.length) cr by
    obtain ⟨cr, h1, v, H', rfl, h2⟩ := h
    exact ⟨v, H', h1, h2⟩
  refine D_fn_ex pf_diff_lines rfl rfl rfl fun N hN => ?_
  rw [hN]
  obtain ⟨r, er, hr⟩ := Lines_D l (by omega) (H ++ [.map []]) none
  rw [lines_eq] at hr
  have hlen := linesR_len l
  have hbx : ∀ x ∈ linesR l, x.length < 2^30 := fun x hx => by
    rw [← lines_eq] at hx
    unfold linesD at hx
    split at hx
    · simp at hx
    · have h1 := splitS_len 10 _ x hx
      have h2 := trimN_len l
      omega
  obtain ⟨L, hL⟩ : ∃ L, linesR l = L := ⟨_, rfl⟩
  rw [hL] at hr hlen hbx ⊢
  have hr' : Rv r 1 (L.map fun x => [S x]) := hr
  simp (maxSteps := 2000000) (disch := omega) only [F1, ↓Int.cast_ofNat_Int, ↓R1, R2, C1, P1, N1, O1, V1, V2, V3, reduceCtorEq, Nat.reduceEqDiff, Nat.reduceBEq, Nat.reduceAdd, Nat.reduceSub, Nat.reduceMul, Nat.reduceLeDiff, Nat.reduceLT, Int.reduceEq, Int.reduceAdd, Int.reduceSub, Int.reduceMul, Int.reduceLT, Int.reduceLE, Int.reduceNeg, Int.reduceToNat, wrap_i64, wrap_u64, wrap_u8, wrap_u16, wrap_u32, wrap_i32, base_get0, base_get, base_set0, base_set, base_take, take_self, take_app1, pf_diff_lines, er, hr'.lenM, hN]
  refine wp_loopN L.length (fun k e H' => H <+: H' ∧ N < H'.length ∧ e 4 = .mp N ∧ e 13 = r ∧ e 14 = .int .i64 L.length ∧ e 15 = .int .i64 k ∧ H'[N]? = some (.map ((mapL keyP (neL (L.take k))).map ent)) ∧ Own (N + 1) H' (e 5) 1 ty_string (ls ((mapL keyP (neL (L.take k))).map Prod.fst))) 0 (by omega) ?_ ?_
  · simp (maxSteps := 2000000) (disch := omega) only [F1, ↓Int.cast_ofNat_Int, ↓R1, R2, C1, P1, N1, O1, V1, V2, V3, reduceCtorEq, Nat.reduceEqDiff, Nat.reduceBEq, Nat.reduceAdd, Nat.reduceSub, Nat.reduceMul, Nat.reduceLeDiff, Nat.reduceLT, Int.reduceEq, Int.reduceAdd, Int.reduceSub, Int.reduceMul, Int.reduceLT, Int.reduceLE, Int.reduceNeg, Int.reduceToNat, wrap_i64, wrap_u64, wrap_u8, wrap_u16, wrap_u32, wrap_i32, base_get0, base_get, base_set0, base_set, base_take, take_self, take_app1]
    refine ⟨List.prefix_append _ _, by omega, ?_, Own.nils⟩
    simp [neL, mapL]
  rintro k hk e H' ⟨hp, hlt, h4, h13, h14, h15, hm, h5⟩ n hn
  simp (maxSteps := 2000000) (disch := omega) only [condK_dec, ↓Int.cast_ofNat_Int, ↓R1, R2, C1, P1, N1, O1, V1, V2, V3, reduceCtorEq, Nat.reduceEqDiff, Nat.reduceBEq, Nat.reduceAdd, Nat.reduceSub, Nat.reduceMul, Nat.reduceLeDiff, Nat.reduceLT, Int.reduceEq, Int.reduceAdd, Int.reduceSub, Int.reduceMul, Int.reduceLT, Int.reduceLE, Int.reduceNeg, Int.reduceToNat, wrap_i64, wrap_u64, wrap_u8, wrap_u16, wrap_u32, wrap_i32, base_get0, base_get, base_set0, base_set, base_take, take_self, take_app1, l1_diff_lines, h13, h14, h15]
  refine ⟨fun h => ?_, fun h => ?_⟩
  · have hk' : k < L.length := by omega
    obtain ⟨x, hx⟩ : ∃ x, L.getD k [] = x := ⟨_, rfl⟩
    have hxl : x.length < 2^30 := by
      rw [← hx, List.getD_eq_getElem?_getD, List.getElem?_eq_getElem hk']; exact hbx _ (List.getElem_mem hk')
    have hs := neL_snoc (L.take k) (L.getD k [])
    rw [← take_succB hk', hx] at hs
    have hdef : (default : List UInt8) = [] := rfl
    by_cases hx0 : x = []
    · rw [if_pos hx0] at hs
      subst hx0
      simp (maxSteps := 2000000) (disch := omega) only [condK_dec, ↓Int.cast_ofNat_Int, ↓R1, R2, C1, P1, N1, O1, V1, V2, V3, reduceCtorEq, Nat.reduceEqDiff, Nat.reduceBEq, Nat.reduceAdd, Nat.reduceSub, Nat.reduceMul, Nat.reduceLeDiff, Nat.reduceLT, Int.reduceEq, Int.reduceAdd, Int.reduceSub, Int.reduceMul, Int.reduceLT, Int.reduceLE, Int.reduceNeg, Int.reduceToNat, wrap_i64, wrap_u64, wrap_u8, wrap_u16, wrap_u32, wrap_i32, base_get0, base_get, base_set0, base_set, base_take, take_self, take_app1, h, hk', h4, h13, h14, h15, hr'.addrM, hr'.loadM, hr'.fpLM, hdef, hx, hs]
      exact ⟨hp, hlt, hm, h5⟩
    · rw [if_neg hx0] at hs
      obtain ⟨es, hes⟩ : ∃ es, mapL keyP (neL (L.take k)) = es := ⟨_, rfl⟩
      obtain ⟨v5, h5v⟩ : ∃ v5, e 5 = v5 := ⟨_, rfl⟩
      have hsm : mapL keyP (neL (L.take (k + 1))) = putL (keyP x) x es := by rw [hs, mapL_snoc, hes]
      rw [hes] at hm h5
      rw [h5v] at h5
      have hkp := keys_put (keyP x) x es
      have hlk := look_some (keyP x) es
      have hesl : (es.map Prod.fst).length ≤ 3000 := by
        rw [← hes, keys_map]
        have h1 := nd_le (dd_nodup ((neL (L.take k)).map keyP)) fun y hy => (mem_dd _ _).1 hy
        have h2 := neL_len (L.take k)
        rw [List.length_map] at h1
        rw [List.length_take] at h2
        omega
      cases ho : lookL (keyP x) es with
      | some p =>
        have hin : keyP x ∈ es.map Prod.fst := by rw [ho] at hlk; simpa using hlk.symm
        rw [if_pos hin] at hkp
        simp (maxSteps := 2000000) (disch := omega) only [condK_dec, ↓Int.cast_ofNat_Int, ↓R1, R2, C1, P1, N1, O1, V1, V2, V3, reduceCtorEq, Nat.reduceEqDiff, Nat.reduceBEq, Nat.reduceAdd, Nat.reduceSub, Nat.reduceMul, Nat.reduceLeDiff, Nat.reduceLT, Int.reduceEq, Int.reduceAdd, Int.reduceSub, Int.reduceMul, Int.reduceLT, Int.reduceLE, Int.reduceNeg, Int.reduceToNat, wrap_i64, wrap_u64, wrap_u8, wrap_u16, wrap_u32, wrap_i32, base_get0, base_get, base_set0, base_set, base_take, take_self, take_app1, h, hk', h4, h13, h14, h15, h5v, hr'.addrM, hr'.loadM, hr'.fpLM, hdef, hx, hx0, Key_D x hxl, lookup_ent2 hm, ho, Option.isSome_some, Option.getD_some, mput_ent hm]
        refine ⟨ prefix_set hp (by omega), by omega, ?_, own_set ?_ (by omega)⟩
        · rw [List.getElem?_set_self (by omega), hsm]
        · rw [hsm, hkp]; exact h5
      | none =>
        have hin : keyP x ∉ es.map Prod.fst := by rw [ho] at hlk; simpa using hlk.symm
        rw [if_neg hin] at hkp
        simp (maxSteps := 2000000) (disch := omega) only [condK_dec, ↓Int.cast_ofNat_Int, ↓R1, R2, C1, P1, N1, O1, V1, V2, V3, reduceCtorEq, Nat.reduceEqDiff, Nat.reduceBEq, Nat.reduceAdd, Nat.reduceSub, Nat.reduceMul, Nat.reduceLeDiff, Nat.reduceLT, Int.reduceEq, Int.reduceAdd, Int.reduceSub, Int.reduceMul, Int.reduceLT, Int.reduceLE, Int.reduceNeg, Int.reduceToNat, wrap_i64, wrap_u64, wrap_u8, wrap_u16, wrap_u32, wrap_i32, base_get0, base_get, base_set0, base_set, base_take, take_self, take_app1, h, hk', h4, h13, h14, h15, h5v, hr'.addrM, hr'.loadM, hr'.fpLM, hdef, hx, hx0, Key_D x hxl, lookup_ent2 hm, ho, Option.isSome_none, Option.getD_none]
        refine okP_append (H0 := H'.take (N + 1)) h5 (List.take_prefix _ _) (by rw [List.length_take]; omega) (by decide) (by simp) (by simp [refsLL, refsL, refs_S]) (by simp [ls, room] at hesl ⊢; omega) fun v' H1 hown hp1 => ?_
        have hN1 : N < H1.length := by have := hp1.length_le; rw [List.length_take] at this; omega
        have hm1 : H1[N]? = some (.map (es.map ent)) := by
          obtain ⟨T, rfl⟩ := hp1
          rw [List.getElem?_append_left (by rw [List.length_take]; omega), List.getElem?_take, if_pos (by omega)]; exact hm
        have hp2 : H <+: H1 := (List.prefix_take_iff.2 ⟨hp, by omega⟩).trans hp1
        simp (maxSteps := 2000000) (disch := omega) only [condK_dec, ↓Int.cast_ofNat_Int, ↓R1, R2, C1, P1, N1, O1, V1, V2, V3, reduceCtorEq, Nat.reduceEqDiff, Nat.reduceBEq, Nat.reduceAdd, Nat.reduceSub, Nat.reduceMul, Nat.reduceLeDiff, Nat.reduceLT, Int.reduceEq, Int.reduceAdd, Int.reduceSub, Int.reduceMul, Int.reduceLT, Int.reduceLE, Int.reduceNeg, Int.reduceToNat, wrap_i64, wrap_u64, wrap_u8, wrap_u16, wrap_u32, wrap_i32, base_get0, base_get, base_set0, base_set, base_take, take_self, take_app1, h4, h13, h14, h15, mput_ent hm1]
        refine ⟨hk', prefix_set hp2 (by omega), by omega, ?_, own_set ?_ (by omega)⟩
        · rw [List.getElem?_set_self (by omega), hsm]
        · rw [hsm, hkp]; simpa [ls] using hown
  · have hkl : k = L.length := by omega
    subst hkl
    rw [List.take_length] at hm h5
    rw [h4, finish_none (by simp only [AV.refs, refsL]; omega) (by rw [freeze_tup, if_neg (by simp only [AV.refs, refsL]; omega), freezeL, fr_mp])]
    exact ⟨e 5, H', rfl, hp, hm, h5, hlt⟩
end Go.Proofs.YthbgjjdbcalhcaaGreatDoor

/- The program's changes. -/
namespace Go.Proofs.YthbgjjdbcalhcaaGreatDoor
open Go Go.Den
open Go.Proofs.DfDev
set_option maxRecDepth 10000
set_option maxHeartbeats 1000000

theorem pre_get {H H' : List AObj} {i : Nat} {o : AObj} (hp : H <+: H') (h : H[i]? = some o) : H'[i]? = some o := by
  obtain ⟨L, rfl⟩ := hp
  rw [List.getElem?_append_left (List.getElem?_eq_some_iff.1 h).1]; exact h

theorem in_D (C M : Nat) (es : List (Bs × Bs)) (k : Bs) (H : List AObj) (lo : Option Nat) (hC : H[C]? = some (.box [.mp M] none)) (hM : H[M]? = some (.map (es.map ent))) : D X (.fn (.func fn_diff_Diff_1) [] [.ptr C 0]) [S k] ⟨H, lo⟩ = some (.ret (.bool (!(lookL k es).isSome)) ⟨H, lo⟩) := by
  refine D_clo pf_diff_Diff_1 rfl rfl rfl fun N hN => ?_
  simp (maxSteps := 2000000) (disch := omega) only [F1, ↓Int.cast_ofNat_Int, ↓R1, R2, C1, P1, N1, O1, V1, V2, V3, reduceCtorEq, Nat.reduceEqDiff, Nat.reduceBEq, Nat.reduceAdd, Nat.reduceSub, Nat.reduceMul, Nat.reduceLeDiff, Nat.reduceLT, Int.reduceEq, Int.reduceAdd, Int.reduceSub, Int.reduceMul, Int.reduceLT, Int.reduceLE, Int.reduceNeg, Int.reduceToNat, wrap_i64, wrap_u64, wrap_u8, wrap_u16, wrap_u32, wrap_i32, base_get0, base_get, base_set0, base_set, base_take, take_self, take_app1, pf_diff_Diff_1, hC, lookup_ent2 hM, hN]

theorem some_D (C M : Nat) (es : List (Bs × Bs)) (ks : List Bs) (hks : ks.length ≤ 5000) (v : AV) (H : List AObj) (lo : Option Nat) (hv : Rd ⟨H, none⟩ v 1 (ls ks)) (hC : H[C]? = some (.box [.mp M] none)) (hM : H[M]? = some (.map (es.map ent))) : ∃ r, D X (.fn (.func fn_diff_some_string) [] []) [v, .fn (.func fn_diff_Diff_1) [] [.ptr C 0]] ⟨H, lo⟩ = some (.ret r ⟨H, lo⟩) ∧ Rv r 1 (ls (ks.filter fun k => decide ((lookL k es).isSome = false))) := by
  suffices h : ∃ cr, D X (.fn (.func fn_diff_some_string) [] []) [v, .fn (.func fn_diff_Diff_1) [] [.ptr C 0]] ⟨H, lo⟩ = some cr ∧ (fun cr => ∃ r, cr = CRes.ret r ⟨H, lo⟩ ∧ Rv r 1 (ls (ks.filter fun k => decide ((lookL k es).isSome = false)))) cr by
    obtain ⟨cr, h1, r, rfl, h2⟩ := h
    exact ⟨r, h1, h2⟩
  refine D_fn_ex pf_diff_some_string rfl rfl rfl fun N hN => ?_
  have hv' : Rd ⟨H, none⟩ v 1 (ks.map fun x => [S x]) := hv
  simp (maxSteps := 2000000) (disch := omega) only [F1, ↓Int.cast_ofNat_Int, ↓R1, R2, C1, P1, N1, O1, V1, V2, V3, reduceCtorEq, Nat.reduceEqDiff, Nat.reduceBEq, Nat.reduceAdd, Nat.reduceSub, Nat.reduceMul, Nat.reduceLeDiff, Nat.reduceLT, Int.reduceEq, Int.reduceAdd, Int.reduceSub, Int.reduceMul, Int.reduceLT, Int.reduceLE, Int.reduceNeg, Int.reduceToNat, wrap_i64, wrap_u64, wrap_u8, wrap_u16, wrap_u32, wrap_i32, base_get0, base_get, base_set0, base_set, base_take, take_self, take_app1, pf_diff_some_string, hv'.lenM, hN]
  refine wp_loopN ks.length (fun k e H' => H <+: H' ∧ e 1 = .fn (.func fn_diff_Diff_1) [] [.ptr C 0] ∧ e 8 = v ∧ e 9 = .int .i64 ks.length ∧ e 10 = .int .i64 k ∧ Own N H' (e 5) 1 ty_string (ls ((ks.take k).filter fun k => decide ((lookL k es).isSome = false)))) 0 (by omega) ?_ ?_
  · simp (maxSteps := 2000000) (disch := omega) only [F1, ↓Int.cast_ofNat_Int, ↓R1, R2, C1, P1, N1, O1, V1, V2, V3, reduceCtorEq, Nat.reduceEqDiff, Nat.reduceBEq, Nat.reduceAdd, Nat.reduceSub, Nat.reduceMul, Nat.reduceLeDiff, Nat.reduceLT, Int.reduceEq, Int.reduceAdd, Int.reduceSub, Int.reduceMul, Int.reduceLT, Int.reduceLE, Int.reduceNeg, Int.reduceToNat, wrap_i64, wrap_u64, wrap_u8, wrap_u16, wrap_u32, wrap_i32, base_get0, base_get, base_set0, base_set, base_take, take_self, take_app1]
    exact ⟨List.prefix_rfl, Own.nils⟩
  rintro k hk e H' ⟨hp, h1, h8, h9, h10, h5⟩ n hn
  obtain ⟨v5, h5v⟩ : ∃ v5, e 5 = v5 := ⟨_, rfl⟩
  rw [h5v] at h5
  have rv := hv'.mono (lo' := none) hp
  simp (maxSteps := 2000000) (disch := omega) only [condK_dec, ↓Int.cast_ofNat_Int, ↓R1, R2, C1, P1, N1, O1, V1, V2, V3, reduceCtorEq, Nat.reduceEqDiff, Nat.reduceBEq, Nat.reduceAdd, Nat.reduceSub, Nat.reduceMul, Nat.reduceLeDiff, Nat.reduceLT, Int.reduceEq, Int.reduceAdd, Int.reduceSub, Int.reduceMul, Int.reduceLT, Int.reduceLE, Int.reduceNeg, Int.reduceToNat, wrap_i64, wrap_u64, wrap_u8, wrap_u16, wrap_u32, wrap_i32, base_get0, base_get, base_set0, base_set, base_take, take_self, take_app1, l1_diff_some_string, h8, h9, h10]
  refine ⟨fun h => ?_, fun h => ?_⟩
  · have hk' : k < ks.length := by omega
    obtain ⟨x, hx⟩ : ∃ x, ks.getD k [] = x := ⟨_, rfl⟩
    have hdef : (default : List UInt8) = [] := rfl
    have hs := take_succB hk'
    rw [hx] at hs
    have hf := List.length_filter_le (fun k => decide ((lookL k es).isSome = false)) (ks.take k)
    rw [List.length_take] at hf
    have hroom : ((ls ((ks.take k).filter fun k => decide ((lookL k es).isSome = false))).length + [[S x]].length) * 16 ≤ room := by
      have hf' : (ls ((ks.take k).filter fun k => decide ((lookL k es).isSome = false))).length ≤ 5000 := by
        unfold ls
        rw [List.length_map]
        exact Nat.le_trans (List.length_filter_le _ _) (by rw [List.length_take]; omega)
      rw [List.length_singleton]
      unfold room; omega
    have hid := in_D C M es x H' none (pre_get hp hC) (pre_get hp hM)
    cases ho : (lookL x es).isSome with
    | true =>
      rw [ho] at hid
      simp (maxSteps := 2000000) (disch := omega) only [condK_dec, ↓Int.cast_ofNat_Int, ↓R1, R2, C1, P1, N1, O1, V1, V2, V3, reduceCtorEq, Nat.reduceEqDiff, Nat.reduceBEq, Nat.reduceAdd, Nat.reduceSub, Nat.reduceMul, Nat.reduceLeDiff, Nat.reduceLT, Int.reduceEq, Int.reduceAdd, Int.reduceSub, Int.reduceMul, Int.reduceLT, Int.reduceLE, Int.reduceNeg, Int.reduceToNat, wrap_i64, wrap_u64, wrap_u8, wrap_u16, wrap_u32, wrap_i32, base_get0, base_get, base_set0, base_set, base_take, take_self, take_app1, h, hk', h1, h8, h9, h10, h5v, rv.addrM, rv.loadM, hdef, hx, hid, Bool.not_true]
      refine ⟨hp, ?_⟩
      rw [hs, List.filter_append, show [x].filter (fun k => decide ((lookL k es).isSome = false)) = [] by rw [List.filter_cons, ho]; rfl, List.append_nil]
      exact h5
    | false =>
      rw [ho] at hid
      simp (maxSteps := 2000000) (disch := omega) only [condK_dec, ↓Int.cast_ofNat_Int, ↓R1, R2, C1, P1, N1, O1, V1, V2, V3, reduceCtorEq, Nat.reduceEqDiff, Nat.reduceBEq, Nat.reduceAdd, Nat.reduceSub, Nat.reduceMul, Nat.reduceLeDiff, Nat.reduceLT, Int.reduceEq, Int.reduceAdd, Int.reduceSub, Int.reduceMul, Int.reduceLT, Int.reduceLE, Int.reduceNeg, Int.reduceToNat, wrap_i64, wrap_u64, wrap_u8, wrap_u16, wrap_u32, wrap_i32, base_get0, base_get, base_set0, base_set, base_take, take_self, take_app1, h, hk', h1, h8, h9, h10, h5v, rv.addrM, rv.loadM, hdef, hx, hid, Bool.not_false]
      refine okP_append h5 hp hN (by decide) (by simp) (by simp [refsLL, refsL, refs_S]) hroom fun v' H1 hown hp1 => ?_
      simp (maxSteps := 2000000) (disch := omega) only [condK_dec, ↓Int.cast_ofNat_Int, ↓R1, R2, C1, P1, N1, O1, V1, V2, V3, reduceCtorEq, Nat.reduceEqDiff, Nat.reduceBEq, Nat.reduceAdd, Nat.reduceSub, Nat.reduceMul, Nat.reduceLeDiff, Nat.reduceLT, Int.reduceEq, Int.reduceAdd, Int.reduceSub, Int.reduceMul, Int.reduceLT, Int.reduceLE, Int.reduceNeg, Int.reduceToNat, wrap_i64, wrap_u64, wrap_u8, wrap_u16, wrap_u32, wrap_i32, base_get0, base_get, base_set0, base_set, base_take, take_self, take_app1, h1, h8, h9, h10]
      refine ⟨hk', hp1, ?_⟩
      rw [hs, List.filter_append, show [x].filter (fun k => decide ((lookL k es).isSome = false)) = [x] by rw [List.filter_cons, ho]; rfl]
      simpa [ls] using hown
  · have hkl : k = ks.length := by omega
    subst hkl
    rw [List.take_length] at h5
    rw [h5v, h5.finish1 (by rw [ls_refs]; omega)]
    exact ⟨_, ret_eq rfl (take_pre hN hp), h5.frz_rv⟩

theorem own_frz {N : Nat} {H : List AObj} {v : AV} {sz : Nat} {ty : TypeId} {els : List (List AV)} (h : Own N H v sz ty els) (hne : els ≠ []) : frz v els = .sl els false := by
  rcases h.2 with ⟨_, e⟩ | ⟨id, ver, _, rfl, _⟩
  · exact absurd e hne
  · rfl

theorem Diff_D (a b : List UInt8) (ha : a.length ≤ 2000) (hb : b.length ≤ 2000) (H : List AObj) (lo : Option Nat) : ∃ r, D X (.fn (.func fn_diff_Diff) [] []) [S a, S b] ⟨H, lo⟩ = some (.ret r ⟨H, lo⟩) ∧ Rv r 3 ((diffP keyP (neL (linesR a)) (neL (linesR b))).map ch3) ∧ ((diffP keyP (neL (linesR a)) (neL (linesR b))).map ch3 ≠ [] → r = .sl ((diffP keyP (neL (linesR a)) (neL (linesR b))).map ch3) false) := by
  suffices h : ∃ cr, D X (.fn (.func fn_diff_Diff) [] []) [S a, S b] ⟨H, lo⟩ = some cr ∧ (fun cr => ∃ r, cr = CRes.ret r ⟨H, lo⟩ ∧ Rv r 3 ((diffP keyP (neL (linesR a)) (neL (linesR b))).map ch3) ∧ ((diffP keyP (neL (linesR a)) (neL (linesR b))).map ch3 ≠ [] → r = .sl ((diffP keyP (neL (linesR a)) (neL (linesR b))).map ch3) false)) cr by
    obtain ⟨cr, h1, r, rfl, h2⟩ := h
    exact ⟨r, h1, h2⟩
  refine D_fn_ex pf_diff_Diff rfl rfl rfl fun N hN => ?_
  obtain ⟨v1, H1, e1, p1, m1, o1, l1⟩ := lines_D a ha H none
  rw [hN] at e1 m1 o1 l1
  obtain ⟨C, hC⟩ : ∃ C, H1.length = C := ⟨_, rfl⟩
  have hCb : (H1 ++ [AObj.box [.mp N] none]).length = C + 1 := by simp [hC]
  obtain ⟨v2, H2, e2, p2, m2, o2, l2⟩ := lines_D b hb (H1 ++ [.box [.mp N] none]) none
  rw [hCb] at e2 m2 o2 l2
  have p12 : H1 <+: H2 := (List.prefix_append _ _).trans p2
  have bC : H2[C]? = some (.box [.mp N] none) := pre_get p2 (by rw [List.getElem?_append_right (by omega), hC]; simp)
  have m1' := pre_get p12 m1
  have lu := Nat.le_trans (neL_len (linesR a)) (linesR_len a)
  have lw := Nat.le_trans (neL_len (linesR b)) (linesR_len b)
  obtain ⟨U, hU⟩ : ∃ U, neL (linesR a) = U := ⟨_, rfl⟩
  obtain ⟨W, hW⟩ : ∃ W, neL (linesR b) = W := ⟨_, rfl⟩
  rw [hU] at m1 m1' o1 lu
  rw [hW] at m2 o2 lw
  rw [hU, hW]
  have kl : ∀ Z : List Bs, ((mapL keyP Z).map Prod.fst).length ≤ Z.length := fun Z => by
    rw [keys_map]
    have := nd_le (dd_nodup (Z.map keyP)) fun y hy => (mem_dd _ _).1 hy
    rwa [List.length_map] at this
  have ku := kl U
  have kw := kl W
  obtain ⟨r, er, hr⟩ := some_D C N (mapL keyP U) ((mapL keyP W).map Prod.fst) (by omega) v2 H2 none o2.rd bC m1'
  have hNC : N ≤ C := by omega
  obtain ⟨K2, hK2⟩ : ∃ K2, (mapL keyP W).map Prod.fst = K2 := ⟨_, rfl⟩
  obtain ⟨K1, hK1⟩ : ∃ K1, (mapL keyP U).map Prod.fst = K1 := ⟨_, rfl⟩
  have hF := List.length_filter_le (fun k => decide ((lookL k (mapL keyP U)).isSome = false)) K2
  rw [hK2] at hr kw
  rw [hK1] at o1 ku
  obtain ⟨F2, hF2⟩ : ∃ F2, K2.filter (fun k => decide ((lookL k (mapL keyP U)).isSome = false)) = F2 := ⟨_, rfl⟩
  rw [hF2] at hr hF
  have hd : diffP keyP U W = (K1 ++ F2).filterMap (chg (fun k => lookL k (mapL keyP U)) (fun k => lookL k (mapL keyP W))) := by
    unfold diffP; rw [hK1, hK2, hF2]
  have yf : ∀ el ∈ ls F2, el.length = 1 := fun el hel => by simp only [ls, List.mem_map] at hel; obtain ⟨x, _, rfl⟩ := hel; rfl
  have lk : ∀ z : List Bs, (ls z).length = z.length := fun z => by unfold ls; rw [List.length_map]
  have lsa : ls K1 ++ ls F2 = (K1 ++ F2).map fun x => [S x] := by simp [ls]
  have o1' : Own (N + 1) H2 v1 1 ty_string (ls K1) := o1.mono p12
  rw [hd]
  simp (maxSteps := 2000000) (disch := omega) only [F1, ↓Int.cast_ofNat_Int, ↓R1, R2, C1, P1, N1, O1, V1, V2, V3, reduceCtorEq, Nat.reduceEqDiff, Nat.reduceBEq, Nat.reduceAdd, Nat.reduceSub, Nat.reduceMul, Nat.reduceLeDiff, Nat.reduceLT, Int.reduceEq, Int.reduceAdd, Int.reduceSub, Int.reduceMul, Int.reduceLT, Int.reduceLE, Int.reduceNeg, Int.reduceToNat, wrap_i64, wrap_u64, wrap_u8, wrap_u16, wrap_u32, wrap_i32, base_get0, base_get, base_set0, base_set, base_take, take_self, take_app1, pf_diff_Diff, e1, e2, hN, hC, er, hr.elems, if_pos hNC]
  refine okP_append3 (H0 := H2.take (N + 1)) o1' (List.take_prefix _ _) (by rw [List.length_take]; omega) (by decide) yf (ls_refs F2) (by rw [lk, lk]; unfold room; omega) fun v3 H3 o3 p3 l3 k3 => ?_
  rw [lsa] at o3
  have bC3 : H3[C]? = some (.box [.mp N] none) := k3 _ _ (by simp) bC
  have m13 := k3 _ _ (by simp) m1'
  have m23 := k3 _ _ (by simp) m2
  obtain ⟨A, hA⟩ : ∃ A, K1 ++ F2 = A := ⟨_, rfl⟩
  rw [hA] at o3 ⊢
  have hAl : A.length ≤ 10000 := by rw [← hA, List.length_append]; omega
  obtain ⟨N3, hN3⟩ : ∃ N3, H3.length = N3 := ⟨_, rfl⟩
  have hp3 : H <+: H3 := (List.prefix_take_iff.2 ⟨p1.trans p12, by omega⟩).trans p3
  have rv3 : Rd ⟨H3, none⟩ v3 1 (A.map fun x => [S x]) := o3.rd
  simp (maxSteps := 2000000) (disch := omega) only [F1, ↓Int.cast_ofNat_Int, ↓R1, R2, C1, P1, N1, O1, V1, V2, V3, reduceCtorEq, Nat.reduceEqDiff, Nat.reduceBEq, Nat.reduceAdd, Nat.reduceSub, Nat.reduceMul, Nat.reduceLeDiff, Nat.reduceLT, Int.reduceEq, Int.reduceAdd, Int.reduceSub, Int.reduceMul, Int.reduceLT, Int.reduceLE, Int.reduceNeg, Int.reduceToNat, wrap_i64, wrap_u64, wrap_u8, wrap_u16, wrap_u32, wrap_i32, base_get0, base_get, base_set0, base_set, base_take, take_self, take_app1, rv3.lenM]
  obtain ⟨g, hg⟩ : ∃ g, chg (fun k => lookL k (mapL keyP U)) (fun k => lookL k (mapL keyP W)) = g := ⟨_, rfl⟩
  rw [hg]
  refine wp_loopN A.length (fun k e H' => H3 <+: H' ∧ e 5 = .ptr C 0 ∧ e 7 = .mp (C + 1) ∧ e 32 = v3 ∧ e 33 = .int .i64 A.length ∧ e 34 = .int .i64 k ∧ Own N3 H' (e 10) 3 ty_diff_Change (((A.take k).filterMap g).map ch3)) 0 (by omega) ?_ ?_
  · simp (maxSteps := 2000000) (disch := omega) only [F1, ↓Int.cast_ofNat_Int, ↓R1, R2, C1, P1, N1, O1, V1, V2, V3, reduceCtorEq, Nat.reduceEqDiff, Nat.reduceBEq, Nat.reduceAdd, Nat.reduceSub, Nat.reduceMul, Nat.reduceLeDiff, Nat.reduceLT, Int.reduceEq, Int.reduceAdd, Int.reduceSub, Int.reduceMul, Int.reduceLT, Int.reduceLE, Int.reduceNeg, Int.reduceToNat, wrap_i64, wrap_u64, wrap_u8, wrap_u16, wrap_u32, wrap_i32, base_get0, base_get, base_set0, base_set, base_take, take_self, take_app1]
    exact ⟨List.prefix_rfl, Own.nils⟩
  rintro k hk e H' ⟨hp, h5, h7, h32, h33, h34, h10⟩ n hn
  obtain ⟨v10, h10v⟩ : ∃ v10, e 10 = v10 := ⟨_, rfl⟩
  rw [h10v] at h10
  have rv := rv3.mono (lo' := none) hp
  have bC' := pre_get hp bC3
  have m1' := pre_get hp m13
  have m2' := pre_get hp m23
  simp (maxSteps := 2000000) (disch := omega) only [condK_dec, ↓Int.cast_ofNat_Int, ↓R1, R2, C1, P1, N1, O1, V1, V2, V3, reduceCtorEq, Nat.reduceEqDiff, Nat.reduceBEq, Nat.reduceAdd, Nat.reduceSub, Nat.reduceMul, Nat.reduceLeDiff, Nat.reduceLT, Int.reduceEq, Int.reduceAdd, Int.reduceSub, Int.reduceMul, Int.reduceLT, Int.reduceLE, Int.reduceNeg, Int.reduceToNat, wrap_i64, wrap_u64, wrap_u8, wrap_u16, wrap_u32, wrap_i32, base_get0, base_get, base_set0, base_set, base_take, take_self, take_app1, l1_diff_Diff, h32, h33, h34]
  refine ⟨fun h => ?_, fun h => ?_⟩
  · have hk' : k < A.length := by omega
    obtain ⟨x, hx⟩ : ∃ x, A.getD k [] = x := ⟨_, rfl⟩
    have hdef : (default : List UInt8) = [] := rfl
    have hs := take_succB hk'
    rw [hx] at hs
    have hroom : ∀ p q : Bs, ((((A.take k).filterMap g).map ch3).length + [[S x, S p, S q]].length) * 48 ≤ room := fun p q => by
      have h1 := List.length_filterMap_le g (A.take k)
      rw [List.length_take] at h1
      rw [List.length_map, List.length_singleton]
      unfold room; omega
    have hyy : ∀ p q : Bs, ∀ el ∈ [[S x, S p, S q]], el.length = 3 := by simp
    have hrr : ∀ p q : Bs, refsLL [[S x, S p, S q]] = 0 := by simp [refsLL, refsL, refs_S]
    have hst : (A.take (k + 1)).filterMap g = (A.take k).filterMap g ++ (g x).toList := by
      rw [hs, List.filterMap_append]
      congr 1
    have hgx : g x = if (lookL x (mapL keyP U)).isSome ≠ (lookL x (mapL keyP W)).isSome ∨ (lookL x (mapL keyP U)).getD [] ≠ (lookL x (mapL keyP W)).getD [] then some (x, (lookL x (mapL keyP U)).getD [], (lookL x (mapL keyP W)).getD []) else none := by rw [← hg]; rfl
    obtain ⟨o1, ho1⟩ : ∃ o, lookL x (mapL keyP U) = o := ⟨_, rfl⟩
    obtain ⟨o2, ho2⟩ : ∃ o, lookL x (mapL keyP W) = o := ⟨_, rfl⟩
    rw [ho1, ho2] at hgx
    have hfin : ∀ p q v' H4, o1.getD [] = p → o2.getD [] = q → (o1.isSome ≠ o2.isSome ∨ p ≠ q) → Own N3 H4 v' 3 ty_diff_Change (((A.take k).filterMap g).map ch3 ++ [[S x, S p, S q]]) → Own N3 H4 v' 3 ty_diff_Change (((A.take (k + 1)).filterMap g).map ch3) := fun p q v' H4 e1 e2 hc ho => by
      rw [hst, List.map_append, hgx, e1, e2, if_pos hc]; exact ho
    have hno : (¬ (o1.isSome ≠ o2.isSome ∨ o1.getD [] ≠ o2.getD [])) → Own N3 H' v10 3 ty_diff_Change (((A.take (k + 1)).filterMap g).map ch3) := fun hc => by
      rw [hst, hgx, if_neg hc, show (none : Option Ch).toList = [] from rfl, List.append_nil]; exact h10
    cases o1 with
    | none => cases o2 with
      | none =>
        simp (maxSteps := 2000000) (disch := omega) only [condK_dec, ↓Int.cast_ofNat_Int, ↓R1, R2, C1, P1, N1, O1, V1, V2, V3, reduceCtorEq, Nat.reduceEqDiff, Nat.reduceBEq, Nat.reduceAdd, Nat.reduceSub, Nat.reduceMul, Nat.reduceLeDiff, Nat.reduceLT, Int.reduceEq, Int.reduceAdd, Int.reduceSub, Int.reduceMul, Int.reduceLT, Int.reduceLE, Int.reduceNeg, Int.reduceToNat, wrap_i64, wrap_u64, wrap_u8, wrap_u16, wrap_u32, wrap_i32, base_get0, base_get, base_set0, base_set, base_take, take_self, take_app1, h, hk', h5, h7, h10v, h32, h33, h34, rv.addrM, rv.loadM, hdef, hx, bC', lookup_ent1 m1', lookup_ent2 m1', lookup_ent1 m2', lookup_ent2 m2', ho1, ho2, Option.isSome_none, Option.isSome_some, Option.getD_none, Option.getD_some, bb00, bb01, bb10, bb11]
        exact ⟨hp, hno (by simp)⟩
      | some q =>
        simp (maxSteps := 2000000) (disch := omega) only [condK_dec, ↓Int.cast_ofNat_Int, ↓R1, R2, C1, P1, N1, O1, V1, V2, V3, reduceCtorEq, Nat.reduceEqDiff, Nat.reduceBEq, Nat.reduceAdd, Nat.reduceSub, Nat.reduceMul, Nat.reduceLeDiff, Nat.reduceLT, Int.reduceEq, Int.reduceAdd, Int.reduceSub, Int.reduceMul, Int.reduceLT, Int.reduceLE, Int.reduceNeg, Int.reduceToNat, wrap_i64, wrap_u64, wrap_u8, wrap_u16, wrap_u32, wrap_i32, base_get0, base_get, base_set0, base_set, base_take, take_self, take_app1, h, hk', h5, h7, h10v, h32, h33, h34, rv.addrM, rv.loadM, hdef, hx, bC', lookup_ent1 m1', lookup_ent2 m1', lookup_ent1 m2', lookup_ent2 m2', ho1, ho2, Option.isSome_none, Option.isSome_some, Option.getD_none, Option.getD_some, bb00, bb01, bb10, bb11]
        refine okP_append h10 hp hN3 (by decide) (hyy [] q) (hrr [] q) (hroom _ _) fun v' H4 hown hp1 => ?_
        simp (maxSteps := 2000000) (disch := omega) only [condK_dec, ↓Int.cast_ofNat_Int, ↓R1, R2, C1, P1, N1, O1, V1, V2, V3, reduceCtorEq, Nat.reduceEqDiff, Nat.reduceBEq, Nat.reduceAdd, Nat.reduceSub, Nat.reduceMul, Nat.reduceLeDiff, Nat.reduceLT, Int.reduceEq, Int.reduceAdd, Int.reduceSub, Int.reduceMul, Int.reduceLT, Int.reduceLE, Int.reduceNeg, Int.reduceToNat, wrap_i64, wrap_u64, wrap_u8, wrap_u16, wrap_u32, wrap_i32, base_get0, base_get, base_set0, base_set, base_take, take_self, take_app1, h5, h7, h32, h33, h34]
        exact ⟨hk', hp1, hfin _ _ _ _ rfl rfl (by simp) hown⟩
    | some p => cases o2 with
      | none =>
        simp (maxSteps := 2000000) (disch := omega) only [condK_dec, ↓Int.cast_ofNat_Int, ↓R1, R2, C1, P1, N1, O1, V1, V2, V3, reduceCtorEq, Nat.reduceEqDiff, Nat.reduceBEq, Nat.reduceAdd, Nat.reduceSub, Nat.reduceMul, Nat.reduceLeDiff, Nat.reduceLT, Int.reduceEq, Int.reduceAdd, Int.reduceSub, Int.reduceMul, Int.reduceLT, Int.reduceLE, Int.reduceNeg, Int.reduceToNat, wrap_i64, wrap_u64, wrap_u8, wrap_u16, wrap_u32, wrap_i32, base_get0, base_get, base_set0, base_set, base_take, take_self, take_app1, h, hk', h5, h7, h10v, h32, h33, h34, rv.addrM, rv.loadM, hdef, hx, bC', lookup_ent1 m1', lookup_ent2 m1', lookup_ent1 m2', lookup_ent2 m2', ho1, ho2, Option.isSome_none, Option.isSome_some, Option.getD_none, Option.getD_some, bb00, bb01, bb10, bb11]
        refine okP_append h10 hp hN3 (by decide) (hyy p []) (hrr p []) (hroom _ _) fun v' H4 hown hp1 => ?_
        simp (maxSteps := 2000000) (disch := omega) only [condK_dec, ↓Int.cast_ofNat_Int, ↓R1, R2, C1, P1, N1, O1, V1, V2, V3, reduceCtorEq, Nat.reduceEqDiff, Nat.reduceBEq, Nat.reduceAdd, Nat.reduceSub, Nat.reduceMul, Nat.reduceLeDiff, Nat.reduceLT, Int.reduceEq, Int.reduceAdd, Int.reduceSub, Int.reduceMul, Int.reduceLT, Int.reduceLE, Int.reduceNeg, Int.reduceToNat, wrap_i64, wrap_u64, wrap_u8, wrap_u16, wrap_u32, wrap_i32, base_get0, base_get, base_set0, base_set, base_take, take_self, take_app1, h5, h7, h32, h33, h34]
        exact ⟨hk', hp1, hfin _ _ _ _ rfl rfl (by simp) hown⟩
      | some q =>
        simp (maxSteps := 2000000) (disch := omega) only [condK_dec, ↓Int.cast_ofNat_Int, ↓R1, R2, C1, P1, N1, O1, V1, V2, V3, reduceCtorEq, Nat.reduceEqDiff, Nat.reduceBEq, Nat.reduceAdd, Nat.reduceSub, Nat.reduceMul, Nat.reduceLeDiff, Nat.reduceLT, Int.reduceEq, Int.reduceAdd, Int.reduceSub, Int.reduceMul, Int.reduceLT, Int.reduceLE, Int.reduceNeg, Int.reduceToNat, wrap_i64, wrap_u64, wrap_u8, wrap_u16, wrap_u32, wrap_i32, base_get0, base_get, base_set0, base_set, base_take, take_self, take_app1, h, hk', h5, h7, h10v, h32, h33, h34, rv.addrM, rv.loadM, hdef, hx, bC', lookup_ent1 m1', lookup_ent2 m1', lookup_ent1 m2', lookup_ent2 m2', ho1, ho2, Option.isSome_none, Option.isSome_some, Option.getD_none, Option.getD_some, bb00, bb01, bb10, bb11]
        refine ⟨fun hne => ?_, fun heq => ⟨hp, hno (by simp at heq; simp [heq])⟩⟩
        refine okP_append h10 hp hN3 (by decide) (hyy p q) (hrr p q) (hroom _ _) fun v' H4 hown hp1 => ?_
        simp (maxSteps := 2000000) (disch := omega) only [condK_dec, ↓Int.cast_ofNat_Int, ↓R1, R2, C1, P1, N1, O1, V1, V2, V3, reduceCtorEq, Nat.reduceEqDiff, Nat.reduceBEq, Nat.reduceAdd, Nat.reduceSub, Nat.reduceMul, Nat.reduceLeDiff, Nat.reduceLT, Int.reduceEq, Int.reduceAdd, Int.reduceSub, Int.reduceMul, Int.reduceLT, Int.reduceLE, Int.reduceNeg, Int.reduceToNat, wrap_i64, wrap_u64, wrap_u8, wrap_u16, wrap_u32, wrap_i32, base_get0, base_get, base_set0, base_set, base_take, take_self, take_app1, h5, h7, h32, h33, h34]
        exact ⟨hk', hp1, hfin _ _ _ _ rfl rfl (.inr hne) hown⟩
  · have hkl : k = A.length := by omega
    subst hkl
    rw [List.take_length] at h10
    have hNN : N ≤ N3 := by have := hp3.length_le; omega
    rw [h10v, (own_mono h10 hNN).finish1 (by rw [ch_refs]; omega)]
    exact ⟨_, ret_eq rfl (take_pre hN (hp3.trans hp)), h10.frz_rv, own_frz h10⟩
end Go.Proofs.YthbgjjdbcalhcaaGreatDoor

/- Whether changes are the same; whether they are apart. -/
namespace Go.Proofs.YthbgjjdbcalhcaaGreatDoor
open Go Go.Den
open Go.Proofs.DfDev
set_option maxRecDepth 10000
set_option maxHeartbeats 1000000

theorem ch3_len (c : Ch) : (ch3 c).length = 3 := rfl
theorem part3 (c : Ch) : Den.part true 3 (ch3 c) 0 = some (.agg (ch3 c)) := rfl
theorem part0 (c : Ch) : Den.part false 1 (ch3 c) 0 = some (S c.1) := rfl
theorem part1 (c : Ch) : Den.part false 1 (ch3 c) 1 = some (S c.2.1) := rfl
theorem part2 (c : Ch) : Den.part false 1 (ch3 c) 2 = some (S c.2.2) := rfl

theorem take_succC {l : List Ch} {k : Nat} (h : k < l.length) : l.take (k + 1) = l.take k ++ [l.getD k default] := by
  rw [List.take_succ_eq_append_getElem h, List.getD_eq_getElem?_getD, List.getElem?_eq_getElem h]; rfl

theorem eq3 (a b c a' b' c' : Bs) : eqA (.agg [.str, .str, .str]) (.agg [S a, S b, S c]) (.agg [S a', S b', S c']) = some (decide (a = a' ∧ b = b' ∧ c = c')) := by
  have h : eqA (.agg [.str, .str, .str]) (.agg [S a, S b, S c]) (.agg [S a', S b', S c']) = eqAL [.str, .str, .str] [S a, S b, S c] [S a', S b', S c'] := rfl
  rw [h, eqAL_str, eqAL_str, eqAL_str, eqAL_nil]
  by_cases h1 : a = a' <;> by_cases h2 : b = b' <;> by_cases h3 : c = c' <;> simp [h1, h2, h3]

theorem same_D (L : List Ch) (hL : L.length ≤ 100000) (a b : AV) (ha : Rv a 3 (L.map ch3)) (hb : Rv b 3 (L.map ch3)) (H : List AObj) (lo : Option Nat) : D X (.fn (.func fn_law31_same) [] []) [a, b] ⟨H, lo⟩ = some (.ret (.bool true) ⟨H, lo⟩) := by
  refine D_fn pf_law31_same rfl rfl rfl fun N hN => ?_
  simp (maxSteps := 2000000) (disch := omega) only [condK_dec, F1, ↓Int.cast_ofNat_Int, ↓R1, R2, C1, P1, N1, O1, V1, V2, V3, reduceCtorEq, Nat.reduceEqDiff, Nat.reduceBEq, Nat.reduceAdd, Nat.reduceSub, Nat.reduceMul, Nat.reduceLeDiff, Nat.reduceLT, Int.reduceEq, Int.reduceAdd, Int.reduceSub, Int.reduceMul, Int.reduceLT, Int.reduceLE, Int.reduceNeg, Int.reduceToNat, wrap_i64, wrap_u64, wrap_u8, wrap_u16, wrap_u32, wrap_i32, base_get0, base_get, base_set0, base_set, base_take, take_self, take_app1, pf_law31_same, ha.lenM, hb.lenM, hN]
  refine wp_loopN L.length (fun k e H' => H' = H ∧ e 0 = a ∧ e 1 = b ∧ e 5 = .int .i64 k) 0 (by omega) ?_ ?_
  · simp (maxSteps := 2000000) (disch := omega) only [F1, ↓Int.cast_ofNat_Int, ↓R1, R2, C1, P1, N1, O1, V1, V2, V3, reduceCtorEq, Nat.reduceEqDiff, Nat.reduceBEq, Nat.reduceAdd, Nat.reduceSub, Nat.reduceMul, Nat.reduceLeDiff, Nat.reduceLT, Int.reduceEq, Int.reduceAdd, Int.reduceSub, Int.reduceMul, Int.reduceLT, Int.reduceLE, Int.reduceNeg, Int.reduceToNat, wrap_i64, wrap_u64, wrap_u8, wrap_u16, wrap_u32, wrap_i32, base_get0, base_get, base_set0, base_set, base_take, take_self, take_app1]
  rintro k hk e H' ⟨rfl, h0, h1, h5⟩ n hn
  simp (maxSteps := 2000000) (disch := omega) only [condK_dec, F1, ↓Int.cast_ofNat_Int, ↓R1, R2, C1, P1, N1, O1, V1, V2, V3, reduceCtorEq, Nat.reduceEqDiff, Nat.reduceBEq, Nat.reduceAdd, Nat.reduceSub, Nat.reduceMul, Nat.reduceLeDiff, Nat.reduceLT, Int.reduceEq, Int.reduceAdd, Int.reduceSub, Int.reduceMul, Int.reduceLT, Int.reduceLE, Int.reduceNeg, Int.reduceToNat, wrap_i64, wrap_u64, wrap_u8, wrap_u16, wrap_u32, wrap_i32, base_get0, base_get, base_set0, base_set, base_take, take_self, take_app1, l1_law31_same, h0, h1, h5, ha.lenM]
  refine ⟨fun h => ?_, fun h => ?_⟩
  · have hk' : k < L.length := by omega
    obtain ⟨c, hc⟩ : ∃ c, L.getD k default = c := ⟨_, rfl⟩
    simp (maxSteps := 2000000) (disch := omega) only [condK_dec, F1, ↓Int.cast_ofNat_Int, ↓R1, R2, C1, P1, N1, O1, V1, V2, V3, reduceCtorEq, Nat.reduceEqDiff, Nat.reduceBEq, Nat.reduceAdd, Nat.reduceSub, Nat.reduceMul, Nat.reduceLeDiff, Nat.reduceLT, Int.reduceEq, Int.reduceAdd, Int.reduceSub, Int.reduceMul, Int.reduceLT, Int.reduceLE, Int.reduceNeg, Int.reduceToNat, wrap_i64, wrap_u64, wrap_u8, wrap_u16, wrap_u32, wrap_i32, base_get0, base_get, base_set0, base_set, base_take, take_self, take_app1, h, hk', h0, h1, h5, ha.addrM, ha.loadM, ha.fpLM, ha.faddrM, hb.addrM, hb.loadM, hb.fpLM, hb.faddrM, hc, ch3, eq3, and_self, decide_true, Bool.not_true]
    trace_state
  · trivial

theorem refApart_D (L M : List Ch) (hL : L.length ≤ 100000) (hM : M.length ≤ 100000) (a b : AV) (ha : Rv a 3 (L.map ch3)) (hb : Rv b 3 (M.map ch3)) (H : List AObj) (lo : Option Nat) : D X (.fn (.func fn_ref31_Apart) [] []) [a, b] ⟨H, lo⟩ = some (.ret (.bool (apartL L M)) ⟨H, lo⟩) := by
  refine D_fn pf_ref31_Apart rfl rfl rfl fun N hN => ?_
  simp (maxSteps := 2000000) (disch := omega) only [condK_dec, F1, ↓Int.cast_ofNat_Int, ↓R1, R2, C1, P1, N1, O1, V1, V2, V3, reduceCtorEq, Nat.reduceEqDiff, Nat.reduceBEq, Nat.reduceAdd, Nat.reduceSub, Nat.reduceMul, Nat.reduceLeDiff, Nat.reduceLT, Int.reduceEq, Int.reduceAdd, Int.reduceSub, Int.reduceMul, Int.reduceLT, Int.reduceLE, Int.reduceNeg, Int.reduceToNat, wrap_i64, wrap_u64, wrap_u8, wrap_u16, wrap_u32, wrap_i32, base_get0, base_get, base_set0, base_set, base_take, take_self, take_app1, pf_ref31_Apart, ha.lenM, hb.lenM, hN]
  refine wp_loopN L.length (fun k e H' => H' = H ∧ e 0 = a ∧ e 1 = b ∧ e 5 = .int .i64 k ∧ ∀ c ∈ L.take k, ∀ d ∈ M, c.1 ≠ d.1) 0 (by omega) ?_ ?_
  · simp (maxSteps := 2000000) (disch := omega) only [F1, ↓Int.cast_ofNat_Int, ↓R1, R2, C1, P1, N1, O1, V1, V2, V3, reduceCtorEq, Nat.reduceEqDiff, Nat.reduceBEq, Nat.reduceAdd, Nat.reduceSub, Nat.reduceMul, Nat.reduceLeDiff, Nat.reduceLT, Int.reduceEq, Int.reduceAdd, Int.reduceSub, Int.reduceMul, Int.reduceLT, Int.reduceLE, Int.reduceNeg, Int.reduceToNat, wrap_i64, wrap_u64, wrap_u8, wrap_u16, wrap_u32, wrap_i32, base_get0, base_get, base_set0, base_set, base_take, take_self, take_app1]
    simp
  rintro k hk e H' ⟨rfl, h0, h1, h5, hall⟩ n hn
  simp (maxSteps := 2000000) (disch := omega) only [condK_dec, F1, ↓Int.cast_ofNat_Int, ↓R1, R2, C1, P1, N1, O1, V1, V2, V3, reduceCtorEq, Nat.reduceEqDiff, Nat.reduceBEq, Nat.reduceAdd, Nat.reduceSub, Nat.reduceMul, Nat.reduceLeDiff, Nat.reduceLT, Int.reduceEq, Int.reduceAdd, Int.reduceSub, Int.reduceMul, Int.reduceLT, Int.reduceLE, Int.reduceNeg, Int.reduceToNat, wrap_i64, wrap_u64, wrap_u8, wrap_u16, wrap_u32, wrap_i32, base_get0, base_get, base_set0, base_set, base_take, take_self, take_app1, l1_ref31_Apart, h0, h1, h5, ha.lenM]
  refine ⟨fun h => ?_, fun h => ?_⟩
  · have hk' : k < L.length := by omega
    obtain ⟨c, hc⟩ : ∃ c, L.getD k default = c := ⟨_, rfl⟩
    have hs := take_succC hk'
    rw [hc] at hs
    have hcm : c ∈ L := by rw [← hc, List.getD_eq_getElem?_getD, List.getElem?_eq_getElem hk']; exact List.getElem_mem hk'
    simp (maxSteps := 2000000) (disch := omega) only [condK_dec, F1, ↓Int.cast_ofNat_Int, ↓R1, R2, C1, P1, N1, O1, V1, V2, V3, reduceCtorEq, Nat.reduceEqDiff, Nat.reduceBEq, Nat.reduceAdd, Nat.reduceSub, Nat.reduceMul, Nat.reduceLeDiff, Nat.reduceLT, Int.reduceEq, Int.reduceAdd, Int.reduceSub, Int.reduceMul, Int.reduceLT, Int.reduceLE, Int.reduceNeg, Int.reduceToNat, wrap_i64, wrap_u64, wrap_u8, wrap_u16, wrap_u32, wrap_i32, base_get0, base_get, base_set0, base_set, base_take, take_self, take_app1, h]
    refine wp_loopN M.length (fun j e H'' => H'' = H' ∧ e 0 = a ∧ e 1 = b ∧ e 5 = .int .i64 k ∧ e 6 = .int .i64 j ∧ ∀ d ∈ M.take j, c.1 ≠ d.1) 0 (by omega) ?_ ?_
    · simp (maxSteps := 2000000) (disch := omega) only [F1, ↓Int.cast_ofNat_Int, ↓R1, R2, C1, P1, N1, O1, V1, V2, V3, reduceCtorEq, Nat.reduceEqDiff, Nat.reduceBEq, Nat.reduceAdd, Nat.reduceSub, Nat.reduceMul, Nat.reduceLeDiff, Nat.reduceLT, Int.reduceEq, Int.reduceAdd, Int.reduceSub, Int.reduceMul, Int.reduceLT, Int.reduceLE, Int.reduceNeg, Int.reduceToNat, wrap_i64, wrap_u64, wrap_u8, wrap_u16, wrap_u32, wrap_i32, base_get0, base_get, base_set0, base_set, base_take, take_self, take_app1, h0, h1, h5]
      simp
    rintro j hj e H'' ⟨rfl, h0, h1, h5, h6, hin⟩ n hn
    simp (maxSteps := 2000000) (disch := omega) only [condK_dec, F1, ↓Int.cast_ofNat_Int, ↓R1, R2, C1, P1, N1, O1, V1, V2, V3, reduceCtorEq, Nat.reduceEqDiff, Nat.reduceBEq, Nat.reduceAdd, Nat.reduceSub, Nat.reduceMul, Nat.reduceLeDiff, Nat.reduceLT, Int.reduceEq, Int.reduceAdd, Int.reduceSub, Int.reduceMul, Int.reduceLT, Int.reduceLE, Int.reduceNeg, Int.reduceToNat, wrap_i64, wrap_u64, wrap_u8, wrap_u16, wrap_u32, wrap_i32, base_get0, base_get, base_set0, base_set, base_take, take_self, take_app1, l2_ref31_Apart, h0, h1, h5, h6, hb.lenM]
    refine ⟨fun hj2 => ?_, fun hj2 => ?_⟩
    · have hj' : j < M.length := by omega
      obtain ⟨d, hd⟩ : ∃ d, M.getD j default = d := ⟨_, rfl⟩
      have hs2 := take_succC hj'
      rw [hd] at hs2
      have hdm : d ∈ M := by rw [← hd, List.getD_eq_getElem?_getD, List.getElem?_eq_getElem hj']; exact List.getElem_mem hj'
      simp (maxSteps := 2000000) (disch := omega) only [condK_dec, F1, ↓Int.cast_ofNat_Int, ↓R1, R2, C1, P1, N1, O1, V1, V2, V3, reduceCtorEq, Nat.reduceEqDiff, Nat.reduceBEq, Nat.reduceAdd, Nat.reduceSub, Nat.reduceMul, Nat.reduceLeDiff, Nat.reduceLT, Int.reduceEq, Int.reduceAdd, Int.reduceSub, Int.reduceMul, Int.reduceLT, Int.reduceLE, Int.reduceNeg, Int.reduceToNat, wrap_i64, wrap_u64, wrap_u8, wrap_u16, wrap_u32, wrap_i32, base_get0, base_get, base_set0, base_set, base_take, take_self, take_app1, hj2, hj', h, hk', h0, h1, h5, h6, ha.addrM, ha.loadM, ha.fpLM, ha.faddrM, hb.addrM, hb.loadM, hb.fpLM, hb.faddrM, hc, hd, ch3]
      refine ⟨fun he => ret_eq (congrArg AV.bool ?_) rfl, fun hne => ?_⟩
      · have : (M.any fun d => L.any fun c => decide (c.1 = d.1)) = true := by
          rw [List.any_eq_true]; refine ⟨d, hdm, ?_⟩
          rw [List.any_eq_true]; exact ⟨c, hcm, by simp [he]⟩
        unfold apartL; rw [this]; rfl
      · intro q hq
        rw [hs2, List.mem_append] at hq
        rcases hq with hq | hq
        · exact hin q hq
        · rw [List.mem_singleton] at hq; rw [hq]; exact hne
    · have hjm : j = M.length := by omega
      subst hjm
      rw [List.take_length] at hin
      refine ⟨hk', fun q hq => ?_⟩
      rw [hs, List.mem_append] at hq
      rcases hq with hq | hq
      · exact hall q hq
      · rw [List.mem_singleton] at hq; rw [hq]; exact hin
  · have hkl : k = L.length := by omega
    subst hkl
    rw [List.take_length] at hall
    refine ret_eq (congrArg AV.bool ?_) rfl
    have : (M.any fun d => L.any fun c => decide (c.1 = d.1)) = false := by
      rw [List.any_eq_false]; intro d hd
      rw [Bool.not_eq_true, List.any_eq_false]; intro c hc
      simpa using hall c hc d hd
    unfold apartL; rw [this]; rfl

theorem inB_D (C M : Nat) (ks : List Bs) (c : Ch) (H : List AObj) (lo : Option Nat) (hC : H[C]? = some (.box [.mp M] none)) (hM : H[M]? = some (.map (ks.map entB))) : D X (.fn (.func fn_diff_Apart_1) [] [.ptr C 0]) [.agg [S c.1, S c.2.1, S c.2.2]] ⟨H, lo⟩ = some (.ret (.bool (decide (c.1 ∈ ks))) ⟨H, lo⟩) := by
  refine D_clo pf_diff_Apart_1 rfl rfl rfl fun N hN => ?_
  have lC := (List.getElem?_eq_some_iff.1 hC).1
  have lM := (List.getElem?_eq_some_iff.1 hM).1
  have hC' : ∀ o, (H ++ [o])[C]? = some (.box [.mp M] none) := fun o => by rw [List.getElem?_append_left lC]; exact hC
  have hM' : ∀ o, (H ++ [o])[M]? = some (.map (ks.map entB)) := fun o => by rw [List.getElem?_append_left lM]; exact hM
  simp (maxSteps := 2000000) (disch := omega) only [F1, ↓Int.cast_ofNat_Int, ↓R1, R2, C1, P1, N1, O1, V1, V2, V3, reduceCtorEq, Nat.reduceEqDiff, Nat.reduceBEq, Nat.reduceAdd, Nat.reduceSub, Nat.reduceMul, Nat.reduceLeDiff, Nat.reduceLT, Int.reduceEq, Int.reduceAdd, Int.reduceSub, Int.reduceMul, Int.reduceLT, Int.reduceLE, Int.reduceNeg, Int.reduceToNat, wrap_i64, wrap_u64, wrap_u8, wrap_u16, wrap_u32, wrap_i32, base_get0, base_get, base_set0, base_set, base_take, take_self, take_app1, pf_diff_Apart_1, hC', lookup_entB (hM' _), hN]

theorem someC_D (C M : Nat) (ks : List Bs) (L : List Ch) (hL : L.length ≤ 100000) (v : AV) (hv : Rv v 3 (L.map ch3)) (H : List AObj) (lo : Option Nat) (hC : H[C]? = some (.box [.mp M] none)) (hM : H[M]? = some (.map (ks.map entB))) : ∃ r, D X (.fn (.func fn_diff_some_diff_Change) [] []) [v, .fn (.func fn_diff_Apart_1) [] [.ptr C 0]] ⟨H, lo⟩ = some (.ret r ⟨H, lo⟩) ∧ Rv r 3 ((L.filter fun c => decide (c.1 ∈ ks)).map ch3) := by
  suffices h : ∃ cr, D X (.fn (.func fn_diff_some_diff_Change) [] []) [v, .fn (.func fn_diff_Apart_1) [] [.ptr C 0]] ⟨H, lo⟩ = some cr ∧ (fun cr => ∃ r, cr = CRes.ret r ⟨H, lo⟩ ∧ Rv r 3 ((L.filter fun c => decide (c.1 ∈ ks)).map ch3)) cr by
    obtain ⟨cr, h1, r, rfl, h2⟩ := h
    exact ⟨r, h1, h2⟩
  refine D_fn_ex pf_diff_some_diff_Change rfl rfl rfl fun N hN => ?_
  simp (maxSteps := 2000000) (disch := omega) only [F1, ↓Int.cast_ofNat_Int, ↓R1, R2, C1, P1, N1, O1, V1, V2, V3, reduceCtorEq, Nat.reduceEqDiff, Nat.reduceBEq, Nat.reduceAdd, Nat.reduceSub, Nat.reduceMul, Nat.reduceLeDiff, Nat.reduceLT, Int.reduceEq, Int.reduceAdd, Int.reduceSub, Int.reduceMul, Int.reduceLT, Int.reduceLE, Int.reduceNeg, Int.reduceToNat, wrap_i64, wrap_u64, wrap_u8, wrap_u16, wrap_u32, wrap_i32, base_get0, base_get, base_set0, base_set, base_take, take_self, take_app1, pf_diff_some_diff_Change, hv.lenM, hN]
  refine wp_loopN L.length (fun k e H' => H <+: H' ∧ e 1 = .fn (.func fn_diff_Apart_1) [] [.ptr C 0] ∧ e 8 = v ∧ e 9 = .int .i64 L.length ∧ e 10 = .int .i64 k ∧ Own N H' (e 5) 3 ty_diff_Change (((L.take k).filter fun c => decide (c.1 ∈ ks)).map ch3)) 0 (by omega) ?_ ?_
  · simp (maxSteps := 2000000) (disch := omega) only [F1, ↓Int.cast_ofNat_Int, ↓R1, R2, C1, P1, N1, O1, V1, V2, V3, reduceCtorEq, Nat.reduceEqDiff, Nat.reduceBEq, Nat.reduceAdd, Nat.reduceSub, Nat.reduceMul, Nat.reduceLeDiff, Nat.reduceLT, Int.reduceEq, Int.reduceAdd, Int.reduceSub, Int.reduceMul, Int.reduceLT, Int.reduceLE, Int.reduceNeg, Int.reduceToNat, wrap_i64, wrap_u64, wrap_u8, wrap_u16, wrap_u32, wrap_i32, base_get0, base_get, base_set0, base_set, base_take, take_self, take_app1]
    exact ⟨List.prefix_rfl, Own.nils⟩
  rintro k hk e H' ⟨hp, h1, h8, h9, h10, h5⟩ n hn
  obtain ⟨v5, h5v⟩ : ∃ v5, e 5 = v5 := ⟨_, rfl⟩
  rw [h5v] at h5
  simp (maxSteps := 2000000) (disch := omega) only [condK_dec, ↓Int.cast_ofNat_Int, ↓R1, R2, C1, P1, N1, O1, V1, V2, V3, reduceCtorEq, Nat.reduceEqDiff, Nat.reduceBEq, Nat.reduceAdd, Nat.reduceSub, Nat.reduceMul, Nat.reduceLeDiff, Nat.reduceLT, Int.reduceEq, Int.reduceAdd, Int.reduceSub, Int.reduceMul, Int.reduceLT, Int.reduceLE, Int.reduceNeg, Int.reduceToNat, wrap_i64, wrap_u64, wrap_u8, wrap_u16, wrap_u32, wrap_i32, base_get0, base_get, base_set0, base_set, base_take, take_self, take_app1, l1_diff_some_diff_Change, h8, h9, h10]
  refine ⟨fun h => ?_, fun h => ?_⟩
  · have hk' : k < L.length := by omega
    obtain ⟨c, hc⟩ : ∃ c, L.getD k default = c := ⟨_, rfl⟩
    have hs := take_succC hk'
    rw [hc] at hs
    have hyy : ∀ el ∈ [[S c.1, S c.2.1, S c.2.2]], el.length = 3 := by simp
    have hrr : refsLL [[S c.1, S c.2.1, S c.2.2]] = 0 := by simp [refsLL, refsL, refs_S]
    have hroom : ((((L.take k).filter fun c => decide (c.1 ∈ ks)).map ch3).length + [[S c.1, S c.2.1, S c.2.2]].length) * 48 ≤ room := by
      have h1 := List.length_filter_le (fun c : Ch => decide (c.1 ∈ ks)) (L.take k)
      rw [List.length_take] at h1
      rw [List.length_map, List.length_singleton]
      unfold room; omega
    have pp : ∀ o, H <+: H' ++ [o] := fun o => hp.trans (List.prefix_append _ _)
    have hid := fun o => inB_D C M ks c (H' ++ [o]) none (pre_get (pp o) hC) (pre_get (pp o) hM)
    by_cases ho : c.1 ∈ ks
    · simp only [ho, decide_true] at hid
      simp (maxSteps := 2000000) (disch := omega) only [condK_dec, ↓Int.cast_ofNat_Int, ↓R1, R2, C1, P1, N1, O1, V1, V2, V3, reduceCtorEq, Nat.reduceEqDiff, Nat.reduceBEq, Nat.reduceAdd, Nat.reduceSub, Nat.reduceMul, Nat.reduceLeDiff, Nat.reduceLT, Int.reduceEq, Int.reduceAdd, Int.reduceSub, Int.reduceMul, Int.reduceLT, Int.reduceLE, Int.reduceNeg, Int.reduceToNat, wrap_i64, wrap_u64, wrap_u8, wrap_u16, wrap_u32, wrap_i32, base_get0, base_get, base_set0, base_set, base_take, take_self, take_app1, h, hk', h1, h8, h9, h10, h5v, hv.addrM, hv.loadM, hv.fpLM, hc, ch3, hid, hn]
      refine okP_append (h5.ext) (pp _) hN (by decide) hyy hrr hroom fun v' H4 hown hp1 => ?_
      simp (maxSteps := 2000000) (disch := omega) only [condK_dec, ↓Int.cast_ofNat_Int, ↓R1, R2, C1, P1, N1, O1, V1, V2, V3, reduceCtorEq, Nat.reduceEqDiff, Nat.reduceBEq, Nat.reduceAdd, Nat.reduceSub, Nat.reduceMul, Nat.reduceLeDiff, Nat.reduceLT, Int.reduceEq, Int.reduceAdd, Int.reduceSub, Int.reduceMul, Int.reduceLT, Int.reduceLE, Int.reduceNeg, Int.reduceToNat, wrap_i64, wrap_u64, wrap_u8, wrap_u16, wrap_u32, wrap_i32, base_get0, base_get, base_set0, base_set, base_take, take_self, take_app1, h1, h8, h9, h10]
      refine ⟨hk', hp1, ?_⟩
      rw [hs, List.filter_append, show [c].filter (fun c => decide (c.1 ∈ ks)) = [c] by rw [List.filter_cons, decide_eq_true ho]; rfl]
      simpa [ch3] using hown
    · simp only [ho, decide_false] at hid
      simp (maxSteps := 2000000) (disch := omega) only [condK_dec, ↓Int.cast_ofNat_Int, ↓R1, R2, C1, P1, N1, O1, V1, V2, V3, reduceCtorEq, Nat.reduceEqDiff, Nat.reduceBEq, Nat.reduceAdd, Nat.reduceSub, Nat.reduceMul, Nat.reduceLeDiff, Nat.reduceLT, Int.reduceEq, Int.reduceAdd, Int.reduceSub, Int.reduceMul, Int.reduceLT, Int.reduceLE, Int.reduceNeg, Int.reduceToNat, wrap_i64, wrap_u64, wrap_u8, wrap_u16, wrap_u32, wrap_i32, base_get0, base_get, base_set0, base_set, base_take, take_self, take_app1, h, hk', h1, h8, h9, h10, h5v, hv.addrM, hv.loadM, hv.fpLM, hc, ch3, hid, hn]
      refine ⟨pp _, ?_⟩
      rw [hs, List.filter_append, show [c].filter (fun c => decide (c.1 ∈ ks)) = [] by rw [List.filter_cons, decide_eq_false ho]; rfl, List.append_nil]
      exact h5.ext
  · have hkl : k = L.length := by omega
    subst hkl
    rw [List.take_length] at h5
    rw [h5v, h5.finish1 (by rw [ch_refs]; omega)]
    exact ⟨_, ret_eq rfl (take_pre hN hp), h5.frz_rv⟩

theorem dd_take {L : List Ch} {k : Nat} {c : Ch} (h : L.take (k + 1) = L.take k ++ [c]) : dd ((L.take (k + 1)).map fun c => c.1) = ddK (dd ((L.take k).map fun c => c.1)) c.1 := by
  rw [h, List.map_append, ← dd_snoc]; rfl

theorem Apart_D (L M : List Ch) (hL : L.length ≤ 100000) (hM : M.length ≤ 100000) (a b : AV) (ha : Rv a 3 (L.map ch3)) (hb : Rv b 3 (M.map ch3)) (H : List AObj) (lo : Option Nat) : D X (.fn (.func fn_diff_Apart) [] []) [a, b] ⟨H, lo⟩ = some (.ret (.bool (apartL L M)) ⟨H, lo⟩) := by
  refine D_fn pf_diff_Apart rfl rfl rfl fun N hN => ?_
  have hNN : N ≤ N + 1 := by omega
  simp (maxSteps := 2000000) (disch := omega) only [F1, ↓Int.cast_ofNat_Int, ↓R1, R2, C1, P1, N1, O1, V1, V2, V3, reduceCtorEq, Nat.reduceEqDiff, Nat.reduceBEq, Nat.reduceAdd, Nat.reduceSub, Nat.reduceMul, Nat.reduceLeDiff, Nat.reduceLT, Int.reduceEq, Int.reduceAdd, Int.reduceSub, Int.reduceMul, Int.reduceLT, Int.reduceLE, Int.reduceNeg, Int.reduceToNat, wrap_i64, wrap_u64, wrap_u8, wrap_u16, wrap_u32, wrap_i32, base_get0, base_get, base_set0, base_set, base_take, take_self, take_app1, pf_diff_Apart, ha.lenM, hb.lenM, hN, if_pos hNN]
  refine wp_loopN L.length (fun k e H' => H <+: H' ∧ e 1 = b ∧ e 5 = .ptr (N + 1) 0 ∧ e 9 = a ∧ e 10 = .int .i64 L.length ∧ e 11 = .int .i64 k ∧ H'[N + 1]? = some (.box [.mp N] none) ∧ H'[N]? = some (.map ((dd ((L.take k).map fun c => c.1)).map entB))) 0 (by omega) ?_ ?_
  · simp (maxSteps := 2000000) (disch := omega) only [F1, ↓Int.cast_ofNat_Int, ↓R1, R2, C1, P1, N1, O1, V1, V2, V3, reduceCtorEq, Nat.reduceEqDiff, Nat.reduceBEq, Nat.reduceAdd, Nat.reduceSub, Nat.reduceMul, Nat.reduceLeDiff, Nat.reduceLT, Int.reduceEq, Int.reduceAdd, Int.reduceSub, Int.reduceMul, Int.reduceLT, Int.reduceLE, Int.reduceNeg, Int.reduceToNat, wrap_i64, wrap_u64, wrap_u8, wrap_u16, wrap_u32, wrap_i32, base_get0, base_get, base_set0, base_set, base_take, take_self, take_app1]
    exact ⟨List.prefix_append _ _, rfl⟩
  rintro k hk e H' ⟨hp, h1, h5, h9, h10, h11, hC, hM'⟩ n hn
  simp (maxSteps := 2000000) (disch := omega) only [condK_dec, ↓Int.cast_ofNat_Int, ↓R1, R2, C1, P1, N1, O1, V1, V2, V3, reduceCtorEq, Nat.reduceEqDiff, Nat.reduceBEq, Nat.reduceAdd, Nat.reduceSub, Nat.reduceMul, Nat.reduceLeDiff, Nat.reduceLT, Int.reduceEq, Int.reduceAdd, Int.reduceSub, Int.reduceMul, Int.reduceLT, Int.reduceLE, Int.reduceNeg, Int.reduceToNat, wrap_i64, wrap_u64, wrap_u8, wrap_u16, wrap_u32, wrap_i32, base_get0, base_get, base_set0, base_set, base_take, take_self, take_app1, l1_diff_Apart, h9, h10, h11]
  refine ⟨fun h => ?_, fun h => ?_⟩
  · have hk' : k < L.length := by omega
    obtain ⟨c, hc⟩ : ∃ c, L.getD k default = c := ⟨_, rfl⟩
    have hs := take_succC hk'
    rw [hc] at hs
    have hC2 : ∀ o, (H' ++ [o])[N + 1]? = some (.box [.mp N] none) := fun o => by rw [List.getElem?_append_left (List.getElem?_eq_some_iff.1 hC).1]; exact hC
    have hM2 : ∀ o, (H' ++ [o])[N]? = some (.map ((dd ((L.take k).map fun c => c.1)).map entB)) := fun o => by rw [List.getElem?_append_left (List.getElem?_eq_some_iff.1 hM').1]; exact hM'
    simp (maxSteps := 2000000) (disch := omega) only [condK_dec, ↓Int.cast_ofNat_Int, ↓R1, R2, C1, P1, N1, O1, V1, V2, V3, reduceCtorEq, Nat.reduceEqDiff, Nat.reduceBEq, Nat.reduceAdd, Nat.reduceSub, Nat.reduceMul, Nat.reduceLeDiff, Nat.reduceLT, Int.reduceEq, Int.reduceAdd, Int.reduceSub, Int.reduceMul, Int.reduceLT, Int.reduceLE, Int.reduceNeg, Int.reduceToNat, wrap_i64, wrap_u64, wrap_u8, wrap_u16, wrap_u32, wrap_i32, base_get0, base_get, base_set0, base_set, base_take, take_self, take_app1, h, hk', h1, h5, h9, h10, h11, ha.addrM, ha.loadM, ha.fpLM, hc, ch3, hn, hC2, mput_entB (hM2 _)]
    refine ⟨prefix_set (hp.trans (List.prefix_append _ _)) (by omega), ?_, ?_⟩
    · rw [List.getElem?_set_ne (by omega)]; exact hC2 _
    · rw [List.getElem?_set_self (by rw [List.length_append]; have := hp.length_le; have := (List.getElem?_eq_some_iff.1 hM').1; omega), dd_take hs]
  · have hkl : k = L.length := by omega
    subst hkl
    rw [List.take_length] at hM'
    obtain ⟨r, er, hr⟩ := someC_D (N + 1) N _ M hM b hb H' none hC hM'
    simp (maxSteps := 2000000) (disch := omega) only [F1, ↓Int.cast_ofNat_Int, ↓R1, R2, C1, P1, N1, O1, V1, V2, V3, reduceCtorEq, Nat.reduceEqDiff, Nat.reduceBEq, Nat.reduceAdd, Nat.reduceSub, Nat.reduceMul, Nat.reduceLeDiff, Nat.reduceLT, Int.reduceEq, Int.reduceAdd, Int.reduceSub, Int.reduceMul, Int.reduceLT, Int.reduceLE, Int.reduceNeg, Int.reduceToNat, wrap_i64, wrap_u64, wrap_u8, wrap_u16, wrap_u32, wrap_i32, base_get0, base_get, base_set0, base_set, base_take, take_self, take_app1, h1, h5, er, hr.lenM]
    refine ret_eq (congrArg AV.bool ?_) (take_pre hN hp)
    unfold apartL
    cases hx : M.any fun d => L.any fun c => decide (c.1 = d.1) with
    | true =>
      rw [List.any_eq_true] at hx
      obtain ⟨d, hd, hx⟩ := hx
      rw [List.any_eq_true] at hx
      obtain ⟨c, hc, hx⟩ := hx
      have hm : d ∈ M.filter fun c => decide (c.1 ∈ dd (L.map fun c => c.1)) := by
        rw [List.mem_filter, decide_eq_true_eq, mem_dd, List.mem_map]
        exact ⟨hd, c, hc, by simpa using hx⟩
      have := List.length_pos_of_mem hm
      rw [Bool.not_true, decide_eq_false_iff_not]; omega
    | false =>
      rw [List.any_eq_false] at hx
      have hm : (M.filter fun c => decide (c.1 ∈ dd (L.map fun c => c.1))) = [] := by
        rw [List.filter_eq_nil_iff]
        intro d hd he
        rw [decide_eq_true_eq, mem_dd, List.mem_map] at he
        obtain ⟨c, hc, he⟩ := he
        exact hx d hd (by rw [List.any_eq_true]; exact ⟨c, hc, by simpa using he⟩)
      rw [hm]; rfl
end Go.Proofs.YthbgjjdbcalhcaaGreatDoor

/- The laws. -/
namespace Go.Proofs.YthbgjjdbcalhcaaGreatDoor
open Go Go.Den
open Go.Proofs.DfDev
set_option maxRecDepth 10000
set_option maxHeartbeats 1000000

/-- The changes from a text to another one. -/
def dif (a b : List UInt8) : List Ch := diffP keyP (neL (linesR a)) (neL (linesR b))
theorem dif_len (a b : List UInt8) (ha : a.length ≤ 2000) (hb : b.length ≤ 2000) : (dif a b).length ≤ 100000 := by
  unfold dif
  rw [diffP_dd]
  have h1 := List.length_filterMap_le (chg (lastL keyP (neL (linesR a))) (lastL keyP (neL (linesR b)))) (dd ((neL (linesR a) ++ neL (linesR b)).map keyP))
  have h2 := nd_le (dd_nodup ((neL (linesR a) ++ neL (linesR b)).map keyP)) fun x hx => (mem_dd _ _).1 hx
  rw [List.length_map, List.length_append] at h2
  have lu := Nat.le_trans (neL_len (linesR a)) (linesR_len a)
  have lw := Nat.le_trans (neL_len (linesR b)) (linesR_len b)
  omega

theorem dif_U (a b : List UInt8) (ha : a.length ≤ 2000) (hb : b.length ≤ 2000) (H : List AObj) (lo : Option Nat) : ∃ r, D XU (.fn (.func fn_diff_Diff) [] []) [S a, S b] ⟨H, lo⟩ = some (.ret r ⟨H, lo⟩) ∧ Rv r 3 ((dif a b).map ch3) := by
  obtain ⟨r, h1, h2, _⟩ := Diff_D a b ha hb H lo
  exact ⟨r, D_ext extU _ _ _ _ h1, h2⟩
theorem dif_X (a b : List UInt8) (ha : a.length ≤ 2000) (hb : b.length ≤ 2000) (hne : (dif a b).map ch3 ≠ []) (σ : AS) : D X (.fn (.func fn_diff_Diff) [] []) [S a, S b] σ = some (.ret (.sl ((dif a b).map ch3) false) σ) := by
  obtain ⟨r, h1, h2, h3⟩ := Diff_D a b ha hb σ.heap σ.lo
  obtain rfl := h3 hne
  exact h1
theorem ref_U (a b : List UInt8) (ha : a.length ≤ 2000) (hb : b.length ≤ 2000) (H : List AObj) (lo : Option Nat) : ∃ r, D XU (.fn (.func fn_ref31_Diff) [] []) [S a, S b] ⟨H, lo⟩ = some (.ret r ⟨H, lo⟩) ∧ Rv r 3 ((dif a b).map ch3) := by
  obtain ⟨r, h1, h2⟩ := refDiff_D a b ha hb H lo
  rw [show keyR 0 = keyP from funext fun l => (key_eq l).symm] at h2
  exact ⟨r, D_ext extU _ _ _ _ h1, h2⟩

theorem btt : (true == true) = true := rfl
theorem bff : (false == false) = true := rfl

theorem DiffTells_D (a b c : List UInt8) (H : List AObj) (lo : Option Nat) : D XU (.fn (.func fn_law31_DiffTells) [] []) [S a, S b, S c] ⟨H, lo⟩ = some (.ret (.bool true) ⟨H, lo⟩) := by
  refine D_fn pf_law31_DiffTells rfl rfl rfl fun N hN => ?_
  simp (maxSteps := 2000000) (disch := omega) only [F1, ↓Int.cast_ofNat_Int, ↓R1, R2, C1, P1, N1, O1, V1, V2, V3, reduceCtorEq, Nat.reduceEqDiff, Nat.reduceBEq, Nat.reduceAdd, Nat.reduceSub, Nat.reduceMul, Nat.reduceLeDiff, Nat.reduceLT, Int.reduceEq, Int.reduceAdd, Int.reduceSub, Int.reduceMul, Int.reduceLT, Int.reduceLE, Int.reduceNeg, Int.reduceToNat, wrap_i64, wrap_u64, wrap_u8, wrap_u16, wrap_u32, wrap_i32, base_get0, base_get, base_set0, base_set, base_take, take_self, take_app1, pf_law31_DiffTells, hN]
  refine gK_keep 23 (.bool (decide (1500 < a.length ∨ 1500 < b.length ∨ 1500 < c.length))) [0, 1, 2] rfl rfl ?_ fun e0 => ?_
  · simp (maxSteps := 2000000) (disch := omega) only [R4, F1, ↓Int.cast_ofNat_Int, ↓R1, R2, C1, P1, N1, O1, V1, V2, V3, reduceCtorEq, Nat.reduceEqDiff, Nat.reduceBEq, Nat.reduceAdd, Nat.reduceSub, Nat.reduceMul, Nat.reduceLeDiff, Nat.reduceLT, Int.reduceEq, Int.reduceAdd, Int.reduceSub, Int.reduceMul, Int.reduceLT, Int.reduceLE, Int.reduceNeg, Int.reduceToNat, wrap_i64, wrap_u64, wrap_u8, wrap_u16, wrap_u32, wrap_i32, base_get0, base_get, base_set0, base_set, base_take, take_self, take_app1, hN]
    (repeat' (first | apply And.intro | intro _))
    all_goals (refine congrArg AV.bool (Bool.eq_iff_iff.2 ?_); simp; omega)
  simp (maxSteps := 2000000) (disch := omega) only [condK_dec, F1, ↓Int.cast_ofNat_Int, ↓R1, R2, C1, P1, N1, O1, V1, V2, V3, reduceCtorEq, Nat.reduceEqDiff, Nat.reduceBEq, Nat.reduceAdd, Nat.reduceSub, Nat.reduceMul, Nat.reduceLeDiff, Nat.reduceLT, Int.reduceEq, Int.reduceAdd, Int.reduceSub, Int.reduceMul, Int.reduceLT, Int.reduceLE, Int.reduceNeg, Int.reduceToNat, wrap_i64, wrap_u64, wrap_u8, wrap_u16, wrap_u32, wrap_i32, base_get0, base_get, base_set0, base_set, base_take, take_self, take_app1, wakes_X, hN]
  refine ⟨fun h => ?_, fun h => ?_⟩
  · first | trivial | simp (maxSteps := 2000000) (disch := omega) only [F1, ↓Int.cast_ofNat_Int, ↓R1, R2, C1, P1, N1, O1, V1, V2, V3, reduceCtorEq, Nat.reduceEqDiff, Nat.reduceBEq, Nat.reduceAdd, Nat.reduceSub, Nat.reduceMul, Nat.reduceLeDiff, Nat.reduceLT, Int.reduceEq, Int.reduceAdd, Int.reduceSub, Int.reduceMul, Int.reduceLT, Int.reduceLE, Int.reduceNeg, Int.reduceToNat, wrap_i64, wrap_u64, wrap_u8, wrap_u16, wrap_u32, wrap_i32, base_get0, base_get, base_set0, base_set, base_take, take_self, take_app1, wakes_X, hN, take_self hN]
  · have h1 : a.length ≤ 2000 := by omega
    have h2 : b.length ≤ 2000 := by omega
    have h3 : c.length ≤ 2000 := by omega
    obtain ⟨x, ex, rx⟩ := dif_U a b h1 h2 H none
    obtain ⟨y, ey, ry⟩ := dif_U b c h2 h3 H none
    obtain ⟨p, ep, rp⟩ := ref_U a b h1 h2 H none
    obtain ⟨q, eq, rq⟩ := ref_U b c h2 h3 H none
    have l1 := dif_len a b h1 h2
    have l2 := dif_len b c h2 h3
    have s1 := D_ext extU _ _ _ _ (same_D _ l1 x p rx rp H none)
    have s2 := D_ext extU _ _ _ _ (same_D _ l2 y q ry rq H none)
    have s3 := D_ext extU _ _ _ _ (Apart_D _ _ l1 l2 x y rx ry H none)
    have s4 := D_ext extU _ _ _ _ (refApart_D _ _ l1 l2 p q rp rq H none)
    obtain ⟨bb, hbb⟩ : ∃ bb, apartL (dif a b) (dif b c) = bb := ⟨_, rfl⟩
    rw [hbb] at s3 s4
    cases bb <;> simp (maxSteps := 2000000) (disch := omega) only [F1, ↓Int.cast_ofNat_Int, ↓R1, R2, C1, P1, N1, O1, V1, V2, V3, reduceCtorEq, Nat.reduceEqDiff, Nat.reduceBEq, Nat.reduceAdd, Nat.reduceSub, Nat.reduceMul, Nat.reduceLeDiff, Nat.reduceLT, Int.reduceEq, Int.reduceAdd, Int.reduceSub, Int.reduceMul, Int.reduceLT, Int.reduceLE, Int.reduceNeg, Int.reduceToNat, wrap_i64, wrap_u64, wrap_u8, wrap_u16, wrap_u32, wrap_i32, base_get0, base_get, base_set0, base_set, base_take, take_self, take_app1, ex, ey, ep, eq, s1, s2, s3, s4, wakes_X, hN, take_self hN, btt, bff]

theorem DiffBack_D (a b : List UInt8) (H : List AObj) (lo : Option Nat) : D XU (.fn (.func fn_law31_DiffBack) [] []) [S a, S b] ⟨H, lo⟩ = some (.ret (.bool true) ⟨H, lo⟩) := by
  refine D_fn pf_law31_DiffBack rfl rfl rfl fun N hN => ?_
  simp (maxSteps := 2000000) (disch := omega) only [F1, ↓Int.cast_ofNat_Int, ↓R1, R2, C1, P1, N1, O1, V1, V2, V3, reduceCtorEq, Nat.reduceEqDiff, Nat.reduceBEq, Nat.reduceAdd, Nat.reduceSub, Nat.reduceMul, Nat.reduceLeDiff, Nat.reduceLT, Int.reduceEq, Int.reduceAdd, Int.reduceSub, Int.reduceMul, Int.reduceLT, Int.reduceLE, Int.reduceNeg, Int.reduceToNat, wrap_i64, wrap_u64, wrap_u8, wrap_u16, wrap_u32, wrap_i32, base_get0, base_get, base_set0, base_set, base_take, take_self, take_app1, pf_law31_DiffBack, hN]
  refine gK_keep 17 (.bool (decide (1500 < a.length ∨ 1500 < b.length))) [0, 1] rfl rfl ?_ fun e0 => ?_
  · simp (maxSteps := 2000000) (disch := omega) only [R4, F1, ↓Int.cast_ofNat_Int, ↓R1, R2, C1, P1, N1, O1, V1, V2, V3, reduceCtorEq, Nat.reduceEqDiff, Nat.reduceBEq, Nat.reduceAdd, Nat.reduceSub, Nat.reduceMul, Nat.reduceLeDiff, Nat.reduceLT, Int.reduceEq, Int.reduceAdd, Int.reduceSub, Int.reduceMul, Int.reduceLT, Int.reduceLE, Int.reduceNeg, Int.reduceToNat, wrap_i64, wrap_u64, wrap_u8, wrap_u16, wrap_u32, wrap_i32, base_get0, base_get, base_set0, base_set, base_take, take_self, take_app1, hN]
    (repeat' (first | apply And.intro | intro _))
    all_goals (refine congrArg AV.bool (Bool.eq_iff_iff.2 ?_); simp; omega)
  simp (maxSteps := 2000000) (disch := omega) only [condK_dec, F1, ↓Int.cast_ofNat_Int, ↓R1, R2, C1, P1, N1, O1, V1, V2, V3, reduceCtorEq, Nat.reduceEqDiff, Nat.reduceBEq, Nat.reduceAdd, Nat.reduceSub, Nat.reduceMul, Nat.reduceLeDiff, Nat.reduceLT, Int.reduceEq, Int.reduceAdd, Int.reduceSub, Int.reduceMul, Int.reduceLT, Int.reduceLE, Int.reduceNeg, Int.reduceToNat, wrap_i64, wrap_u64, wrap_u8, wrap_u16, wrap_u32, wrap_i32, base_get0, base_get, base_set0, base_set, base_take, take_self, take_app1, wakes_X, hN]
  refine ⟨fun h => ?_, fun h => ?_⟩
  · first | trivial | simp (maxSteps := 2000000) (disch := omega) only [F1, ↓Int.cast_ofNat_Int, ↓R1, R2, C1, P1, N1, O1, V1, V2, V3, reduceCtorEq, Nat.reduceEqDiff, Nat.reduceBEq, Nat.reduceAdd, Nat.reduceSub, Nat.reduceMul, Nat.reduceLeDiff, Nat.reduceLT, Int.reduceEq, Int.reduceAdd, Int.reduceSub, Int.reduceMul, Int.reduceLT, Int.reduceLE, Int.reduceNeg, Int.reduceToNat, wrap_i64, wrap_u64, wrap_u8, wrap_u16, wrap_u32, wrap_i32, base_get0, base_get, base_set0, base_set, base_take, take_self, take_app1, wakes_X, hN, take_self hN]
  · have h1 : a.length ≤ 2000 := by omega
    have h2 : b.length ≤ 2000 := by omega
    obtain ⟨x, ex, rx⟩ := dif_U a b h1 h2 H none
    obtain ⟨y, ey, ry⟩ := dif_U b a h2 h1 H none
    obtain ⟨z, ez, rz⟩ := dif_U a a h1 h1 H none
    have hz : dif a a = [] := diff_self keyP _
    rw [hz] at rz
    have l1 := dif_len a b h1 h2
    have l2 := dif_len b a h2 h1
    have ll : (dif a b).length = (dif b a).length := diff_len keyP _ _
    have hsw : ∀ c ∈ dif a b, (c.1, c.2.2, c.2.1) ∈ dif b a := fun c hc => diff_swap keyP hc
    have hne : ∀ c ∈ dif a b, c.2.1 ≠ c.2.2 := fun c hc => diff_ne keyP neL_ne neL_ne hc
    obtain ⟨L, hL⟩ : ∃ L, dif a b = L := ⟨_, rfl⟩
    obtain ⟨M, hM⟩ : ∃ M, dif b a = M := ⟨_, rfl⟩
    rw [hL] at rx l1 ll hsw hne
    rw [hM] at ry l2 ll hsw
    simp (maxSteps := 2000000) (disch := omega) only [F1, ↓Int.cast_ofNat_Int, ↓R1, R2, C1, P1, N1, O1, V1, V2, V3, reduceCtorEq, Nat.reduceEqDiff, Nat.reduceBEq, Nat.reduceAdd, Nat.reduceSub, Nat.reduceMul, Nat.reduceLeDiff, Nat.reduceLT, Int.reduceEq, Int.reduceAdd, Int.reduceSub, Int.reduceMul, Int.reduceLT, Int.reduceLE, Int.reduceNeg, Int.reduceToNat, wrap_i64, wrap_u64, wrap_u8, wrap_u16, wrap_u32, wrap_i32, base_get0, base_get, base_set0, base_set, base_take, take_self, take_app1, ex, ey, ez, rz.lenM, rx.lenM, ry.lenM, ll, hN]
    rw [← ll]
    refine wp_loopN L.length (fun k e H' => H' = H ∧ e 5 = x ∧ e 6 = y ∧ e 7 = .int .i64 k) 0 (by omega) ?_ ?_
    · simp (maxSteps := 2000000) (disch := omega) only [F1, ↓Int.cast_ofNat_Int, ↓R1, R2, C1, P1, N1, O1, V1, V2, V3, reduceCtorEq, Nat.reduceEqDiff, Nat.reduceBEq, Nat.reduceAdd, Nat.reduceSub, Nat.reduceMul, Nat.reduceLeDiff, Nat.reduceLT, Int.reduceEq, Int.reduceAdd, Int.reduceSub, Int.reduceMul, Int.reduceLT, Int.reduceLE, Int.reduceNeg, Int.reduceToNat, wrap_i64, wrap_u64, wrap_u8, wrap_u16, wrap_u32, wrap_i32, base_get0, base_get, base_set0, base_set, base_take, take_self, take_app1]
    rintro k hk e H' ⟨rfl, h5, h6, h7⟩ n hn
    simp (maxSteps := 2000000) (disch := omega) only [condK_dec, F1, ↓Int.cast_ofNat_Int, ↓R1, R2, C1, P1, N1, O1, V1, V2, V3, reduceCtorEq, Nat.reduceEqDiff, Nat.reduceBEq, Nat.reduceAdd, Nat.reduceSub, Nat.reduceMul, Nat.reduceLeDiff, Nat.reduceLT, Int.reduceEq, Int.reduceAdd, Int.reduceSub, Int.reduceMul, Int.reduceLT, Int.reduceLE, Int.reduceNeg, Int.reduceToNat, wrap_i64, wrap_u64, wrap_u8, wrap_u16, wrap_u32, wrap_i32, base_get0, base_get, base_set0, base_set, base_take, take_self, take_app1, l1_law31_DiffBack, h5, h6, h7, rx.lenM]
    refine ⟨fun h => ?_, fun h => ?_⟩
    · have hk' : k < L.length := by omega
      obtain ⟨c, hc⟩ : ∃ c, L.getD k default = c := ⟨_, rfl⟩
      have hcm : c ∈ L := by rw [← hc, List.getD_eq_getElem?_getD, List.getElem?_eq_getElem hk']; exact List.getElem_mem hk'
      have hcs := hsw c hcm
      have hcn := hne c hcm
      simp (maxSteps := 2000000) (disch := omega) only [condK_dec, F1, ↓Int.cast_ofNat_Int, ↓R1, R2, C1, P1, N1, O1, V1, V2, V3, reduceCtorEq, Nat.reduceEqDiff, Nat.reduceBEq, Nat.reduceAdd, Nat.reduceSub, Nat.reduceMul, Nat.reduceLeDiff, Nat.reduceLT, Int.reduceEq, Int.reduceAdd, Int.reduceSub, Int.reduceMul, Int.reduceLT, Int.reduceLE, Int.reduceNeg, Int.reduceToNat, wrap_i64, wrap_u64, wrap_u8, wrap_u16, wrap_u32, wrap_i32, base_get0, base_get, base_set0, base_set, base_take, take_self, take_app1, h]
      refine wp_loopN M.length (fun j e H'' => H'' = H' ∧ e 5 = x ∧ e 6 = y ∧ e 7 = .int .i64 k ∧ e 8 = .bool ((M.take j).any fun d => decide (d.1 = c.1 ∧ d.2.1 = c.2.2 ∧ d.2.2 = c.2.1)) ∧ e 9 = .int .i64 j) 0 (by omega) ?_ ?_
      · simp (maxSteps := 2000000) (disch := omega) only [F1, ↓Int.cast_ofNat_Int, ↓R1, R2, C1, P1, N1, O1, V1, V2, V3, reduceCtorEq, Nat.reduceEqDiff, Nat.reduceBEq, Nat.reduceAdd, Nat.reduceSub, Nat.reduceMul, Nat.reduceLeDiff, Nat.reduceLT, Int.reduceEq, Int.reduceAdd, Int.reduceSub, Int.reduceMul, Int.reduceLT, Int.reduceLE, Int.reduceNeg, Int.reduceToNat, wrap_i64, wrap_u64, wrap_u8, wrap_u16, wrap_u32, wrap_i32, base_get0, base_get, base_set0, base_set, base_take, take_self, take_app1, h5, h6, h7]
        simp
      rintro j hj e H'' ⟨rfl, h5, h6, h7, h8, h9⟩ n hn
      simp (maxSteps := 2000000) (disch := omega) only [condK_dec, F1, ↓Int.cast_ofNat_Int, ↓R1, R2, C1, P1, N1, O1, V1, V2, V3, reduceCtorEq, Nat.reduceEqDiff, Nat.reduceBEq, Nat.reduceAdd, Nat.reduceSub, Nat.reduceMul, Nat.reduceLeDiff, Nat.reduceLT, Int.reduceEq, Int.reduceAdd, Int.reduceSub, Int.reduceMul, Int.reduceLT, Int.reduceLE, Int.reduceNeg, Int.reduceToNat, wrap_i64, wrap_u64, wrap_u8, wrap_u16, wrap_u32, wrap_i32, base_get0, base_get, base_set0, base_set, base_take, take_self, take_app1, l2_law31_DiffBack, h5, h6, h7, h9, ry.lenM]
      refine ⟨fun hj2 => ?_, fun hj2 => ?_⟩
      · have hj' : j < M.length := by omega
        obtain ⟨d, hd⟩ : ∃ d, M.getD j default = d := ⟨_, rfl⟩
        have hs2 := take_succC hj'
        rw [hd] at hs2
        obtain ⟨f, hf⟩ : ∃ f, ((M.take j).any fun d => decide (d.1 = c.1 ∧ d.2.1 = c.2.2 ∧ d.2.2 = c.2.1)) = f := ⟨_, rfl⟩
        rw [hf] at h8
        have hs3 : ((M.take (j + 1)).any fun d => decide (d.1 = c.1 ∧ d.2.1 = c.2.2 ∧ d.2.2 = c.2.1)) = (f || decide (d.1 = c.1 ∧ d.2.1 = c.2.2 ∧ d.2.2 = c.2.1)) := by
          rw [hs2, List.any_append, hf]; simp
        cases f with
        | true =>
          simp (maxSteps := 2000000) (disch := omega) only [condK_dec, F1, ↓Int.cast_ofNat_Int, ↓R1, R2, C1, P1, N1, O1, V1, V2, V3, reduceCtorEq, Nat.reduceEqDiff, Nat.reduceBEq, Nat.reduceAdd, Nat.reduceSub, Nat.reduceMul, Nat.reduceLeDiff, Nat.reduceLT, Int.reduceEq, Int.reduceAdd, Int.reduceSub, Int.reduceMul, Int.reduceLT, Int.reduceLE, Int.reduceNeg, Int.reduceToNat, wrap_i64, wrap_u64, wrap_u8, wrap_u16, wrap_u32, wrap_i32, base_get0, base_get, base_set0, base_set, base_take, take_self, take_app1, hj2, hj', h, hk', h5, h6, h7, h8, h9, hs3, Bool.true_or, G1]
        | false =>
          simp (maxSteps := 2000000) (disch := omega) only [condK_dec, F1, ↓Int.cast_ofNat_Int, ↓R1, R2, C1, P1, N1, O1, V1, V2, V3, reduceCtorEq, Nat.reduceEqDiff, Nat.reduceBEq, Nat.reduceAdd, Nat.reduceSub, Nat.reduceMul, Nat.reduceLeDiff, Nat.reduceLT, Int.reduceEq, Int.reduceAdd, Int.reduceSub, Int.reduceMul, Int.reduceLT, Int.reduceLE, Int.reduceNeg, Int.reduceToNat, wrap_i64, wrap_u64, wrap_u8, wrap_u16, wrap_u32, wrap_i32, base_get0, base_get, base_set0, base_set, base_take, take_self, take_app1, hj2, hj', h, hk', h5, h6, h7, h8, h9, hs3, Bool.false_or, rx.addrM, rx.loadM, rx.fpLM, rx.faddrM, ry.addrM, ry.loadM, ry.fpLM, ry.faddrM, hc, hd, ch3, eq3, G1]
      · have hjm : j = M.length := by omega
        subst hjm
        have hfound : ((M.take M.length).any fun d => decide (d.1 = c.1 ∧ d.2.1 = c.2.2 ∧ d.2.2 = c.2.1)) = true := by
          rw [List.take_length, List.any_eq_true]
          exact ⟨_, hcs, by simp⟩
        rw [hfound] at h8
        simp (maxSteps := 2000000) (disch := omega) only [condK_dec, F1, ↓Int.cast_ofNat_Int, ↓R1, R2, C1, P1, N1, O1, V1, V2, V3, reduceCtorEq, Nat.reduceEqDiff, Nat.reduceBEq, Nat.reduceAdd, Nat.reduceSub, Nat.reduceMul, Nat.reduceLeDiff, Nat.reduceLT, Int.reduceEq, Int.reduceAdd, Int.reduceSub, Int.reduceMul, Int.reduceLT, Int.reduceLE, Int.reduceNeg, Int.reduceToNat, wrap_i64, wrap_u64, wrap_u8, wrap_u16, wrap_u32, wrap_i32, base_get0, base_get, base_set0, base_set, base_take, take_self, take_app1, h, hk', h5, h6, h7, h8, h9, rx.addrM, rx.loadM, rx.fpLM, rx.faddrM, hc, ch3, hcn, Bool.not_true, G1]
    · simp (maxSteps := 2000000) (disch := omega) only [F1, ↓Int.cast_ofNat_Int, ↓R1, R2, C1, P1, N1, O1, V1, V2, V3, reduceCtorEq, Nat.reduceEqDiff, Nat.reduceBEq, Nat.reduceAdd, Nat.reduceSub, Nat.reduceMul, Nat.reduceLeDiff, Nat.reduceLT, Int.reduceEq, Int.reduceAdd, Int.reduceSub, Int.reduceMul, Int.reduceLT, Int.reduceLE, Int.reduceNeg, Int.reduceToNat, wrap_i64, wrap_u64, wrap_u8, wrap_u16, wrap_u32, wrap_i32, base_get0, base_get, base_set0, base_set, base_take, take_self, take_app1, wakes_X, hN, take_self hN]
end Go.Proofs.YthbgjjdbcalhcaaGreatDoor
