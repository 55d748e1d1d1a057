/- THE LAW SchedGaps: for every input it returns true and its arguments read as before (condition: the listed variables are laid as the text of the program lays them, which the card ties). -/
import Derived.Test.YtohnmnbdmcoflaaGreatDoorCode
import Derived.Test.YtohnmnbdmcoflaaGreatDoorDenD
import Derived.Test.YtohnmnbdmcoflaaGreatDoorDenC
import Derived.Test.YtohnmnbdmcoflaaGreatDoorDenE
import Derived.Test.YtohnmnbdmcoflaaGreatDoorTie
import Derived.Test.YtohnmnbdmcoflaaGreatDoorCards
import Derived.ProofKit
import Derived.Lay
import Derived.LaidMore
import Derived.ChangeShapes
import Derived.SevenTiedAt
import Derived.Stop.Joined
set_option linter.unusedVariables false
set_option linter.unusedSimpArgs false
set_option linter.unusedSectionVars false
set_option linter.deprecated false

/- The contexts of this law, one above the other, and the kernel's evaluator. -/
namespace Go.Proofs.YtohnmnbdmcoflaaGreatDoor
open Go Go.Den
set_option maxRecDepth 100000
def tab_g_model_does : List (Nat × List UInt8 × Nat) := [(1, [40, 42, 98, 97, 105, 108, 105, 119, 105, 99, 107, 47, 109, 111, 100, 101, 108, 46, 99, 97, 108, 108, 101, 114, 41, 46, 110, 101, 119], 282), (2, [40, 42, 98, 97, 105, 108, 105, 119, 105, 99, 107, 47, 109, 111, 100, 101, 108, 46, 99, 97, 108, 108, 101, 114, 41, 46, 97, 108, 108, 111, 99], 283), (3, [40, 42, 98, 97, 105, 108, 105, 119, 105, 99, 107, 47, 109, 111, 100, 101, 108, 46, 99, 97, 108, 108, 101, 114, 41, 46, 108, 111, 97, 100], 284), (4, [40, 42, 98, 97, 105, 108, 105, 119, 105, 99, 107, 47, 109, 111, 100, 101, 108, 46, 99, 97, 108, 108, 101, 114, 41, 46, 115, 116, 111, 114, 101], 285), (5, [40, 42, 98, 97, 105, 108, 105, 119, 105, 99, 107, 47, 109, 111, 100, 101, 108, 46, 99, 97, 108, 108, 101, 114, 41, 46, 114, 101, 115, 101, 116], 286), (6, [40, 42, 98, 97, 105, 108, 105, 119, 105, 99, 107, 47, 109, 111, 100, 101, 108, 46, 99, 97, 108, 108, 101, 114, 41, 46, 100, 101, 108, 101, 116, 101], 287), (7, [40, 42, 98, 97, 105, 108, 105, 119, 105, 99, 107, 47, 109, 111, 100, 101, 108, 46, 99, 97, 108, 108, 101, 114, 41, 46, 99, 117, 116], 288), (8, [40, 42, 98, 97, 105, 108, 105, 119, 105, 99, 107, 47, 109, 111, 100, 101, 108, 46, 99, 97, 108, 108, 101, 114, 41, 46, 103, 114, 97, 102, 116], 289), (9, [40, 42, 98, 97, 105, 108, 105, 119, 105, 99, 107, 47, 109, 111, 100, 101, 108, 46, 99, 97, 108, 108, 101, 114, 41, 46, 102, 114, 101, 101, 122, 101], 290), (10, [40, 42, 98, 97, 105, 108, 105, 119, 105, 99, 107, 47, 109, 111, 100, 101, 108, 46, 99, 97, 108, 108, 101, 114, 41, 46, 115, 104, 97, 114, 101], 291), (11, [40, 42, 98, 97, 105, 108, 105, 119, 105, 99, 107, 47, 109, 111, 100, 101, 108, 46, 99, 97, 108, 108, 101, 114, 41, 46, 100, 114, 111, 112], 292), (12, [40, 42, 98, 97, 105, 108, 105, 119, 105, 99, 107, 47, 109, 111, 100, 101, 108, 46, 99, 97, 108, 108, 101, 114, 41, 46, 108, 101, 110, 100], 293), (13, [40, 42, 98, 97, 105, 108, 105, 119, 105, 99, 107, 47, 109, 111, 100, 101, 108, 46, 99, 97, 108, 108, 101, 114, 41, 46, 103, 105, 118, 101, 66, 97, 99, 107], 294), (14, [40, 42, 98, 97, 105, 108, 105, 119, 105, 99, 107, 47, 109, 111, 100, 101, 108, 46, 99, 97, 108, 108, 101, 114, 41, 46, 115, 101, 110, 100], 295), (15, [40, 42, 98, 97, 105, 108, 105, 119, 105, 99, 107, 47, 109, 111, 100, 101, 108, 46, 99, 97, 108, 108, 101, 114, 41, 46, 114, 101, 99, 118], 296), (16, [40, 42, 98, 97, 105, 108, 105, 119, 105, 99, 107, 47, 109, 111, 100, 101, 108, 46, 99, 97, 108, 108, 101, 114, 41, 46, 114, 101, 99, 118], 296), (17, [40, 42, 98, 97, 105, 108, 105, 119, 105, 99, 107, 47, 109, 111, 100, 101, 108, 46, 99, 97, 108, 108, 101, 114, 41, 46, 99, 108, 111, 115, 101], 297), (18, [40, 42, 98, 97, 105, 108, 105, 119, 105, 99, 107, 47, 109, 111, 100, 101, 108, 46, 99, 97, 108, 108, 101, 114, 41, 46, 114, 101, 102], 298), (19, [40, 42, 98, 97, 105, 108, 105, 119, 105, 99, 107, 47, 109, 111, 100, 101, 108, 46, 99, 97, 108, 108, 101, 114, 41, 46, 100, 101, 114, 101, 102], 299), (20, [40, 42, 98, 97, 105, 108, 105, 119, 105, 99, 107, 47, 109, 111, 100, 101, 108, 46, 99, 97, 108, 108, 101, 114, 41, 46, 101, 120, 105, 116], 300), (21, [40, 42, 98, 97, 105, 108, 105, 119, 105, 99, 107, 47, 109, 111, 100, 101, 108, 46, 99, 97, 108, 108, 101, 114, 41, 46, 107, 105, 108, 108], 301), (22, [40, 42, 98, 97, 105, 108, 105, 119, 105, 99, 107, 47, 109, 111, 100, 101, 108, 46, 99, 97, 108, 108, 101, 114, 41, 46, 115, 112, 97, 119, 110], 302)]
def tab_g_sched_kinds : List (Nat × List UInt8 × Nat) := [(0, [98, 97, 105, 108, 105, 119, 105, 99, 107, 47, 115, 99, 104, 101, 100, 46, 107, 105, 110, 100, 115, 36, 49], 277), (1, [98, 97, 105, 108, 105, 119, 105, 99, 107, 47, 115, 99, 104, 101, 100, 46, 107, 105, 110, 100, 115, 36, 50], 279), (2, [98, 97, 105, 108, 105, 119, 105, 99, 107, 47, 115, 99, 104, 101, 100, 46, 107, 105, 110, 100, 115, 36, 51], 281)]

noncomputable def X0 : Ctx := { glob := fun g => if g = g_sched_kinds then some [.mglob g_sched_kinds] else if g = g_model_does then some [.mglob g_model_does] else none, code := fun f => codeT.lookup f, prim := fun _ => none, gmap := fun g => if g = g_sched_kinds then some (funcsM tab_g_sched_kinds) else if g = g_model_does then some (funcsM tab_g_model_does) else none }
def recs : Recs := fun f => recT.lookup f
noncomputable def pCalls : List AV → AS → Option CRes := primD X0 (D X0) Lw recs fn_Pmodel_caller_calls pd_Pmodel_caller_calls
noncomputable def X1 : Ctx := { X0 with prim := fun f => if f = fn_Pmodel_caller_calls then some pCalls else none }

noncomputable def noPR : PrimsF := fun _ => none
noncomputable def kF0 (n : Nat) : CallerF := callF X0 noPR n
noncomputable def qCalls (n : Nat) : List AV → FS → Option FCRes := primDF X0 (kF0 n) (iterF n) recs fn_Pmodel_caller_calls pd_Pmodel_caller_calls
noncomputable def PR1 (n : Nat) : PrimsF := fun f => if f = fn_Pmodel_caller_calls then some (qCalls n) else none
noncomputable def kF1 (n : Nat) : CallerF := callF X1 (PR1 n) n

theorem noPR_ok : PrimsF.ok X0 noPR := fun f q h => by cases h
theorem noPR_keep : PrimsKeep noPR := fun f q h => by cases h
theorem qCalls_ok (n : Nat) (args : List AV) (σ : FS) (r : FCRes) (hr : qCalls n args σ = some r) : pCalls args σ.dec = some r.dec :=
  primDF_sound X0 (D_callF X0 noPR noPR_ok noPR_keep) (callF_keep X0 noPR noPR_keep n) (iterF_Lw n) hr
theorem qCalls_keep (n : Nat) (args : List AV) (σ : FS) (r : FCRes) (hr : qCalls n args σ = some r) : Keep σ r.st :=
  primDF_keep X0 (callF_keep X0 noPR noPR_keep n) (iterF_keep n) hr
theorem PR1_ok (n : Nat) : PrimsF.ok X1 (PR1 n) := fun f q h => by
  unfold PR1 at h
  split at h
  · rename_i hf
    cases h
    exact ⟨pCalls, by simp [X1, hf], qCalls_ok n⟩
  · cases h
theorem PR1_keep (n : Nat) : PrimsKeep (PR1 n) := fun f q h args σ r hr => by
  unfold PR1 at h
  split at h
  · cases h; exact qCalls_keep n args σ r hr
  · cases h
theorem kF1_D (n : Nat) : CSnd (kF1 n) (D X1) := D_callF X1 (PR1 n) (PR1_ok n) (PR1_keep n)

noncomputable def isT : Option FCRes → Bool
  | some (.ret (.bool b) _) => b
  | _ => false

theorem isT_ret {o : Option FCRes} (h : isT o = true) : ∃ σ, o = some (.ret (.bool true) σ) := by
  unfold isT at h
  split at h
  · subst h; exact ⟨_, rfl⟩
  · cases h

noncomputable def σF : FS := ⟨0, .nil, none, 0⟩

/-- What the kernel computes. -/
theorem D_true {f : FuncId} {args : List AV} {n : Nat} (h : isT (kF1 n (.fn (.func f) [] []) args σF) = true) : ∃ σ, D X1 (.fn (.func f) [] []) args ⟨[], none⟩ = some (.ret (.bool true) σ) := by
  obtain ⟨σ, hσ⟩ := isT_ret h
  exact ⟨σ.dec, kF1_D n _ _ _ _ hσ⟩

noncomputable def X : Ctx := { X0 with prim := fun f => if f = fn_Pmodel_caller_calls then some pCalls else if f = fn_law25_wakes then some (closedP true) else none }

theorem wakes_X (H : List AObj) (lo : Option Nat) : D X (.fn (.func fn_law25_wakes) [] []) [] ⟨H, lo⟩ = some (.ret (.bool true) ⟨H, lo⟩) :=
  D_prim (p := closedP true) rfl rfl

end Go.Proofs.YtohnmnbdmcoflaaGreatDoor

/- The law's own check, by the kernel. -/
namespace Go.Proofs.YtohnmnbdmcoflaaGreatDoor
open Go Go.Den
set_option maxRecDepth 100000
theorem wakes_D : ∃ σ, D X1 (.fn (.func fn_law25_wakes) [] []) [] ⟨[], none⟩ = some (.ret (.bool true) σ) := D_true (n := 3000) (by kernel_rfl)
end Go.Proofs.YtohnmnbdmcoflaaGreatDoor

/- Gaps: what the program's and the document's functions compute; that it is the same. -/
namespace Go.Proofs.YtohnmnbdmcoflaaGreatDoor
open Go Go.Den
set_option maxRecDepth 10000
set_option maxHeartbeats 1000000

def B1 (b : Nat) : List AV := [.int .u8 b]

/-- How many behind the last t among the first k. -/
def tail (l : List Nat) (t : Nat) : Nat → Nat
  | 0 => 0
  | k + 1 => if l.getD k default = t then 0 else tail l t k + 1
/-- The most of them. -/
def most (l : List Nat) (t : Nat) : Nat → Nat
  | 0 => 0
  | k + 1 => max (most l t k) (tail l t (k + 1))

theorem tail_le (l : List Nat) (t : Nat) : ∀ k, tail l t k ≤ k
  | 0 => Nat.le_refl _
  | k + 1 => by
    simp only [tail]
    split
    · omega
    · have := tail_le l t k; omega
theorem most_le (l : List Nat) (t : Nat) : ∀ k, most l t k ≤ k
  | 0 => Nat.le_refl _
  | k + 1 => by
    have := most_le l t k
    have := tail_le l t (k + 1)
    simp only [most]; omega

theorem Gap_D (v : AV) (l : List Nat) (hv : Rv v 1 (l.map B1)) (hl : l.length ≤ 1000) (t : Nat) (H : List AObj) (lo : Option Nat) : D X (.fn (.func fn_sched_Gap) [] []) [v, .int .u8 t] ⟨H, lo⟩ = some (.ret (.int .i64 (most l t l.length)) ⟨H, lo⟩) := by
  refine D_fn pf_sched_Gap rfl rfl rfl fun N hN => ?_
  simp (maxSteps := 2000000) (disch := omega) only [F1, ↓Int.cast_ofNat_Int, ↓R1, R2, C1, P1, O1, V1, V2, V3, reduceCtorEq, Nat.reduceEqDiff, Nat.reduceBEq, Nat.reduceAdd, Nat.reduceSub, Nat.reduceMul, Nat.reduceLeDiff, Nat.reduceLT, Int.reduceEq, Int.reduceAdd, Int.reduceSub, Int.reduceMul, Int.reduceLT, Int.reduceLE, Int.reduceNeg, Int.reduceToNat, wrap_i64, wrap_u64, wrap_u8, wrap_u16, wrap_u32, wrap_i32, base_get0, base_get, base_set0, base_set, base_take, take_self, take_app1, pf_sched_Gap, hv.lenM]
  refine wp_loopN l.length (fun k e H' => H' = H ∧ e 1 = .int .u8 t ∧ e 5 = .int .i64 (most l t k) ∧ e 6 = .int .i64 (tail l t k) ∧ e 9 = v ∧ e 10 = .int .i64 l.length ∧ e 11 = .int .i64 k) 0 (by omega) ?_ ?_
  · simp (maxSteps := 2000000) (disch := omega) only [F1, ↓Int.cast_ofNat_Int, ↓R1, R2, C1, P1, O1, V1, V2, V3, reduceCtorEq, Nat.reduceEqDiff, Nat.reduceBEq, Nat.reduceAdd, Nat.reduceSub, Nat.reduceMul, Nat.reduceLeDiff, Nat.reduceLT, Int.reduceEq, Int.reduceAdd, Int.reduceSub, Int.reduceMul, Int.reduceLT, Int.reduceLE, Int.reduceNeg, Int.reduceToNat, wrap_i64, wrap_u64, wrap_u8, wrap_u16, wrap_u32, wrap_i32, base_get0, base_get, base_set0, base_set, base_take, take_self, take_app1, most, tail]
  rintro k hk e H' ⟨rfl, h1, h5, h6, h9, h10, h11⟩ n hn
  have b1 := most_le l t k
  have b2 := tail_le l t k
  simp (maxSteps := 2000000) (disch := omega) only [condK_dec, F1, ↓Int.cast_ofNat_Int, ↓R1, R2, C1, P1, O1, V1, V2, V3, reduceCtorEq, Nat.reduceEqDiff, Nat.reduceBEq, Nat.reduceAdd, Nat.reduceSub, Nat.reduceMul, Nat.reduceLeDiff, Nat.reduceLT, Int.reduceEq, Int.reduceAdd, Int.reduceSub, Int.reduceMul, Int.reduceLT, Int.reduceLE, Int.reduceNeg, Int.reduceToNat, wrap_i64, wrap_u64, wrap_u8, wrap_u16, wrap_u32, wrap_i32, base_get0, base_get, base_set0, base_set, base_take, take_self, take_app1, l1_sched_Gap, h1, h5, h6, h9, h10, h11]
  refine ⟨fun h => ?_, fun h => ?_⟩
  · have hk' : k < l.length := by omega
    simp (maxSteps := 2000000) (disch := omega) only [condK_dec, F1, ↓Int.cast_ofNat_Int, ↓R1, R2, C1, P1, O1, V1, V2, V3, reduceCtorEq, Nat.reduceEqDiff, Nat.reduceBEq, Nat.reduceAdd, Nat.reduceSub, Nat.reduceMul, Nat.reduceLeDiff, Nat.reduceLT, Int.reduceEq, Int.reduceAdd, Int.reduceSub, Int.reduceMul, Int.reduceLT, Int.reduceLE, Int.reduceNeg, Int.reduceToNat, wrap_i64, wrap_u64, wrap_u8, wrap_u16, wrap_u32, wrap_i32, base_get0, base_get, base_set0, base_set, base_take, take_self, take_app1, hv.addrM, hv.loadM, B1, h, h1, h5, h6]
    refine ⟨fun hq => ?_, fun hq => ?_⟩
    · have hq' : l.getD k default = t := by omega
      simp (maxSteps := 2000000) (disch := omega) only [F1, ↓Int.cast_ofNat_Int, ↓R1, R2, C1, P1, O1, V1, V2, V3, reduceCtorEq, Nat.reduceEqDiff, Nat.reduceBEq, Nat.reduceAdd, Nat.reduceSub, Nat.reduceMul, Nat.reduceLeDiff, Nat.reduceLT, Int.reduceEq, Int.reduceAdd, Int.reduceSub, Int.reduceMul, Int.reduceLT, Int.reduceLE, Int.reduceNeg, Int.reduceToNat, wrap_i64, wrap_u64, wrap_u8, wrap_u16, wrap_u32, wrap_i32, base_get0, base_get, base_set0, base_set, base_take, take_self, take_app1, h5, h1, h9, h10, h11]
      have e1 : tail l t (k + 1) = 0 := if_pos hq'
      have e2 : most l t (k + 1) = max (most l t k) 0 := by rw [most, e1]
      refine ⟨hk', congrArg (AV.int .i64) ?_, congrArg (AV.int .i64) ?_⟩
      · rw [e2]; first | omega | (split <;> omega)
      · rw [e1]; rfl
    · have hq' : ¬ l.getD k default = t := by omega
      simp (maxSteps := 2000000) (disch := omega) only [F1, ↓Int.cast_ofNat_Int, ↓R1, R2, C1, P1, O1, V1, V2, V3, reduceCtorEq, Nat.reduceEqDiff, Nat.reduceBEq, Nat.reduceAdd, Nat.reduceSub, Nat.reduceMul, Nat.reduceLeDiff, Nat.reduceLT, Int.reduceEq, Int.reduceAdd, Int.reduceSub, Int.reduceMul, Int.reduceLT, Int.reduceLE, Int.reduceNeg, Int.reduceToNat, wrap_i64, wrap_u64, wrap_u8, wrap_u16, wrap_u32, wrap_i32, base_get0, base_get, base_set0, base_set, base_take, take_self, take_app1, h5, h6, h1, h9, h10, h11]
      have e1 : tail l t (k + 1) = tail l t k + 1 := if_neg hq'
      have e2 : most l t (k + 1) = max (most l t k) (tail l t k + 1) := by rw [most, e1]
      refine ⟨hk', congrArg (AV.int .i64) ?_, congrArg (AV.int .i64) ?_⟩
      · rw [e2]; first | omega | (split <;> omega)
      · rw [e1]; omega
  · have : k = l.length := by omega
    subst this
    simp (maxSteps := 2000000) (disch := omega) only [F1, ↓Int.cast_ofNat_Int, ↓R1, R2, C1, P1, O1, V1, V2, V3, reduceCtorEq, Nat.reduceEqDiff, Nat.reduceBEq, Nat.reduceAdd, Nat.reduceSub, Nat.reduceMul, Nat.reduceLeDiff, Nat.reduceLT, Int.reduceEq, Int.reduceAdd, Int.reduceSub, Int.reduceMul, Int.reduceLT, Int.reduceLE, Int.reduceNeg, Int.reduceToNat, wrap_i64, wrap_u64, wrap_u8, wrap_u16, wrap_u32, wrap_i32, base_get0, base_get, base_set0, base_set, base_take, take_self, take_app1, take_self hN]

/-- How many from i on are not t. -/
def runL (l : List Nat) (t : Nat) (i : Nat) : Nat := ((l.drop i).takeWhile (fun b => decide (b ≠ t))).length
def best (l : List Nat) (t : Nat) : Nat → Nat
  | 0 => 0
  | k + 1 => max (best l t k) (runL l t k)

theorem runL_at {l : List Nat} {t i j : Nat} (hij : i ≤ j) (hj : j ≤ l.length) (h : ∀ m, i ≤ m → m < j → l.getD m default ≠ t) (he : j = l.length ∨ l.getD j default = t) : runL l t i = j - i := by
  unfold runL
  obtain ⟨d, rfl⟩ : ∃ d, j = i + d := ⟨j - i, by omega⟩
  rw [Nat.add_sub_cancel_left]
  induction d generalizing i with
  | zero =>
    rcases he with he | he
    · rw [List.drop_eq_nil_of_le (by omega)]; rfl
    · by_cases hlt : i < l.length
      · rw [List.drop_eq_getElem_cons hlt, List.takeWhile_cons]
        have : l[i] = t := by
          rw [List.getD_eq_getElem?_getD, Nat.add_zero, List.getElem?_eq_getElem hlt] at he
          simpa using he
        simp [this]
      · rw [List.drop_eq_nil_of_le (by omega)]; rfl
  | succ d ih =>
    have hlt : i < l.length := by omega
    rw [List.drop_eq_getElem_cons hlt, List.takeWhile_cons]
    have h0 : l[i] ≠ t := by
      have := h i (Nat.le_refl _) (by omega)
      rw [List.getD_eq_getElem?_getD, List.getElem?_eq_getElem hlt] at this
      simpa using this
    rw [if_pos (by simpa using h0), List.length_cons]
    have := ih (i := i + 1) (by omega) (by omega) (fun m hm hm' => h m (by omega) (by omega)) (by rw [show i + 1 + d = i + (d + 1) by omega]; exact he)
    omega

theorem runL_le (l : List Nat) (t i : Nat) : runL l t i ≤ l.length := by
  unfold runL
  refine Nat.le_trans (List.takeWhile_prefix _).length_le ?_
  rw [List.length_drop]; omega

theorem best_le (l : List Nat) (t : Nat) : ∀ k, best l t k ≤ l.length
  | 0 => Nat.zero_le _
  | k + 1 => by
    have := best_le l t k
    have := runL_le l t k
    simp only [best]; omega

theorem refGap_D (v : AV) (l : List Nat) (hv : Rv v 1 (l.map B1)) (hl : l.length ≤ 1000) (t : Nat) (H : List AObj) (lo : Option Nat) : D X (.fn (.func fn_ref25_Gap) [] []) [v, .int .u8 t] ⟨H, lo⟩ = some (.ret (.int .i64 (best l t l.length)) ⟨H, lo⟩) := by
  refine D_fn pf_ref25_Gap rfl rfl rfl fun N hN => ?_
  simp (maxSteps := 2000000) (disch := omega) only [F1, ↓Int.cast_ofNat_Int, ↓R1, R2, C1, P1, O1, V1, V2, V3, reduceCtorEq, Nat.reduceEqDiff, Nat.reduceBEq, Nat.reduceAdd, Nat.reduceSub, Nat.reduceMul, Nat.reduceLeDiff, Nat.reduceLT, Int.reduceEq, Int.reduceAdd, Int.reduceSub, Int.reduceMul, Int.reduceLT, Int.reduceLE, Int.reduceNeg, Int.reduceToNat, wrap_i64, wrap_u64, wrap_u8, wrap_u16, wrap_u32, wrap_i32, base_get0, base_get, base_set0, base_set, base_take, take_self, take_app1, pf_ref25_Gap]
  refine wp_loopN l.length (fun k e H' => H' = H ∧ e 0 = v ∧ e 1 = .int .u8 t ∧ e 5 = .int .i64 (best l t k) ∧ e 6 = .int .i64 k) 0 (by omega) ?_ ?_
  · simp (maxSteps := 2000000) (disch := omega) only [F1, ↓Int.cast_ofNat_Int, ↓R1, R2, C1, P1, O1, V1, V2, V3, reduceCtorEq, Nat.reduceEqDiff, Nat.reduceBEq, Nat.reduceAdd, Nat.reduceSub, Nat.reduceMul, Nat.reduceLeDiff, Nat.reduceLT, Int.reduceEq, Int.reduceAdd, Int.reduceSub, Int.reduceMul, Int.reduceLT, Int.reduceLE, Int.reduceNeg, Int.reduceToNat, wrap_i64, wrap_u64, wrap_u8, wrap_u16, wrap_u32, wrap_i32, base_get0, base_get, base_set0, base_set, base_take, take_self, take_app1, best]
  rintro k hk e H' ⟨rfl, h0, h1, h5, h6⟩ n hn
  have b1 := best_le l t k
  simp (maxSteps := 2000000) (disch := omega) only [condK_dec, F1, ↓Int.cast_ofNat_Int, ↓R1, R2, C1, P1, O1, V1, V2, V3, reduceCtorEq, Nat.reduceEqDiff, Nat.reduceBEq, Nat.reduceAdd, Nat.reduceSub, Nat.reduceMul, Nat.reduceLeDiff, Nat.reduceLT, Int.reduceEq, Int.reduceAdd, Int.reduceSub, Int.reduceMul, Int.reduceLT, Int.reduceLE, Int.reduceNeg, Int.reduceToNat, wrap_i64, wrap_u64, wrap_u8, wrap_u16, wrap_u32, wrap_i32, base_get0, base_get, base_set0, base_set, base_take, take_self, take_app1, l1_ref25_Gap, h0, h1, h5, h6, hv.lenM]
  refine ⟨fun h => ?_, fun h => ?_⟩
  · have hk' : k < l.length := by omega
    refine wp_loopN l.length (fun j e H'' => H'' = H' ∧ e 0 = v ∧ e 1 = .int .u8 t ∧ e 5 = .int .i64 (best l t k) ∧ e 6 = .int .i64 k ∧ e 7 = .int .i64 ((j : Int) - k) ∧ e 8 = .int .i64 j ∧ k ≤ j ∧ ∀ m, k ≤ m → m < j → l.getD m default ≠ t) k hk ?_ ?_
    · simp (maxSteps := 2000000) (disch := omega) only [F1, ↓Int.cast_ofNat_Int, ↓R1, R2, C1, P1, O1, V1, V2, V3, reduceCtorEq, Nat.reduceEqDiff, Nat.reduceBEq, Nat.reduceAdd, Nat.reduceSub, Nat.reduceMul, Nat.reduceLeDiff, Nat.reduceLT, Int.reduceEq, Int.reduceAdd, Int.reduceSub, Int.reduceMul, Int.reduceLT, Int.reduceLE, Int.reduceNeg, Int.reduceToNat, wrap_i64, wrap_u64, wrap_u8, wrap_u16, wrap_u32, wrap_i32, base_get0, base_get, base_set0, base_set, base_take, take_self, take_app1, h0, h1, h5, h6, Int.sub_self]
      exact ⟨Nat.le_refl _, fun m h1 h2 => by omega⟩
    rintro j hj e H'' ⟨rfl, h0, h1, h5, h6, h7, h8, hkj, hm⟩ n' hn'
    simp (maxSteps := 2000000) (disch := omega) only [F1, ↓Int.cast_ofNat_Int, ↓R1, R2, C1, P1, O1, V1, V2, V3, reduceCtorEq, Nat.reduceEqDiff, Nat.reduceBEq, Nat.reduceAdd, Nat.reduceSub, Nat.reduceMul, Nat.reduceLeDiff, Nat.reduceLT, Int.reduceEq, Int.reduceAdd, Int.reduceSub, Int.reduceMul, Int.reduceLT, Int.reduceLE, Int.reduceNeg, Int.reduceToNat, wrap_i64, wrap_u64, wrap_u8, wrap_u16, wrap_u32, wrap_i32, base_get0, base_get, base_set0, base_set, base_take, take_self, take_app1, l2_ref25_Gap, h0, h1, h5, h6, h7, h8, hv.lenM]
    refine gK_keep 27 (.bool (decide (j < l.length ∧ l.getD j default ≠ t))) [0, 1, 5, 6, 7, 8] rfl rfl ?_ fun e0 => ?_
    · simp (maxSteps := 2000000) (disch := omega) only [R4, F1, ↓Int.cast_ofNat_Int, ↓R1, R2, C1, P1, O1, V1, V2, V3, reduceCtorEq, Nat.reduceEqDiff, Nat.reduceBEq, Nat.reduceAdd, Nat.reduceSub, Nat.reduceMul, Nat.reduceLeDiff, Nat.reduceLT, Int.reduceEq, Int.reduceAdd, Int.reduceSub, Int.reduceMul, Int.reduceLT, Int.reduceLE, Int.reduceNeg, Int.reduceToNat, wrap_i64, wrap_u64, wrap_u8, wrap_u16, wrap_u32, wrap_i32, base_get0, base_get, base_set0, base_set, base_take, take_self, take_app1, hn, h0, h1, h8]
      refine ⟨fun hlt => ?_, fun hlt => ?_⟩
      · have hlt' : j < l.length := by omega
        simp (maxSteps := 2000000) (disch := omega) only [F1, ↓Int.cast_ofNat_Int, ↓R1, R2, C1, P1, O1, V1, V2, V3, reduceCtorEq, Nat.reduceEqDiff, Nat.reduceBEq, Nat.reduceAdd, Nat.reduceSub, Nat.reduceMul, Nat.reduceLeDiff, Nat.reduceLT, Int.reduceEq, Int.reduceAdd, Int.reduceSub, Int.reduceMul, Int.reduceLT, Int.reduceLE, Int.reduceNeg, Int.reduceToNat, wrap_i64, wrap_u64, wrap_u8, wrap_u16, wrap_u32, wrap_i32, base_get0, base_get, base_set0, base_set, base_take, take_self, take_app1, hv.addrM, hv.loadM, B1, hlt, h1]
        refine congrArg AV.bool (Bool.eq_iff_iff.2 ?_)
        simp [hlt']; omega
      · refine congrArg AV.bool (Bool.eq_iff_iff.2 ?_)
        simp; omega
    simp (maxSteps := 2000000) (disch := omega) only [condK_dec, F1, ↓Int.cast_ofNat_Int, ↓R1, R2, C1, P1, O1, V1, V2, V3, reduceCtorEq, Nat.reduceEqDiff, Nat.reduceBEq, Nat.reduceAdd, Nat.reduceSub, Nat.reduceMul, Nat.reduceLeDiff, Nat.reduceLT, Int.reduceEq, Int.reduceAdd, Int.reduceSub, Int.reduceMul, Int.reduceLT, Int.reduceLE, Int.reduceNeg, Int.reduceToNat, wrap_i64, wrap_u64, wrap_u8, wrap_u16, wrap_u32, wrap_i32, base_get0, base_get, base_set0, base_set, base_take, take_self, take_app1, h0, h1, h5, h6, h7, h8]
    refine ⟨fun hq => ?_, fun hq => ?_⟩
    · have : ((j : Int) - k + 1) = ((j + 1 : Nat) : Int) - k := by omega
      simp (maxSteps := 2000000) (disch := omega) only [F1, ↓Int.cast_ofNat_Int, ↓R1, R2, C1, P1, O1, V1, V2, V3, reduceCtorEq, Nat.reduceEqDiff, Nat.reduceBEq, Nat.reduceAdd, Nat.reduceSub, Nat.reduceMul, Nat.reduceLeDiff, Nat.reduceLT, Int.reduceEq, Int.reduceAdd, Int.reduceSub, Int.reduceMul, Int.reduceLT, Int.reduceLE, Int.reduceNeg, Int.reduceToNat, wrap_i64, wrap_u64, wrap_u8, wrap_u16, wrap_u32, wrap_i32, base_get0, base_get, base_set0, base_set, base_take, take_self, take_app1, h0, h1, h5, h6, h7, h8, this]
      exact ⟨hq.1, by omega, fun m h3 h4 => by
        by_cases e : m = j
        · rw [e]; exact hq.2
        · exact hm m h3 (by omega)⟩
    · have hr : runL l t k = j - k := runL_at hkj hj hm (by
        by_cases hlt : j < l.length
        · right; exact Classical.byContradiction fun hc => hq ⟨hlt, hc⟩
        · left; omega)
      have hr' : ((j : Int) - k) = (runL l t k : Nat) := by omega
      simp (maxSteps := 2000000) (disch := omega) only [condK_dec, F1, ↓Int.cast_ofNat_Int, ↓R1, R2, C1, P1, O1, V1, V2, V3, reduceCtorEq, Nat.reduceEqDiff, Nat.reduceBEq, Nat.reduceAdd, Nat.reduceSub, Nat.reduceMul, Nat.reduceLeDiff, Nat.reduceLT, Int.reduceEq, Int.reduceAdd, Int.reduceSub, Int.reduceMul, Int.reduceLT, Int.reduceLE, Int.reduceNeg, Int.reduceToNat, wrap_i64, wrap_u64, wrap_u8, wrap_u16, wrap_u32, wrap_i32, base_get0, base_get, base_set0, base_set, base_take, take_self, take_app1, h0, h1, h5, h6, h7, h8, hr']
      refine ⟨fun hg => ?_, fun hg => ?_⟩
      · exact ⟨hk', congrArg (AV.int .i64) (by simp only [best]; omega)⟩
      · exact ⟨hk', congrArg (AV.int .i64) (by simp only [best]; omega)⟩
  · have : k = l.length := by omega
    subst this
    simp (maxSteps := 2000000) (disch := omega) only [F1, ↓Int.cast_ofNat_Int, ↓R1, R2, C1, P1, O1, V1, V2, V3, reduceCtorEq, Nat.reduceEqDiff, Nat.reduceBEq, Nat.reduceAdd, Nat.reduceSub, Nat.reduceMul, Nat.reduceLeDiff, Nat.reduceLT, Int.reduceEq, Int.reduceAdd, Int.reduceSub, Int.reduceMul, Int.reduceLT, Int.reduceLE, Int.reduceNeg, Int.reduceToNat, wrap_i64, wrap_u64, wrap_u8, wrap_u16, wrap_u32, wrap_i32, base_get0, base_get, base_set0, base_set, base_take, take_self, take_app1, take_self hN]

theorem tail_ne (l : List Nat) (t : Nat) : ∀ k m, k - tail l t k ≤ m → m < k → l.getD m default ≠ t
  | 0, m, _, h => by omega
  | k + 1, m, h, h' => by
    simp only [tail] at h
    split at h
    · omega
    · rename_i hne
      by_cases e : m = k
      · rw [e]; exact hne
      · exact tail_ne l t k m (by omega) (by omega)

theorem le_tail {l : List Nat} {t i : Nat} : ∀ d, (∀ m, i ≤ m → m < i + d → l.getD m default ≠ t) → d ≤ tail l t (i + d)
  | 0, _ => Nat.zero_le _
  | d + 1, h => by
    have := le_tail d (fun m h1 h2 => h m h1 (by omega))
    rw [← Nat.add_assoc, tail, if_neg (h _ (by omega) (by omega))]
    omega

theorem runL_ne {l : List Nat} {t i : Nat} (m : Nat) (h1 : i ≤ m) (h2 : m < i + runL l t i) : l.getD m default ≠ t ∧ m < l.length := by
  unfold runL at h2
  have hlt : m - i < ((l.drop i).takeWhile (fun b => decide (b ≠ t))).length := by omega
  have hmem := List.getElem_mem hlt
  have hp : (fun b => decide (b ≠ t)) (((l.drop i).takeWhile (fun b => decide (b ≠ t)))[m - i]) = true := List.all_eq_true.1 (List.all_takeWhile (p := fun b => decide (b ≠ t)) (l := l.drop i)) _ hmem
  have hl := (List.takeWhile_prefix (p := fun b => decide (b ≠ t)) (l := l.drop i)).length_le
  rw [List.length_drop] at hl
  have e : ((l.drop i).takeWhile (fun b => decide (b ≠ t)))[m - i] = l[m] := by
    have := List.takeWhile_prefix (p := fun b => decide (b ≠ t)) (l := l.drop i)
    rw [List.IsPrefix.getElem this hlt, List.getElem_drop]
    congr 1; omega
  rw [e] at hp
  refine ⟨?_, by omega⟩
  rw [List.getD_eq_getElem?_getD, List.getElem?_eq_getElem (by omega)]
  simpa using hp

theorem le_runL {l : List Nat} {t i : Nat} : ∀ d, i + d ≤ l.length → (∀ m, i ≤ m → m < i + d → l.getD m default ≠ t) → d ≤ runL l t i
  | 0, _, _ => Nat.zero_le _
  | d + 1, hl, h => by
    have hlt : i < l.length := by omega
    unfold runL
    rw [List.drop_eq_getElem_cons hlt, List.takeWhile_cons]
    have h0 : l[i] ≠ t := by
      have := h i (Nat.le_refl _) (by omega)
      rw [List.getD_eq_getElem?_getD, List.getElem?_eq_getElem hlt] at this
      simpa using this
    rw [if_pos (by simpa using h0), List.length_cons]
    have := le_runL (i := i + 1) d (by omega) (fun m h1 h2 => h m (by omega) (by omega))
    unfold runL at this
    omega

theorem best_ge {l : List Nat} {t i : Nat} : ∀ {k : Nat}, i < k → runL l t i ≤ best l t k
  | 0, h => by omega
  | k + 1, h => by
    simp only [best]
    by_cases e : i = k
    · rw [e]; omega
    · have := best_ge (l := l) (t := t) (i := i) (k := k) (by omega); omega

theorem most_ge {l : List Nat} {t i : Nat} : ∀ {k : Nat}, i ≤ k → tail l t i ≤ most l t k
  | 0, h => by
    have : i = 0 := by omega
    subst this; exact Nat.le_refl _
  | k + 1, h => by
    simp only [most]
    by_cases e : i = k + 1
    · rw [e]; omega
    · have := most_ge (l := l) (t := t) (i := i) (k := k) (by omega); omega

theorem most_best (l : List Nat) (t : Nat) : ∀ k, k ≤ l.length → most l t k ≤ best l t l.length
  | 0, _ => Nat.zero_le _
  | k + 1, h => by
    have h1 := most_best l t k (by omega)
    have h2 : tail l t (k + 1) ≤ best l t l.length := by
      have hb := tail_le l t (k + 1)
      by_cases hz : tail l t (k + 1) = 0
      · omega
      · have := le_runL (l := l) (t := t) (i := k + 1 - tail l t (k + 1)) (tail l t (k + 1)) (by omega) (fun m h1 h2 => tail_ne l t (k + 1) m h1 (by omega))
        have := best_ge (l := l) (t := t) (i := k + 1 - tail l t (k + 1)) (k := l.length) (by omega)
        omega
    simp only [most]; omega

theorem best_most (l : List Nat) (t : Nat) : ∀ k, k ≤ l.length → best l t k ≤ most l t l.length
  | 0, _ => Nat.zero_le _
  | k + 1, h => by
    have h1 := best_most l t k (by omega)
    have h2 : runL l t k ≤ most l t l.length := by
      have := le_tail (l := l) (t := t) (i := k) (runL l t k) (fun m h1 h2 => (runL_ne m h1 h2).1)
      have hle : k + runL l t k ≤ l.length := by
        by_cases hz : runL l t k = 0
        · omega
        · have := (runL_ne (l := l) (t := t) (i := k) (k + runL l t k - 1) (by omega) (by omega)).2
          omega
      have := most_ge (l := l) (t := t) (i := k + runL l t k) (k := l.length) hle
      omega
    simp only [best]; omega

theorem gaps_eq (l : List Nat) (t : Nat) : most l t l.length = best l t l.length :=
  Nat.le_antisymm (most_best l t _ (Nat.le_refl _)) (best_most l t _ (Nat.le_refl _))

theorem part_all {a : List AV} {m : Nat} (h : a.length = m) : Den.part true m a 0 = some (.agg a) := by
  unfold Den.part
  simp only [if_true, List.drop_zero]
  rw [if_pos (by omega), List.take_of_length_le (by omega)]

theorem Next_D (cs : List AV) (hcs : cs.length = 6) (hr : refsL cs = 0) (H : List AObj) (lo : Option Nat) : D X (.fn (.func fn_sched_Policy_Next) [] []) [.agg cs, .nilp] ⟨H, lo⟩ = some (.ret (.tup [.agg cs, .int .u8 0, .bool false, .int .i64 1]) ⟨H, lo⟩) := by
  refine D_fn pf_sched_Policy_Next rfl rfl rfl fun N hN => ?_
  have e0 : eqA .ptr .nilp .nilp = some true := rfl
  have e1 : cs.take 6 = cs := List.take_of_length_le (by omega)
  have e2 : cs.drop 6 = [] := List.drop_eq_nil_of_le (by omega)
  simp (maxSteps := 2000000) (disch := omega) only [F1, ↓Int.cast_ofNat_Int, ↓R1, R2, C1, P1, O1, V1, V2, V3, reduceCtorEq, Nat.reduceEqDiff, Nat.reduceBEq, Nat.reduceAdd, Nat.reduceSub, Nat.reduceMul, Nat.reduceLeDiff, Nat.reduceLT, Int.reduceEq, Int.reduceAdd, Int.reduceSub, Int.reduceMul, Int.reduceLT, Int.reduceLE, Int.reduceNeg, Int.reduceToNat, wrap_i64, wrap_u64, wrap_u8, wrap_u16, wrap_u32, wrap_i32, base_get0, base_get, base_set0, base_set, base_take, take_self, take_app1, pf_sched_Policy_Next, Q1, e0, hN, hcs, e1, e2, hr, List.drop_succ_cons, List.drop_zero, List.append_nil]

theorem SchedGaps_D (v : AV) (l : List Nat) (hv : Rv v 1 (l.map B1)) (t : Nat) (cs : List AV) (hcs : cs.length = 6) (hr : refsL cs = 0) (H : List AObj) (lo : Option Nat) : D X (.fn (.func fn_law25_SchedGaps) [] []) [v, .int .u8 t, .agg cs] ⟨H, lo⟩ = some (.ret (.bool true) ⟨H, lo⟩) := by
  refine D_fn pf_law25_SchedGaps rfl rfl rfl fun N hN => ?_
  have t6 : cs.take 6 = cs := List.take_of_length_le (by omega)
  have d6 : cs.drop 6 = [] := List.drop_eq_nil_of_le (by omega)
  simp (maxSteps := 2000000) (disch := omega) only [condK_dec, F1, ↓Int.cast_ofNat_Int, ↓R1, R2, C1, P1, O1, V1, V2, V3, reduceCtorEq, Nat.reduceEqDiff, Nat.reduceBEq, Nat.reduceAdd, Nat.reduceSub, Nat.reduceMul, Nat.reduceLeDiff, Nat.reduceLT, Int.reduceEq, Int.reduceAdd, Int.reduceSub, Int.reduceMul, Int.reduceLT, Int.reduceLE, Int.reduceNeg, Int.reduceToNat, wrap_i64, wrap_u64, wrap_u8, wrap_u16, wrap_u32, wrap_i32, base_get0, base_get, base_set0, base_set, base_take, take_self, take_app1, pf_law25_SchedGaps, hv.lenM, wakes_X, hN, hcs, t6, d6, hr, Next_D cs hcs hr]
  refine ⟨fun h => ?_, fun h => ?_⟩
  · trivial
  · have hl : l.length ≤ 1000 := by omega
    simp (maxSteps := 2000000) (disch := omega) only [F1, ↓Int.cast_ofNat_Int, ↓R1, R2, C1, P1, O1, V1, V2, V3, reduceCtorEq, Nat.reduceEqDiff, Nat.reduceBEq, Nat.reduceAdd, Nat.reduceSub, Nat.reduceMul, Nat.reduceLeDiff, Nat.reduceLT, Int.reduceEq, Int.reduceAdd, Int.reduceSub, Int.reduceMul, Int.reduceLT, Int.reduceLE, Int.reduceNeg, Int.reduceToNat, wrap_i64, wrap_u64, wrap_u8, wrap_u16, wrap_u32, wrap_i32, base_get0, base_get, base_set0, base_set, base_take, take_self, take_app1, wakes_X, Next_D cs hcs hr, Gap_D v l hv hl, refGap_D v l hv hl, gaps_eq]

end Go.Proofs.YtohnmnbdmcoflaaGreatDoor

/- What the row of this law needs: the listed variables, the primitives, the call, the arguments. -/
namespace Go.Proofs.YtohnmnbdmcoflaaGreatDoor
open Go Go.Den Go.RowKit Go.ChangeShapes Go.WideShapes Go.ChangeAt
set_option maxRecDepth 100000

theorem own : ownKnob Tryz.prog.godebug = none := by kernel_rfl

theorem lookup_mem {α : Type} {k : Nat} {v : α} : ∀ {l : List (Nat × α)}, l.lookup k = some v → (k, v) ∈ l
  | [], h => by cases h
  | (a, b) :: l, h => by
    rw [List.lookup_cons] at h
    split at h
    · rename_i hk
      cases h
      rw [beq_iff_eq.1 hk]; exact List.mem_cons_self
    · exact List.mem_cons_of_mem _ (lookup_mem h)

noncomputable def fnAt (nm : List UInt8) : List Nat := (List.range Tryz.prog.funcs.size).filter fun f => (Tryz.prog.funcs[f]?).any (·.name.toUTF8.data.toList == nm)

theorem does_one : tab_g_model_does.all (fun x => fnAt x.2.1 == [x.2.2]) = true := by kernel_rfl
theorem does_ne : tab_g_model_does.all (fun x => !x.2.1.isEmpty) = true := by kernel_rfl
theorem does_nd : tab_g_model_does.Pairwise fun x y => x.1 ≠ y.1 := by decide
theorem kinds_one : tab_g_sched_kinds.all (fun x => fnAt x.2.1 == [x.2.2]) = true := by kernel_rfl
theorem kinds_ne : tab_g_sched_kinds.all (fun x => !x.2.1.isEmpty) = true := by kernel_rfl
theorem kinds_nd : tab_g_sched_kinds.Pairwise fun x y => x.1 ≠ y.1 := by decide

abbrev Laid (W : World) : Prop := laidMetH Tryz.prog Rows.schedGapsRow.laid W

abbrev MapAt (W : World) (g : Nat) (es : List (AV × AV)) : Prop := g < W.heap.size ∧ ∃ es' r ms clock, r < W.heap.size ∧ W.cell? ⟨g, 0, none⟩ = some (.map (some r)) ∧ W.heap[r]? = some (.map ms clock) ∧ MRel (G0 W.heap.size W) es' ms.toList ∧ ∀ k v, findKeyA k es = some v → findKeyA k es' = some v

theorem does_at {W : World} (h : Laid W) : MapAt W g_model_does (funcsM tab_g_model_does) :=
  funcs_map (h.funcs List.mem_cons_self) rfl (by kernel_rfl) (t := 298) (by kernel_rfl) Tryz.underlying298 Tryz.underlying5 Tryz.underlying296
    (fun x hx => by have := List.all_eq_true.1 does_one x hx; exact beq_iff_eq.1 this) (fun x hx e => by have := List.all_eq_true.1 does_ne x hx; rw [e] at this; cases this) does_nd

theorem kinds_at {W : World} (h : Laid W) : MapAt W g_sched_kinds (funcsM tab_g_sched_kinds) :=
  funcs_map (h.funcs (List.mem_cons_of_mem _ List.mem_cons_self)) rfl (by kernel_rfl) (t := 114) (by kernel_rfl) Tryz.underlying114 Tryz.underlying5 Tryz.underlying113
    (fun x hx => by have := List.all_eq_true.1 kinds_one x hx; exact beq_iff_eq.1 this) (fun x hx e => by have := List.all_eq_true.1 kinds_ne x hx; rw [e] at this; cases this) kinds_nd

theorem glob_map {W : World} {g : Nat} {es : List (AV × AV)} (h : MapAt W g es) : g < W.heap.size ∧ ∃ vs : List Value, (∀ (j : Nat) v, vs[j]? = some v → W.cell? ⟨g, j, none⟩ = some v) ∧ Den.Leaves vs ∧ Den.LRel (G0 W.heap.size W) [AV.mglob g] vs := by
  obtain ⟨h1, es', r, ms, clock, q1, q2, q3, q4, q5⟩ := h
  refine ⟨h1, [.map (some r)], fun j v hj => ?_, fun v hv => by simp at hv; subst hv; rfl, LRel.single.2 ⟨⟨r, rfl⟩, ?_⟩⟩
  · match j, hj with
    | 0, hj => cases hj; exact q2
  · show (if g < W.heap.size then W.cell? ⟨g, 0, none⟩ else none) = _
    rw [if_pos h1]; exact q2

theorem glob_ok0 {W : World} (h : Laid W) : GlobOk X0 W.heap.size W := by
  have h1 := does_at h
  have h2 := kinds_at h
  refine ⟨fun g cs hg => ?_, fun g es hg => ?_⟩
  · have hg' : (if g = g_sched_kinds then some [AV.mglob g_sched_kinds] else if g = g_model_does then some [AV.mglob g_model_does] else none) = some cs := hg
    split at hg'
    · rename_i e; subst e; cases hg'; exact glob_map h2
    · split at hg'
      · rename_i e; subst e; cases hg'; exact glob_map h1
      · cases hg'
  · have hg' : (if g = g_sched_kinds then some (funcsM tab_g_sched_kinds) else if g = g_model_does then some (funcsM tab_g_model_does) else none) = some es := hg
    split at hg'
    · rename_i e; subst e; cases hg'; exact h2
    · split at hg'
      · rename_i e; subst e; cases hg'; exact h1
      · cases hg'

theorem code_ok0 : CodeOk Tryz.prog X0 := fun f pf h => codeT_ok _ (lookup_mem (show codeT.lookup f = some pf from h))

theorem recs_ok : RecsOk Tryz.prog recs := fun g pr h => by
  have hm := lookup_mem (show recT.lookup g = some pr from h)
  simp only [recT, List.mem_cons, Prod.mk.injEq, List.mem_nil_iff, or_false] at hm
  obtain ⟨rfl, rfl⟩ := hm
  exact ⟨false, Tryz.f162, Tryz.func162, okR_Pmodel_caller_calls_1⟩

theorem calls_ok {B : Nat} {w : World} (hg : GlobOk X0 B w) : PrimOk Tryz.prog B w fn_Pmodel_caller_calls pCalls :=
  primD_D hg code_ok0 (fun f p hp => by cases hp) recs_ok Tryz.func111 okD_Pmodel_caller_calls

theorem prim1_ok (B : Nat) (w : World) (hg : GlobOk X1 B w) : ∀ f p, X1.prim f = some p → PrimOk Tryz.prog B w f p := by
  intro f p hp
  have hp' : (if f = fn_Pmodel_caller_calls then some pCalls else none) = some p := hp
  split at hp'
  · rename_i e; subst e; cases hp'; exact calls_ok hg
  · cases hp'

theorem prim_ok {B : Nat} {w : World} (hg : GlobOk X0 B w) : ∀ f p, X.prim f = some p → PrimOk Tryz.prog B w f p := by
  intro f p hp
  have hp' : (if f = fn_Pmodel_caller_calls then some pCalls else if f = fn_law25_wakes then some (closedP true) else none) = some p := hp
  split at hp'
  · rename_i e; subst e; cases hp'; exact calls_ok hg
  · split at hp'
    · rename_i e; subst e; cases hp'
      obtain ⟨σ, hσ⟩ := wakes_D
      exact PrimOk.closed (X := X1) code_ok0 prim1_ok hσ hg
    · cases hp'

/-- The call. -/
theorem law_calls {W : World} (hL : Laid W) {f : FuncId} {fn : Func} (hfn : Tryz.prog.funcs[f]? = some fn) (hb : fn.body.isSome = true) (hname : (fn.name == "runtime.NumGoroutine") = false)
    {args : List AV} {args' : Array Value} (hl : LRel (Gh.start W) args args'.toList) {σ : AS} (h : D X (.fn (.func f) [] []) args ⟨[], none⟩ = some (.ret (.bool true) σ)) :
    Calls Tryz.prog f args' W fun e w' => e = .returned (.bool true) ∧ Below W.heap.size W w' := by
  refine (D_calls (X := X) (glob_ok0 hL) code_ok0 (prim_ok (glob_ok0 hL)) hfn hb hname hl h).mono ?_
  rintro e w' ⟨G, v', rfl, hv, hbl⟩
  obtain rfl : v' = .bool true := hv
  exact ⟨rfl, hbl⟩

/-- The door's own heap meets the condition. -/
theorem door_met (os : Os) (args : Array Value) : Laid ((World.doorLaid Tryz.prog 600 os).forCall (fun _ _ => 0) ⟨#[], args, []⟩).memory :=
  laidMetH_of_parts3 (fuel := 8) (laidMet_of_run' 8 (by kernel_rfl) (by kernel_rfl)) (by kernel_rfl) (by kernel_rfl)

section
variable {H : Type} {enc : TypeId × Value → H} {W : World} {sp : Nat → Bool} {held : Bool} {base : Nat} {v : Value} {d : DataW H} {ps : List MemPlace}

theorem rv_of {x : AV} {sz : Nat} {els : List (List AV)} (h : Rv0 x sz els) : Rv x sz els := by
  rcases h with ⟨rfl, rfl⟩ | ⟨rfl, h⟩
  · exact Rv.nils
  · exact Rv.sl h

theorem u8_at {f : Nat} {b : List AV} (h : AtOk Tryz.prog (f + 1) 5 d b) : ∃ n : Nat, b = [.int .u8 n] ∧ n < 256 := by
  unfold AtOk at h
  rw [Tryz.underlying5] at h
  obtain ⟨n, _, rfl, hw⟩ := h
  have : 0 ≤ n ∧ n ≤ 255 := by simpa [Lit.wf, IntKind.min, IntKind.max, IntKind.signed, IntKind.bits] using hw
  exact ⟨n.toNat, by rw [Int.toNat_of_nonneg this.1], by omega⟩

theorem bytes_at : ∀ els : List (List AV), (∀ el ∈ els, ∃ d' : DataW H, AtOk Tryz.prog 8 5 d' el) → ∃ l : List Nat, els = l.map B1
  | [], _ => ⟨[], rfl⟩
  | el :: els, h => by
    obtain ⟨l, rfl⟩ := bytes_at els (fun e he => h e (List.mem_cons_of_mem _ he))
    obtain ⟨d', h1⟩ := h el List.mem_cons_self
    obtain ⟨n, rfl, _⟩ := u8_at h1
    exact ⟨n :: l, rfl⟩

theorem open_bytes (hok : Value.okWide Tryz.prog W .any base 27 v) (h : DataW.Trod enc Tryz.prog W 0 sp held 27 v d ps) :
    ∃ (x : AV) (l : List Nat), VRel (Gh.start W) x v ∧ Rv x 1 (l.map B1) := by
  obtain ⟨x, els, h1, h2, h3, h4⟩ := open_sl (f := 8) (sz := 1) Tryz.underlying27 (by kernel_rfl) (by kernel_rfl) hok h
  obtain ⟨l, rfl⟩ := bytes_at els h4
  exact ⟨x, l, h1, rv_of h2⟩

theorem open_u8 (hok : Value.okWide Tryz.prog W .any base 5 v) (h : DataW.Trod enc Tryz.prog W 0 sp held 5 v d ps) : ∃ n : Nat, v = .int .u8 n ∧ n < 256 := by
  obtain ⟨n, rfl, _, _, hw⟩ := open_int Tryz.underlying5 hok h
  have : 0 ≤ n ∧ n ≤ 255 := by simpa [Lit.wf, IntKind.min, IntKind.max, IntKind.signed, IntKind.bits] using hw
  exact ⟨n.toNat, by rw [Int.toNat_of_nonneg this.1], by omega⟩

theorem open_policy (hok : Value.okWide Tryz.prog W .any base 30 v) (h : DataW.Trod enc Tryz.prog W 0 sp held 30 v d ps) : ∃ xs : List AV, VRel (Gh.start W) (.agg xs) v ∧ xs.length = 6 ∧ refsL xs = 0 := by
  obtain ⟨xs, h1, h2, h3⟩ := open_agg (f := 8) Tryz.underlying30 (by kernel_rfl) hok h
  exact ⟨xs, h1, h3.trans (by kernel_rfl), atOk_refs _ _ _ _ h2⟩
end

end Go.Proofs.YtohnmnbdmcoflaaGreatDoor

/- THE LAW SchedGaps: the row's statement and the card. -/
namespace Go.Proofs.YtohnmnbdmcoflaaGreatDoor
open Go Go.Den Go.RowKit Go.ChangeShapes Go.WideShapes Go.ChangeAt
set_option maxRecDepth 100000

theorem schedGaps_lifted (os : Os) (started : os.Started) (H : Type) (enc : TypeId × Value → H) :
    ReturnsInHanded {} Tryz.checked os 4 .any (fun w args => (Rows.schedGapsSpec.pre enc Tryz.prog Tryz.f4 [] false w args ∧ laidMetH Tryz.prog Rows.schedGapsRow.laid w) ∧ sizedMet enc Tryz.prog Tryz.f4 (OpenSpec.ofChange Rows.schedGapsSpec) false w args)
      (Rows.schedGapsSpec.post enc Tryz.prog Tryz.f4 false true false false) := by
  refine returnsInHanded_of_change_and (C := Tryz.checked) (X := fun w _ => laidMetH Tryz.prog Rows.schedGapsRow.laid w) (fun _ _ _ hh h => h.of_heap hh) own started (by kernel_rfl) Tryz.func4
    (ChangeSpec.witness_shaped (enc := enc) (C := Tryz.checked) (os := os) (X := fun w _ => laidMetH Tryz.prog Rows.schedGapsRow.laid w) false (World.doorLaid Tryz.prog 600 os) #[.slice none 0 0, .int .u8 0, .agg #[.int .u8 0, .slice none 0 0, .int .u64 0, .int .i64 0, .int .u8 0, .int .i64 0]] 8 rfl (World.shaped_of_RefB (by kernel_rfl) (by kernel_rfl)) (by kernel_rfl) (by kernel_rfl) (by kernel_rfl) (door_met os _)) ?_
  intro W base args ds gs before hval0 hW _ _ hL _
  have hval : ∀ (j : Nat) t v, Tryz.f4.params[j]? = some t → args[j]? = some v → Value.okWide Tryz.prog W .any base t v := hval0
  have hW' := hW
  obtain ⟨p, q, hA0, hV, rfl, _, _⟩ := hW
  have hA : DataW.TrodAll enc Tryz.prog W 0 (fun _ => true) true Tryz.f4.params.toList args.toList ds p := hA0
  have hlt := hW'.lt
  rw [Tryz.params4] at hA hval
  obtain ⟨v0, v1, v2, d0, d1, d2, p0, p1, p2, rfl, rfl, rfl, h0, h1, h2⟩ := trodAll_three hA
  obtain ⟨rfl, rfl⟩ := trodVars_none hV
  obtain ⟨x0, l0, hx0, hr0⟩ := open_bytes (hval 0 27 v0 rfl rfl) h0
  obtain ⟨k1, rfl, hk1⟩ := open_u8 (hval 1 5 v1 rfl rfl) h1
  obtain ⟨x2, hx2, hl2, hr2⟩ := open_policy (hval 2 30 v2 rfl rfl) h2
  refine (law_calls hL (f := 4) Tryz.func4 (by kernel_rfl) (by kernel_rfl) (args := [x0, .int .u8 k1, .agg x2]) ⟨_, _, rfl, hx0, _, _, rfl, rfl, _, _, rfl, hx2, rfl⟩
    (SchedGaps_D x0 l0 hr0 k1 x2 hl2 hr2 [] none)).mono fun e W' ⟨he, hb⟩ => ?_
  subst he
  exact ⟨_, rfl, _, _, _, [], _, [], hW', trodAll_mk1 (shut_bool Tryz.underlying4 _), below_all (by kernel_rfl) hb (by kernel_rfl) hA (fun y hy => hlt y (List.mem_append_left _ hy)), rfl, hb.frame _, fun h => by cases h⟩

theorem fact1 : (Rows.schedGapsRow.inPlace == Tryz.pinned.checked.prog.inPlace 4) = true := by kernel_rfl
theorem fact2 : (Rows.schedGapsRow.unfollowed == Tryz.pinned.checked.prog.unfollowed 4) = true := by kernel_rfl
theorem fact3 : (Rows.schedGapsRow.recurses == Tryz.pinned.checked.prog.recurses 4) = true := by kernel_rfl
theorem fact4 : (Rows.schedGapsRow.named == Tryz.pinned.checked.prog.varsNamed 4) = true := by kernel_rfl
theorem fact5 : joinedFacts Tryz.pinned.checked.prog 4 Tryz.f4 Rows.schedGapsSpec Rows.schedGapsRow = true := by
  unfold joinedFacts
  rw [fact1, fact2, fact3, fact4]
  kernel_rfl
theorem fact6 : Tryz.pinned.checked.prog.funcNamed Rows.schedGapsRow.func = some 4 := by kernel_rfl
theorem fact7 : Func.isInstance Tryz.pinned.checked.prog Tryz.f4 Rows.schedGapsRow.origin Rows.schedGapsRow.targs := of_decide_eq_true (by kernel_rfl)
theorem fact8 : Func.isWrapper Tryz.pinned.checked.prog Tryz.f4 Rows.schedGapsRow.wrapper Rows.schedGapsRow.mainSum := by
  unfold Func.isWrapper; first | (rw [if_pos (by decide +kernel)]; kernel_rfl) | (rw [if_neg (by decide +kernel)]; exact ⟨rfl, rfl⟩)

theorem schedGaps_holds : Rows.SchedGapsSaid :=
  OpenClaim.holds_of_wide 4 Tryz.f4 rfl rfl rfl rfl rfl rfl rfl ⟨rfl, rfl, rfl, rfl, rfl⟩ rfl rfl rfl rfl rfl fact6 Tryz.func4 fact5 fact7 fact8
    (fun os started H enc _ => schedGaps_lifted os started H enc)

theorem schedGaps_card : Rows.SchedGapsCardSaid :=
  Claim7.holds_tied_plain_at .later [] [.funcs, .funcs] true (true, "7c6532da6cd88a64d0b804bf9b5b105e5ab35c40cc6c8aecf45c351029f0b69a") true schedGaps_holds (fun _ h => by cases h) (by kernel_rfl) (fun _ h => by cases h) schedGaps_row_tie rfl ⟨rfl, rfl⟩ (by kernel_rfl) rfl
    (fun f fn hf hfn => by
      obtain rfl : f = 4 := Option.some.inj ((show Tryz.prog.funcNamed "bailiwick/bailiwicklaw25.SchedGaps" = some 4 by kernel_rfl).symm.trans hf) |>.symm
      obtain rfl : fn = Tryz.f4 := (Option.some.inj (Tryz.func4.symm.trans hfn)).symm
      exact ⟨by kernel_rfl, fun j t ht => by
        rw [Tryz.params4] at ht
        have hm : t ∈ [27, 5, 30] := by simpa using Array.mem_of_getElem? ht
        have hall : ([27, 5, 30].all fun u => !Tryz.prog.wantsStandIn u) = true := by kernel_rfl
        exact (show Tryz.prog.wantsStandIn t = false by simpa using List.all_eq_true.1 hall t hm)⟩)
    (by kernel_rfl)
#print axioms schedGaps_card

end Go.Proofs.YtohnmnbdmcoflaaGreatDoor
